-- Printed by wip/myprint.py of this repo (over the kit's printer). Not trusted: Lean checks it.
import Derived.Test.YtiahfabhhkpdpaaP0
import Derived.Test.YtiahfabhhkpdpaaLShaftKnown
import Derived.Test.YtiahfabhhkpdpaaP0tipstaffkit
import Derived.Test.YtiahfabhhkpdpaaP0tipstafflaw07
import Derived.Test.YtiahfabhhkpdpaaP2shaft
import Derived.Test.YtiahfabhhkpdpaaSa
namespace Go.Proofs.Ytiahfabhhkpdpaa.P
open Go.RowKit Go.Proofs.YtiahfabhhkpdpaaW.PrintWords Go.Proofs.YtiahfabhhkpdpaaW.PrintLast Go.Proofs.YtiahfabhhkpdpaaW.PrintMore
attribute [local go_sem] max2_int min2_int max_two min_two max_three min_three max_four min_four   -- for this text's walks alone
set_option linter.unusedVariables false
set_option linter.unusedSimpArgs false

/-! ### tipstafflaw07_ShaftAscends: function 6 -/
mutual
def tipstafflaw07_ShaftAscends.j0 : Nat → Int → Int → Int → List Int → List Int → List Int → Bool → Option (Bool)
  | 0, _, _, _, _, _, _, _ => none
  | k + 1, x1, x2, x3, x10, x11, x15, x88 => if x88 = true then (none) else (tipstafflaw07_ShaftAscends.l0 k x1 x2 x3 x10 x11 x15 1)
def tipstafflaw07_ShaftAscends.l0 : Nat → Int → Int → Int → List Int → List Int → List Int → Int → Option (Bool)
  | 0, _, _, _, _, _, _, _ => none
  | k + 1, x1, x2, x3, x10, x11, x15, x17 => if x17 < (x11.length : Int) then (if 0 ≤ x17 then (if 0 ≤ (wrap64 (x17 - 1)) then (if (wrap64 (x17 - 1)) < (x11.length : Int) then (if (wrap64 (x17 - 1)) < (x10.length : Int) then (if (wrap64 ((rd x11 x17) - (rd x11 (wrap64 (x17 - 1))))) = (rd x10 (wrap64 (x17 - 1))) then (if x17 < (x15.length : Int) then (if (rd x15 x17) = x17 then (tipstafflaw07_ShaftAscends.l0 k x1 x2 x3 x10 x11 x15 (wrap64 (x17 + 1))) else (none)) else (none)) else (none)) else (none)) else (none)) else (none)) else (none)) else ((tipstaffkit_Mod.f x1 (x11.length : Int)).bind fun t430 => ((tipstaffkit_Mod.f x2 (x11.length : Int)).bind fun t431 => ((tipstaffkit_Mod.f x3 (x11.length : Int)).bind fun t432 => ((shaft_Distance.f x10 (mn (mn t430 t431) t432) (wrap64 ((wrap64 ((wrap64 ((wrap64 (t430 + t431)) + t432)) - (mn (mn t430 t431) t432))) - (mx (mx t430 t431) t432)))).bind fun bt433 => ((shaft_Distance.f x10 (mx (mx t430 t431) t432) (wrap64 ((wrap64 ((wrap64 ((wrap64 (t430 + t431)) + t432)) - (mn (mn t430 t431) t432))) - (mx (mx t430 t431) t432)))).bind fun bt435 => ((shaft_Distance.f x10 (mn (mn t430 t431) t432) (mx (mx t430 t431) t432)).bind fun bt437 => (if bt433.2 = 0 then (if bt435.2 = 0 then (if bt437.2 = 0 then (some ((wrap64 (bt433.1 + bt435.1)) == bt437.1)) else (none)) else (none)) else (none))))))))
end
def tipstafflaw07_ShaftAscends.f (k : Nat) (l0 : List Int) (a1 : Int) (a2 : Int) (a3 : Int) : Option (Bool) := (tipstafflaw07_ShaftKnown.f k).bind fun t410 => (if t410 = true then ((tipstafflaw07_made.f k l0).bind fun t411 => ((shaft_Positions.f t411).bind fun bt414 => ((shaft_Height.f t411).bind fun bt418 => ((shaft_Between.f k t411 0 bt418.1).bind fun bt420 => (if bt414.2 = 0 then (if bt418.2 = 0 then (if bt420.2 = 0 then (if (bt414.1.length : Int) = (wrap64 ((t411.length : Int) + 1)) then (if 0 < (bt414.1.length : Int) then (if (rd bt414.1 0) = 0 then (if 0 ≤ (t411.length : Int) then (if (t411.length : Int) < (bt414.1.length : Int) then (if (rd bt414.1 (t411.length : Int)) = bt418.1 then (tipstafflaw07_ShaftAscends.j0 k a1 a2 a3 t411 bt414.1 bt420.1 ((bt420.1.length : Int) != (bt414.1.length : Int))) else (tipstafflaw07_ShaftAscends.j0 k a1 a2 a3 t411 bt414.1 bt420.1 true)) else (none)) else (none)) else (tipstafflaw07_ShaftAscends.j0 k a1 a2 a3 t411 bt414.1 bt420.1 true)) else (none)) else (tipstafflaw07_ShaftAscends.j0 k a1 a2 a3 t411 bt414.1 bt420.1 true)) else (tipstafflaw07_ShaftAscends.j0 k a1 a2 a3 t411 bt414.1 bt420.1 true)) else (tipstafflaw07_ShaftAscends.j0 k a1 a2 a3 t411 bt414.1 bt420.1 true)) else (tipstafflaw07_ShaftAscends.j0 k a1 a2 a3 t411 bt414.1 bt420.1 true)))))) else (none))
theorem tipstafflaw07_ShaftAscends.mono_l : ∀ k, (∀ y0 y1 y2 y3 y4 y5 y6, LeO (tipstafflaw07_ShaftAscends.j0 k y0 y1 y2 y3 y4 y5 y6) (tipstafflaw07_ShaftAscends.j0 (k + 1) y0 y1 y2 y3 y4 y5 y6)) ∧ (∀ y0 y1 y2 y3 y4 y5 y6, LeO (tipstafflaw07_ShaftAscends.l0 k y0 y1 y2 y3 y4 y5 y6) (tipstafflaw07_ShaftAscends.l0 (k + 1) y0 y1 y2 y3 y4 y5 y6))
  | 0 => ⟨fun _ _ _ _ _ _ _ r h => by simp [tipstafflaw07_ShaftAscends.j0] at h, fun _ _ _ _ _ _ _ r h => by simp [tipstafflaw07_ShaftAscends.l0] at h⟩
  | k + 1 => by
    obtain ⟨ih0, ih1⟩ := tipstafflaw07_ShaftAscends.mono_l k
    refine ⟨?_, ?_⟩
    · intro y0 y1 y2 y3 y4 y5 y6
      unfold tipstafflaw07_ShaftAscends.j0
      repeat' first
      | (with_reducible exact ih0 _ _ _ _ _ _ _)
      | (with_reducible exact ih1 _ _ _ _ _ _ _)
      | (with_reducible exact shaft_Between.mono _ _ _ _)
      | (with_reducible exact tipstafflaw07_ShaftKnown.mono _)
      | (with_reducible exact tipstafflaw07_made.mono _ _)
      | (with_reducible exact LeO.refl _)
      | (with_reducible exact LeO.none _)
      | (with_reducible refine LeO.ite ?_ ?_)
      | (with_reducible refine LeO.bind ?_ (fun _ => ?_))
      | exact ih0 _ _ _ _ _ _ _
      | exact ih1 _ _ _ _ _ _ _
      | exact shaft_Between.mono _ _ _ _
      | exact tipstafflaw07_ShaftKnown.mono _
      | exact tipstafflaw07_made.mono _ _
      | exact LeO.none _
      | refine LeO.ite ?_ ?_
      | refine LeO.bind ?_ (fun _ => ?_)
    · intro y0 y1 y2 y3 y4 y5 y6
      unfold tipstafflaw07_ShaftAscends.l0
      repeat' first
      | (with_reducible exact ih0 _ _ _ _ _ _ _)
      | (with_reducible exact ih1 _ _ _ _ _ _ _)
      | (with_reducible exact shaft_Between.mono _ _ _ _)
      | (with_reducible exact tipstafflaw07_ShaftKnown.mono _)
      | (with_reducible exact tipstafflaw07_made.mono _ _)
      | (with_reducible exact LeO.refl _)
      | (with_reducible exact LeO.none _)
      | (with_reducible refine LeO.ite ?_ ?_)
      | (with_reducible refine LeO.bind ?_ (fun _ => ?_))
      | exact ih0 _ _ _ _ _ _ _
      | exact ih1 _ _ _ _ _ _ _
      | exact shaft_Between.mono _ _ _ _
      | exact tipstafflaw07_ShaftKnown.mono _
      | exact tipstafflaw07_made.mono _ _
      | exact LeO.none _
      | refine LeO.ite ?_ ?_
      | refine LeO.bind ?_ (fun _ => ?_)
theorem tipstafflaw07_ShaftAscends.mono : ∀ a0 a1 a2 a3 k, LeO (tipstafflaw07_ShaftAscends.f k a0 a1 a2 a3) (tipstafflaw07_ShaftAscends.f (k + 1) a0 a1 a2 a3) := by
  intro a0 a1 a2 a3 k
  obtain ⟨ih0, ih1⟩ := tipstafflaw07_ShaftAscends.mono_l k
  unfold tipstafflaw07_ShaftAscends.f
  repeat' first
      | (with_reducible exact ih0 _ _ _ _ _ _ _)
      | (with_reducible exact ih1 _ _ _ _ _ _ _)
      | (with_reducible exact shaft_Between.mono _ _ _ _)
      | (with_reducible exact tipstafflaw07_ShaftKnown.mono _)
      | (with_reducible exact tipstafflaw07_made.mono _ _)
      | (with_reducible exact LeO.refl _)
      | (with_reducible exact LeO.none _)
      | (with_reducible refine LeO.ite ?_ ?_)
      | (with_reducible refine LeO.bind ?_ (fun _ => ?_))
      | exact ih0 _ _ _ _ _ _ _
      | exact ih1 _ _ _ _ _ _ _
      | exact shaft_Between.mono _ _ _ _
      | exact tipstafflaw07_ShaftKnown.mono _
      | exact tipstafflaw07_made.mono _ _
      | exact LeO.none _
      | refine LeO.ite ?_ ?_
      | refine LeO.bind ?_ (fun _ => ?_)
set_option maxHeartbeats 8000000 in
set_option maxRecDepth 100000 in
theorem tipstafflaw07_ShaftAscends.calls (k : Nat) (A0 : Option Addr) (c0 : Nat) (l0 : List Int) (a1 : Int) (a2 : Int) (a3 : Int) (r : Bool) (w : World) (hr0 : Kd.C (Kd.int .i64) w A0 l0.length l0) (hc0 : l0.length ≤ c0) (h : tipstafflaw07_ShaftAscends.f k l0 a1 a2 a3 = some r) :
    Calls Try.prog 6 #[.slice A0 l0.length c0, .int .i64 a1, .int .i64 a2, .int .i64 a3] w fun e w' => e = .returned (.bool r) ∧ Below w.heap.size w w' := by
  have HR0 := Aside0.mk hr0
  have HC0 := Aside0.mk hc0
  clear hr0 hc0
  have HB := Aside0.mk (Below.refl w.heap.size w)
  have H : ((tipstafflaw07_ShaftKnown.f k).bind fun t410 => (if t410 = true then ((tipstafflaw07_made.f k l0).bind fun t411 => ((shaft_Positions.f t411).bind fun bt414 => ((shaft_Height.f t411).bind fun bt418 => ((shaft_Between.f k t411 0 bt418.1).bind fun bt420 => (if bt414.2 = 0 then (if bt418.2 = 0 then (if bt420.2 = 0 then (if (bt414.1.length : Int) = (wrap64 ((t411.length : Int) + 1)) then (if 0 < (bt414.1.length : Int) then (if (rd bt414.1 0) = 0 then (if 0 ≤ (t411.length : Int) then (if (t411.length : Int) < (bt414.1.length : Int) then (if (rd bt414.1 (t411.length : Int)) = bt418.1 then (tipstafflaw07_ShaftAscends.j0 k a1 a2 a3 t411 bt414.1 bt420.1 ((bt420.1.length : Int) != (bt414.1.length : Int))) else (tipstafflaw07_ShaftAscends.j0 k a1 a2 a3 t411 bt414.1 bt420.1 true)) else (none)) else (none)) else (tipstafflaw07_ShaftAscends.j0 k a1 a2 a3 t411 bt414.1 bt420.1 true)) else (none)) else (tipstafflaw07_ShaftAscends.j0 k a1 a2 a3 t411 bt414.1 bt420.1 true)) else (tipstafflaw07_ShaftAscends.j0 k a1 a2 a3 t411 bt414.1 bt420.1 true)) else (tipstafflaw07_ShaftAscends.j0 k a1 a2 a3 t411 bt414.1 bt420.1 true)) else (tipstafflaw07_ShaftAscends.j0 k a1 a2 a3 t411 bt414.1 bt420.1 true)))))) else (none))) = some r := h
  clear h
  replace H := Option.bind_eq_some_iff.mp H
  obtain ⟨t410, A50, H⟩ := H
  replace H : (if t410 = true then ((tipstafflaw07_made.f k l0).bind fun t411 => ((shaft_Positions.f t411).bind fun bt414 => ((shaft_Height.f t411).bind fun bt418 => ((shaft_Between.f k t411 0 bt418.1).bind fun bt420 => (if bt414.2 = 0 then (if bt418.2 = 0 then (if bt420.2 = 0 then (if (bt414.1.length : Int) = (wrap64 ((t411.length : Int) + 1)) then (if 0 < (bt414.1.length : Int) then (if (rd bt414.1 0) = 0 then (if 0 ≤ (t411.length : Int) then (if (t411.length : Int) < (bt414.1.length : Int) then (if (rd bt414.1 (t411.length : Int)) = bt418.1 then (tipstafflaw07_ShaftAscends.j0 k a1 a2 a3 t411 bt414.1 bt420.1 ((bt420.1.length : Int) != (bt414.1.length : Int))) else (tipstafflaw07_ShaftAscends.j0 k a1 a2 a3 t411 bt414.1 bt420.1 true)) else (none)) else (none)) else (tipstafflaw07_ShaftAscends.j0 k a1 a2 a3 t411 bt414.1 bt420.1 true)) else (none)) else (tipstafflaw07_ShaftAscends.j0 k a1 a2 a3 t411 bt414.1 bt420.1 true)) else (tipstafflaw07_ShaftAscends.j0 k a1 a2 a3 t411 bt414.1 bt420.1 true)) else (tipstafflaw07_ShaftAscends.j0 k a1 a2 a3 t411 bt414.1 bt420.1 true)) else (tipstafflaw07_ShaftAscends.j0 k a1 a2 a3 t411 bt414.1 bt420.1 true)))))) else (none)) = some r := H
  have A5 := Aside0.mk A50
  clear A50
  by_cases c6 : t410 = true
  · subst c6
    have H1 : ((tipstafflaw07_made.f k l0).bind fun t411 => ((shaft_Positions.f t411).bind fun bt414 => ((shaft_Height.f t411).bind fun bt418 => ((shaft_Between.f k t411 0 bt418.1).bind fun bt420 => (if bt414.2 = 0 then (if bt418.2 = 0 then (if bt420.2 = 0 then (if (bt414.1.length : Int) = (wrap64 ((t411.length : Int) + 1)) then (if 0 < (bt414.1.length : Int) then (if (rd bt414.1 0) = 0 then (if 0 ≤ (t411.length : Int) then (if (t411.length : Int) < (bt414.1.length : Int) then (if (rd bt414.1 (t411.length : Int)) = bt418.1 then (tipstafflaw07_ShaftAscends.j0 k a1 a2 a3 t411 bt414.1 bt420.1 ((bt420.1.length : Int) != (bt414.1.length : Int))) else (tipstafflaw07_ShaftAscends.j0 k a1 a2 a3 t411 bt414.1 bt420.1 true)) else (none)) else (none)) else (tipstafflaw07_ShaftAscends.j0 k a1 a2 a3 t411 bt414.1 bt420.1 true)) else (none)) else (tipstafflaw07_ShaftAscends.j0 k a1 a2 a3 t411 bt414.1 bt420.1 true)) else (tipstafflaw07_ShaftAscends.j0 k a1 a2 a3 t411 bt414.1 bt420.1 true)) else (tipstafflaw07_ShaftAscends.j0 k a1 a2 a3 t411 bt414.1 bt420.1 true)) else (tipstafflaw07_ShaftAscends.j0 k a1 a2 a3 t411 bt414.1 bt420.1 true)))))) = some r := by rw [if_pos rfl] at H; exact H
    clear H
    have H := H1
    clear H1
    replace H := Option.bind_eq_some_iff.mp H
    obtain ⟨t411, A70, H⟩ := H
    replace H : ((shaft_Positions.f t411).bind fun bt414 => ((shaft_Height.f t411).bind fun bt418 => ((shaft_Between.f k t411 0 bt418.1).bind fun bt420 => (if bt414.2 = 0 then (if bt418.2 = 0 then (if bt420.2 = 0 then (if (bt414.1.length : Int) = (wrap64 ((t411.length : Int) + 1)) then (if 0 < (bt414.1.length : Int) then (if (rd bt414.1 0) = 0 then (if 0 ≤ (t411.length : Int) then (if (t411.length : Int) < (bt414.1.length : Int) then (if (rd bt414.1 (t411.length : Int)) = bt418.1 then (tipstafflaw07_ShaftAscends.j0 k a1 a2 a3 t411 bt414.1 bt420.1 ((bt420.1.length : Int) != (bt414.1.length : Int))) else (tipstafflaw07_ShaftAscends.j0 k a1 a2 a3 t411 bt414.1 bt420.1 true)) else (none)) else (none)) else (tipstafflaw07_ShaftAscends.j0 k a1 a2 a3 t411 bt414.1 bt420.1 true)) else (none)) else (tipstafflaw07_ShaftAscends.j0 k a1 a2 a3 t411 bt414.1 bt420.1 true)) else (tipstafflaw07_ShaftAscends.j0 k a1 a2 a3 t411 bt414.1 bt420.1 true)) else (tipstafflaw07_ShaftAscends.j0 k a1 a2 a3 t411 bt414.1 bt420.1 true)) else (tipstafflaw07_ShaftAscends.j0 k a1 a2 a3 t411 bt414.1 bt420.1 true))))) = some r := H
    have A7 := Aside0.mk A70
    clear A70
    replace H := Option.bind_eq_some_iff.mp H
    obtain ⟨⟨t414, t415⟩, A80, H⟩ := H
    replace H : ((shaft_Height.f t411).bind fun bt418 => ((shaft_Between.f k t411 0 bt418.1).bind fun bt420 => (if t415 = 0 then (if bt418.2 = 0 then (if bt420.2 = 0 then (if (t414.length : Int) = (wrap64 ((t411.length : Int) + 1)) then (if 0 < (t414.length : Int) then (if (rd t414 0) = 0 then (if 0 ≤ (t411.length : Int) then (if (t411.length : Int) < (t414.length : Int) then (if (rd t414 (t411.length : Int)) = bt418.1 then (tipstafflaw07_ShaftAscends.j0 k a1 a2 a3 t411 t414 bt420.1 ((bt420.1.length : Int) != (t414.length : Int))) else (tipstafflaw07_ShaftAscends.j0 k a1 a2 a3 t411 t414 bt420.1 true)) else (none)) else (none)) else (tipstafflaw07_ShaftAscends.j0 k a1 a2 a3 t411 t414 bt420.1 true)) else (none)) else (tipstafflaw07_ShaftAscends.j0 k a1 a2 a3 t411 t414 bt420.1 true)) else (tipstafflaw07_ShaftAscends.j0 k a1 a2 a3 t411 t414 bt420.1 true)) else (tipstafflaw07_ShaftAscends.j0 k a1 a2 a3 t411 t414 bt420.1 true)) else (tipstafflaw07_ShaftAscends.j0 k a1 a2 a3 t411 t414 bt420.1 true)))) = some r := H
    have A8 := Aside0.mk A80
    clear A80
    replace H := Option.bind_eq_some_iff.mp H
    obtain ⟨⟨t418, t419⟩, A90, H⟩ := H
    replace H : ((shaft_Between.f k t411 0 t418).bind fun bt420 => (if t415 = 0 then (if t419 = 0 then (if bt420.2 = 0 then (if (t414.length : Int) = (wrap64 ((t411.length : Int) + 1)) then (if 0 < (t414.length : Int) then (if (rd t414 0) = 0 then (if 0 ≤ (t411.length : Int) then (if (t411.length : Int) < (t414.length : Int) then (if (rd t414 (t411.length : Int)) = t418 then (tipstafflaw07_ShaftAscends.j0 k a1 a2 a3 t411 t414 bt420.1 ((bt420.1.length : Int) != (t414.length : Int))) else (tipstafflaw07_ShaftAscends.j0 k a1 a2 a3 t411 t414 bt420.1 true)) else (none)) else (none)) else (tipstafflaw07_ShaftAscends.j0 k a1 a2 a3 t411 t414 bt420.1 true)) else (none)) else (tipstafflaw07_ShaftAscends.j0 k a1 a2 a3 t411 t414 bt420.1 true)) else (tipstafflaw07_ShaftAscends.j0 k a1 a2 a3 t411 t414 bt420.1 true)) else (tipstafflaw07_ShaftAscends.j0 k a1 a2 a3 t411 t414 bt420.1 true)) else (tipstafflaw07_ShaftAscends.j0 k a1 a2 a3 t411 t414 bt420.1 true))) = some r := H
    have A9 := Aside0.mk A90
    clear A90
    replace H := Option.bind_eq_some_iff.mp H
    obtain ⟨⟨t420, t421⟩, A100, H⟩ := H
    replace H : (if t415 = 0 then (if t419 = 0 then (if t421 = 0 then (if (t414.length : Int) = (wrap64 ((t411.length : Int) + 1)) then (if 0 < (t414.length : Int) then (if (rd t414 0) = 0 then (if 0 ≤ (t411.length : Int) then (if (t411.length : Int) < (t414.length : Int) then (if (rd t414 (t411.length : Int)) = t418 then (tipstafflaw07_ShaftAscends.j0 k a1 a2 a3 t411 t414 t420 ((t420.length : Int) != (t414.length : Int))) else (tipstafflaw07_ShaftAscends.j0 k a1 a2 a3 t411 t414 t420 true)) else (none)) else (none)) else (tipstafflaw07_ShaftAscends.j0 k a1 a2 a3 t411 t414 t420 true)) else (none)) else (tipstafflaw07_ShaftAscends.j0 k a1 a2 a3 t411 t414 t420 true)) else (tipstafflaw07_ShaftAscends.j0 k a1 a2 a3 t411 t414 t420 true)) else (tipstafflaw07_ShaftAscends.j0 k a1 a2 a3 t411 t414 t420 true)) else (tipstafflaw07_ShaftAscends.j0 k a1 a2 a3 t411 t414 t420 true)) = some r := H
    have A10 := Aside0.mk A100
    clear A100
    have HC11 := Aside0.mk H
    clear H
    go_enter Try.func6, Try.ntmps6
    go_upto_region 6 with (first | (go_at_call 5; (with_reducible refine (tipstafflaw07_ShaftKnown.calls k  true _ A5.out).mono ?_); rintro e w12 ⟨rfl, hb⟩; have n0_ := Aside0.mk (below_step (by repeat (first | (with_reducible first | exact HB.out | apply below_alloc | apply pw_below_drewN | apply below_drew1) | exact HB.out)) hb); clear HB; have HB := n0_; clear n0_; (try clear hb); (try clear hb2); (try clear hk); (try clear hi)) | (go_at_call 30; (with_reducible refine (tipstafflaw07_made.calls k _ _ l0 t411 _ ?side1 ?side2 A7.out).mono ?_); (case side1 => repeat (first | exact (Kd.C_below HR0.out HB.out) | (with_reducible refine Kd.C_alloc ?_ _) | (with_reducible refine Kd.C_drewN ?_ _) | (with_reducible refine Kd.C_drew ?_))); (case side2 => exact HC0.out); rintro e w13 ⟨v412, rfl, ho0, hb⟩; have n0_ := Aside0.mk (Kd.R_lower ho0 (below_size (by repeat (first | (with_reducible first | exact HB.out | apply below_alloc | apply pw_below_drewN | apply below_drew1) | exact HB.out)))); have n1_ := Aside0.mk (below_step (by repeat (first | (with_reducible first | exact HB.out | apply below_alloc | apply pw_below_drewN | apply below_drew1) | exact HB.out)) hb); clear HB; have HO413 := n0_; have HB := n1_; clear n0_ n1_; (try clear hb); (try clear hb2); (try clear hk); (try clear hi); (try clear ho0); obtain ⟨Ao14, co14, eo14⟩ := Kd.R_slice HO413.out; subst eo14) | (go_at_call 13; (with_reducible refine (shaft_Positions.calls _ _ t411 t414 t415 _ ?side1 ?side2 A8.out).mono ?_); (case side1 => repeat (first | exact (Kd.R_reads' HO413.out).2.2 | (with_reducible refine Kd.C_alloc ?_ _) | (with_reducible refine Kd.C_drewN ?_ _) | (with_reducible refine Kd.C_drew ?_))); (case side2 => exact (Kd.R_reads' HO413.out).2.1); rintro e w15 ⟨v416, rfl, ho0, hb⟩; have n0_ := Aside0.mk (Kd.R_elder' (by (with_reducible repeat (first | apply Kd.R_alloc | apply Kd.R_drewN | apply Kd.R_drew)); exact HO413.out) (Kd.R_base ho0) hb); have n1_ := Aside0.mk (Kd.R_lower (Kd.R_new' ho0 (Kd.R_lt (by (with_reducible repeat (first | apply Kd.R_alloc | apply Kd.R_drewN | apply Kd.R_drew)); exact HO413.out))) (below_size (by repeat (first | (with_reducible first | exact HB.out | apply below_alloc | apply pw_below_drewN | apply below_drew1) | exact HB.out)))); have n2_ := Aside0.mk (below_step (by repeat (first | (with_reducible first | exact HB.out | apply below_alloc | apply pw_below_drewN | apply below_drew1) | exact HB.out)) hb); clear HO413; clear HB; have HO413 := n0_; have HO417 := n1_; have HB := n2_; clear n0_ n1_ n2_; (try clear hb); (try clear hb2); (try clear hk); (try clear hi); (try clear ho0)) | (go_at_call 16; (with_reducible refine (shaft_Height.calls _ _ t411 t418 t419 _ ?side1 ?side2 A9.out).mono ?_); (case side1 => repeat (first | exact (Kd.R_reads' HO413.out).2.2 | (with_reducible refine Kd.C_alloc ?_ _) | (with_reducible refine Kd.C_drewN ?_ _) | (with_reducible refine Kd.C_drew ?_))); (case side2 => exact (Kd.R_reads' HO413.out).2.1); rintro e w16 ⟨rfl, hb⟩; have n0_ := Aside0.mk (Kd.R_below (by (with_reducible repeat (first | apply Kd.R_alloc | apply Kd.R_drewN | apply Kd.R_drew)); exact HO413.out) hb); have n1_ := Aside0.mk (Kd.R_below (by (with_reducible repeat (first | apply Kd.R_alloc | apply Kd.R_drewN | apply Kd.R_drew)); exact HO417.out) hb); have n2_ := Aside0.mk (below_step (by repeat (first | (with_reducible first | exact HB.out | apply below_alloc | apply pw_below_drewN | apply below_drew1) | exact HB.out)) hb); clear HO413; clear HO417; clear HB; have HO413 := n0_; have HO417 := n1_; have HB := n2_; clear n0_ n1_ n2_; (try clear hb); (try clear hb2); (try clear hk); (try clear hi)) | (go_at_call 26; (with_reducible refine (shaft_Between.calls k _ _ t411 0 t418 t420 t421 _ ?side1 ?side2 A10.out).mono ?_); (case side1 => repeat (first | exact (Kd.R_reads' HO413.out).2.2 | (with_reducible refine Kd.C_alloc ?_ _) | (with_reducible refine Kd.C_drewN ?_ _) | (with_reducible refine Kd.C_drew ?_))); (case side2 => exact (Kd.R_reads' HO413.out).2.1); rintro e w17 ⟨v422, rfl, ho0, hb⟩; have n0_ := Aside0.mk (Kd.R_elder' (by (with_reducible repeat (first | apply Kd.R_alloc | apply Kd.R_drewN | apply Kd.R_drew)); exact HO413.out) (Kd.R_base ho0) hb); have n1_ := Aside0.mk (Kd.R_elder' (by (with_reducible repeat (first | apply Kd.R_alloc | apply Kd.R_drewN | apply Kd.R_drew)); exact HO417.out) (Kd.R_base ho0) hb); have n2_ := Aside0.mk (Kd.R_lower (Kd.R_new' (Kd.R_new' ho0 (Kd.R_lt (by (with_reducible repeat (first | apply Kd.R_alloc | apply Kd.R_drewN | apply Kd.R_drew)); exact HO413.out))) (Kd.R_lt (by (with_reducible repeat (first | apply Kd.R_alloc | apply Kd.R_drewN | apply Kd.R_drew)); exact HO417.out))) (below_size (by repeat (first | (with_reducible first | exact HB.out | apply below_alloc | apply pw_below_drewN | apply below_drew1) | exact HB.out)))); have n3_ := Aside0.mk (below_step (by repeat (first | (with_reducible first | exact HB.out | apply below_alloc | apply pw_below_drewN | apply below_drew1) | exact HB.out)) hb); clear HO413; clear HO417; clear HB; have HO413 := n0_; have HO417 := n1_; have HO423 := n2_; have HB := n3_; clear n0_ n1_ n2_ n3_; (try clear hb); (try clear hb2); (try clear hk); (try clear hi); (try clear ho0)))
    repeat (go_quiet (first | (go_at_call 5; (with_reducible refine (tipstafflaw07_ShaftKnown.calls k  true _ A5.out).mono ?_); rintro e w12 ⟨rfl, hb⟩; have n0_ := Aside0.mk (below_step (by repeat (first | (with_reducible first | exact HB.out | apply below_alloc | apply pw_below_drewN | apply below_drew1) | exact HB.out)) hb); clear HB; have HB := n0_; clear n0_; (try clear hb); (try clear hb2); (try clear hk); (try clear hi)) | (go_at_call 30; (with_reducible refine (tipstafflaw07_made.calls k _ _ l0 t411 _ ?side1 ?side2 A7.out).mono ?_); (case side1 => repeat (first | exact (Kd.C_below HR0.out HB.out) | (with_reducible refine Kd.C_alloc ?_ _) | (with_reducible refine Kd.C_drewN ?_ _) | (with_reducible refine Kd.C_drew ?_))); (case side2 => exact HC0.out); rintro e w13 ⟨v412, rfl, ho0, hb⟩; have n0_ := Aside0.mk (Kd.R_lower ho0 (below_size (by repeat (first | (with_reducible first | exact HB.out | apply below_alloc | apply pw_below_drewN | apply below_drew1) | exact HB.out)))); have n1_ := Aside0.mk (below_step (by repeat (first | (with_reducible first | exact HB.out | apply below_alloc | apply pw_below_drewN | apply below_drew1) | exact HB.out)) hb); clear HB; have HO413 := n0_; have HB := n1_; clear n0_ n1_; (try clear hb); (try clear hb2); (try clear hk); (try clear hi); (try clear ho0); obtain ⟨Ao14, co14, eo14⟩ := Kd.R_slice HO413.out; subst eo14) | (go_at_call 13; (with_reducible refine (shaft_Positions.calls _ _ t411 t414 t415 _ ?side1 ?side2 A8.out).mono ?_); (case side1 => repeat (first | exact (Kd.R_reads' HO413.out).2.2 | (with_reducible refine Kd.C_alloc ?_ _) | (with_reducible refine Kd.C_drewN ?_ _) | (with_reducible refine Kd.C_drew ?_))); (case side2 => exact (Kd.R_reads' HO413.out).2.1); rintro e w15 ⟨v416, rfl, ho0, hb⟩; have n0_ := Aside0.mk (Kd.R_elder' (by (with_reducible repeat (first | apply Kd.R_alloc | apply Kd.R_drewN | apply Kd.R_drew)); exact HO413.out) (Kd.R_base ho0) hb); have n1_ := Aside0.mk (Kd.R_lower (Kd.R_new' ho0 (Kd.R_lt (by (with_reducible repeat (first | apply Kd.R_alloc | apply Kd.R_drewN | apply Kd.R_drew)); exact HO413.out))) (below_size (by repeat (first | (with_reducible first | exact HB.out | apply below_alloc | apply pw_below_drewN | apply below_drew1) | exact HB.out)))); have n2_ := Aside0.mk (below_step (by repeat (first | (with_reducible first | exact HB.out | apply below_alloc | apply pw_below_drewN | apply below_drew1) | exact HB.out)) hb); clear HO413; clear HB; have HO413 := n0_; have HO417 := n1_; have HB := n2_; clear n0_ n1_ n2_; (try clear hb); (try clear hb2); (try clear hk); (try clear hi); (try clear ho0)) | (go_at_call 16; (with_reducible refine (shaft_Height.calls _ _ t411 t418 t419 _ ?side1 ?side2 A9.out).mono ?_); (case side1 => repeat (first | exact (Kd.R_reads' HO413.out).2.2 | (with_reducible refine Kd.C_alloc ?_ _) | (with_reducible refine Kd.C_drewN ?_ _) | (with_reducible refine Kd.C_drew ?_))); (case side2 => exact (Kd.R_reads' HO413.out).2.1); rintro e w16 ⟨rfl, hb⟩; have n0_ := Aside0.mk (Kd.R_below (by (with_reducible repeat (first | apply Kd.R_alloc | apply Kd.R_drewN | apply Kd.R_drew)); exact HO413.out) hb); have n1_ := Aside0.mk (Kd.R_below (by (with_reducible repeat (first | apply Kd.R_alloc | apply Kd.R_drewN | apply Kd.R_drew)); exact HO417.out) hb); have n2_ := Aside0.mk (below_step (by repeat (first | (with_reducible first | exact HB.out | apply below_alloc | apply pw_below_drewN | apply below_drew1) | exact HB.out)) hb); clear HO413; clear HO417; clear HB; have HO413 := n0_; have HO417 := n1_; have HB := n2_; clear n0_ n1_ n2_; (try clear hb); (try clear hb2); (try clear hk); (try clear hi)) | (go_at_call 26; (with_reducible refine (shaft_Between.calls k _ _ t411 0 t418 t420 t421 _ ?side1 ?side2 A10.out).mono ?_); (case side1 => repeat (first | exact (Kd.R_reads' HO413.out).2.2 | (with_reducible refine Kd.C_alloc ?_ _) | (with_reducible refine Kd.C_drewN ?_ _) | (with_reducible refine Kd.C_drew ?_))); (case side2 => exact (Kd.R_reads' HO413.out).2.1); rintro e w17 ⟨v422, rfl, ho0, hb⟩; have n0_ := Aside0.mk (Kd.R_elder' (by (with_reducible repeat (first | apply Kd.R_alloc | apply Kd.R_drewN | apply Kd.R_drew)); exact HO413.out) (Kd.R_base ho0) hb); have n1_ := Aside0.mk (Kd.R_elder' (by (with_reducible repeat (first | apply Kd.R_alloc | apply Kd.R_drewN | apply Kd.R_drew)); exact HO417.out) (Kd.R_base ho0) hb); have n2_ := Aside0.mk (Kd.R_lower (Kd.R_new' (Kd.R_new' ho0 (Kd.R_lt (by (with_reducible repeat (first | apply Kd.R_alloc | apply Kd.R_drewN | apply Kd.R_drew)); exact HO413.out))) (Kd.R_lt (by (with_reducible repeat (first | apply Kd.R_alloc | apply Kd.R_drewN | apply Kd.R_drew)); exact HO417.out))) (below_size (by repeat (first | (with_reducible first | exact HB.out | apply below_alloc | apply pw_below_drewN | apply below_drew1) | exact HB.out)))); have n3_ := Aside0.mk (below_step (by repeat (first | (with_reducible first | exact HB.out | apply below_alloc | apply pw_below_drewN | apply below_drew1) | exact HB.out)) hb); clear HO413; clear HO417; clear HB; have HO413 := n0_; have HO417 := n1_; have HO423 := n2_; have HB := n3_; clear n0_ n1_ n2_ n3_; (try clear hb); (try clear hb2); (try clear hk); (try clear hi); (try clear ho0))); go_upto_region 6 with (first | (go_at_call 5; (with_reducible refine (tipstafflaw07_ShaftKnown.calls k  true _ A5.out).mono ?_); rintro e w12 ⟨rfl, hb⟩; have n0_ := Aside0.mk (below_step (by repeat (first | (with_reducible first | exact HB.out | apply below_alloc | apply pw_below_drewN | apply below_drew1) | exact HB.out)) hb); clear HB; have HB := n0_; clear n0_; (try clear hb); (try clear hb2); (try clear hk); (try clear hi)) | (go_at_call 30; (with_reducible refine (tipstafflaw07_made.calls k _ _ l0 t411 _ ?side1 ?side2 A7.out).mono ?_); (case side1 => repeat (first | exact (Kd.C_below HR0.out HB.out) | (with_reducible refine Kd.C_alloc ?_ _) | (with_reducible refine Kd.C_drewN ?_ _) | (with_reducible refine Kd.C_drew ?_))); (case side2 => exact HC0.out); rintro e w13 ⟨v412, rfl, ho0, hb⟩; have n0_ := Aside0.mk (Kd.R_lower ho0 (below_size (by repeat (first | (with_reducible first | exact HB.out | apply below_alloc | apply pw_below_drewN | apply below_drew1) | exact HB.out)))); have n1_ := Aside0.mk (below_step (by repeat (first | (with_reducible first | exact HB.out | apply below_alloc | apply pw_below_drewN | apply below_drew1) | exact HB.out)) hb); clear HB; have HO413 := n0_; have HB := n1_; clear n0_ n1_; (try clear hb); (try clear hb2); (try clear hk); (try clear hi); (try clear ho0); obtain ⟨Ao14, co14, eo14⟩ := Kd.R_slice HO413.out; subst eo14) | (go_at_call 13; (with_reducible refine (shaft_Positions.calls _ _ t411 t414 t415 _ ?side1 ?side2 A8.out).mono ?_); (case side1 => repeat (first | exact (Kd.R_reads' HO413.out).2.2 | (with_reducible refine Kd.C_alloc ?_ _) | (with_reducible refine Kd.C_drewN ?_ _) | (with_reducible refine Kd.C_drew ?_))); (case side2 => exact (Kd.R_reads' HO413.out).2.1); rintro e w15 ⟨v416, rfl, ho0, hb⟩; have n0_ := Aside0.mk (Kd.R_elder' (by (with_reducible repeat (first | apply Kd.R_alloc | apply Kd.R_drewN | apply Kd.R_drew)); exact HO413.out) (Kd.R_base ho0) hb); have n1_ := Aside0.mk (Kd.R_lower (Kd.R_new' ho0 (Kd.R_lt (by (with_reducible repeat (first | apply Kd.R_alloc | apply Kd.R_drewN | apply Kd.R_drew)); exact HO413.out))) (below_size (by repeat (first | (with_reducible first | exact HB.out | apply below_alloc | apply pw_below_drewN | apply below_drew1) | exact HB.out)))); have n2_ := Aside0.mk (below_step (by repeat (first | (with_reducible first | exact HB.out | apply below_alloc | apply pw_below_drewN | apply below_drew1) | exact HB.out)) hb); clear HO413; clear HB; have HO413 := n0_; have HO417 := n1_; have HB := n2_; clear n0_ n1_ n2_; (try clear hb); (try clear hb2); (try clear hk); (try clear hi); (try clear ho0)) | (go_at_call 16; (with_reducible refine (shaft_Height.calls _ _ t411 t418 t419 _ ?side1 ?side2 A9.out).mono ?_); (case side1 => repeat (first | exact (Kd.R_reads' HO413.out).2.2 | (with_reducible refine Kd.C_alloc ?_ _) | (with_reducible refine Kd.C_drewN ?_ _) | (with_reducible refine Kd.C_drew ?_))); (case side2 => exact (Kd.R_reads' HO413.out).2.1); rintro e w16 ⟨rfl, hb⟩; have n0_ := Aside0.mk (Kd.R_below (by (with_reducible repeat (first | apply Kd.R_alloc | apply Kd.R_drewN | apply Kd.R_drew)); exact HO413.out) hb); have n1_ := Aside0.mk (Kd.R_below (by (with_reducible repeat (first | apply Kd.R_alloc | apply Kd.R_drewN | apply Kd.R_drew)); exact HO417.out) hb); have n2_ := Aside0.mk (below_step (by repeat (first | (with_reducible first | exact HB.out | apply below_alloc | apply pw_below_drewN | apply below_drew1) | exact HB.out)) hb); clear HO413; clear HO417; clear HB; have HO413 := n0_; have HO417 := n1_; have HB := n2_; clear n0_ n1_ n2_; (try clear hb); (try clear hb2); (try clear hk); (try clear hi)) | (go_at_call 26; (with_reducible refine (shaft_Between.calls k _ _ t411 0 t418 t420 t421 _ ?side1 ?side2 A10.out).mono ?_); (case side1 => repeat (first | exact (Kd.R_reads' HO413.out).2.2 | (with_reducible refine Kd.C_alloc ?_ _) | (with_reducible refine Kd.C_drewN ?_ _) | (with_reducible refine Kd.C_drew ?_))); (case side2 => exact (Kd.R_reads' HO413.out).2.1); rintro e w17 ⟨v422, rfl, ho0, hb⟩; have n0_ := Aside0.mk (Kd.R_elder' (by (with_reducible repeat (first | apply Kd.R_alloc | apply Kd.R_drewN | apply Kd.R_drew)); exact HO413.out) (Kd.R_base ho0) hb); have n1_ := Aside0.mk (Kd.R_elder' (by (with_reducible repeat (first | apply Kd.R_alloc | apply Kd.R_drewN | apply Kd.R_drew)); exact HO417.out) (Kd.R_base ho0) hb); have n2_ := Aside0.mk (Kd.R_lower (Kd.R_new' (Kd.R_new' ho0 (Kd.R_lt (by (with_reducible repeat (first | apply Kd.R_alloc | apply Kd.R_drewN | apply Kd.R_drew)); exact HO413.out))) (Kd.R_lt (by (with_reducible repeat (first | apply Kd.R_alloc | apply Kd.R_drewN | apply Kd.R_drew)); exact HO417.out))) (below_size (by repeat (first | (with_reducible first | exact HB.out | apply below_alloc | apply pw_below_drewN | apply below_drew1) | exact HB.out)))); have n3_ := Aside0.mk (below_step (by repeat (first | (with_reducible first | exact HB.out | apply below_alloc | apply pw_below_drewN | apply below_drew1) | exact HB.out)) hb); clear HO413; clear HO417; clear HB; have HO413 := n0_; have HO417 := n1_; have HO423 := n2_; have HB := n3_; clear n0_ n1_ n2_ n3_; (try clear hb); (try clear hb2); (try clear hk); (try clear hi); (try clear ho0))))
    (try simp only [Act.put, List.setIfInBounds_toArray, List.set_cons_zero, List.set_cons_succ])
    go_cut [88] (fun v88 wc => ∃ (kq : Nat) (x88_10 : Bool), v88 = .bool x88_10 ∧ Aside0 (tipstafflaw07_ShaftAscends.j0 kq a1 a2 a3 t411 t414 t420 x88_10 = some r) ∧ Aside0 (kq ≤ k) ∧ Aside0 (Kd.R (Kd.int .i64) 3 wc w.heap.size (fun k_ => some k_ ≠ (v416 : Value).ownBlock ∧ some k_ ≠ (v422 : Value).ownBlock) (.slice Ao14 t411.length co14) t411) ∧ Aside0 (Kd.R (Kd.int .i64) 3 wc w.heap.size (fun k_ => some k_ ≠ ((.slice Ao14 t411.length co14) : Value).ownBlock ∧ some k_ ≠ (v422 : Value).ownBlock) v416 t414) ∧ Aside0 (Kd.R (Kd.int .i64) 3 wc w.heap.size (fun k_ => some k_ ≠ ((.slice Ao14 t411.length co14) : Value).ownBlock ∧ some k_ ≠ (v416 : Value).ownBlock) v422 t420) ∧ Aside0 (Below w.heap.size w wc))
    case first =>
      have H := HC11.out
      clear HC11
      by_cases c18 : t415 = 0
      · rw [if_pos c18] at H
        have c18b0 : (t415 == 0) = true := beq_iff_eq.mpr c18
        have c18b1 : (t415 != 0) = false := bne_eq_false_iff_eq.mpr c18
        clear c18
        (first | rw [c18b0] | (simp only [i64_w, i32_w]; rw [c18b0]) | skip)
        by_cases c19 : t419 = 0
        · rw [if_pos c19] at H
          have c19b0 : (t419 == 0) = true := beq_iff_eq.mpr c19
          have c19b1 : (t419 != 0) = false := bne_eq_false_iff_eq.mpr c19
          clear c19
          by_cases c20 : t421 = 0
          · rw [if_pos c20] at H
            have c20b0 : (t421 == 0) = true := beq_iff_eq.mpr c20
            have c20b1 : (t421 != 0) = false := bne_eq_false_iff_eq.mpr c20
            clear c20
            by_cases c21 : (t414.length : Int) = (wrap64 ((t411.length : Int) + 1))
            · rw [if_pos c21] at H
              have c21b0 : ((t414.length : Int) == (wrap64 ((t411.length : Int) + 1))) = true := beq_iff_eq.mpr c21
              have c21b1 : ((t414.length : Int) != (wrap64 ((t411.length : Int) + 1))) = false := bne_eq_false_iff_eq.mpr c21
              clear c21
              by_cases c22 : 0 < (t414.length : Int)
              · rw [if_pos c22] at H
                have c22b0 : decide (0 < (t414.length : Int)) = true := decide_eq_true c22
                have c22b1 : decide (0 < t414.length) = true := decide_eq_true (by omega)
                clear c22
                by_cases c23 : (rd t414 0) = 0
                · rw [if_pos c23] at H
                  have c23b0 : ((rd t414 0) == 0) = true := beq_iff_eq.mpr c23
                  have c23b1 : ((rd t414 0) != 0) = false := bne_eq_false_iff_eq.mpr c23
                  clear c23
                  by_cases c24 : 0 ≤ (t411.length : Int)
                  · rw [if_pos c24] at H
                    have c24b0 : decide (0 ≤ (t411.length : Int)) = true := decide_eq_true c24
                    have c24b1 : decide (0 ≤ t411.length) = true := decide_eq_true (by omega)
                    clear c24
                    by_cases c25 : (t411.length : Int) < (t414.length : Int)
                    · rw [if_pos c25] at H
                      have c25b0 : decide ((t411.length : Int) < (t414.length : Int)) = true := decide_eq_true c25
                      have c25b1 : decide (t411.length < t414.length) = true := decide_eq_true (Int.ofNat_lt.mp c25)
                      clear c25
                      by_cases c26 : (rd t414 (t411.length : Int)) = t418
                      · rw [if_pos c26] at H
                        have c26b0 : ((rd t414 (t411.length : Int)) == t418) = true := beq_iff_eq.mpr c26
                        have c26b1 : ((rd t414 (t411.length : Int)) != t418) = false := bne_eq_false_iff_eq.mpr c26
                        clear c26
                        have H' := Aside0.mk H
                        clear H
                        obtain ⟨Ao27, co27, eo27⟩ := Kd.R_slice HO417.out
                        subst eo27
                        have p424 : 0 ≤ (0 : Int) := (by omega)
                        have q424 : 0 < (t414.length : Int) := of_decide_eq_true (by first | (with_reducible assumption) | assumption)
                        obtain ⟨ad424, e424, hx424_0⟩ := Kd.at_int (Kd.R_reads' HO417.out).2.2 0 p424 q424
                        cases e424
                        have qi424 : (0 < t414.length) = True := eq_true (by omega)
                        (try rw [show ((0 : Int)).toNat = 0 from rfl] at hx424_0)
                        (try rw [Addr.add_zero'] at hx424_0)
                        replace p424 := eq_true p424
                        replace q424 := eq_true q424
                        have p425 : 0 ≤ ((t411.length : Int) : Int) := of_decide_eq_true (by first | (with_reducible assumption) | assumption)
                        have q425 : (t411.length : Int) < (t414.length : Int) := of_decide_eq_true (by first | (with_reducible assumption) | assumption)
                        obtain ⟨ad425, e425, hx425_0⟩ := Kd.at_int (Kd.R_reads' HO417.out).2.2 (t411.length : Int) p425 q425
                        obtain rfl : ad424 = ad425 := (by injection e425)
                        (try simp only [Go.IntWalk.toNatUp] at hx425_0)
                        replace p425 := eq_true p425
                        replace q425 := eq_true q425
                        obtain ⟨Ao28, co28, eo28⟩ := Kd.R_slice HO423.out
                        subst eo28
                        go_wp2
                        repeat (go_quiet (fail); try go_wp2)
                        go_meet
                        case rel => exact ⟨_, (((t420.length : Int) != (t414.length : Int))), (by first | rfl | (simp; done) | (simp [*]; done)), H', ⟨by first | omega | exact Nat.le_refl _⟩, ⟨by (with_reducible repeat (first | apply Kd.R_alloc | apply Kd.R_drewN | apply Kd.R_drew)); exact Kd.R_mono HO413.out (fun _ hk => ⟨hk.1.2, hk.2⟩)⟩, ⟨by (with_reducible repeat (first | apply Kd.R_alloc | apply Kd.R_drewN | apply Kd.R_drew)); exact Kd.R_mono HO417.out (fun _ hk => ⟨hk.1.2, hk.2⟩)⟩, ⟨by (with_reducible repeat (first | apply Kd.R_alloc | apply Kd.R_drewN | apply Kd.R_drew)); exact Kd.R_mono HO423.out (fun _ hk => ⟨hk.1.2, hk.2⟩)⟩, ⟨by repeat (first | (with_reducible first | exact HB.out | apply below_alloc | apply pw_below_drewN | apply below_drew1) | exact HB.out)⟩⟩
                      · rw [if_neg c26] at H
                        have c26b0 : ((rd t414 (t411.length : Int)) == t418) = false := beq_eq_false_iff_ne.mpr c26
                        have c26b1 : ((rd t414 (t411.length : Int)) != t418) = true := bne_iff_ne.mpr c26
                        have H' := Aside0.mk H
                        clear H
                        obtain ⟨Ao29, co29, eo29⟩ := Kd.R_slice HO417.out
                        subst eo29
                        have p424 : 0 ≤ (0 : Int) := (by omega)
                        have q424 : 0 < (t414.length : Int) := of_decide_eq_true (by first | (with_reducible assumption) | assumption)
                        obtain ⟨ad424, e424, hx424_0⟩ := Kd.at_int (Kd.R_reads' HO417.out).2.2 0 p424 q424
                        cases e424
                        have qi424 : (0 < t414.length) = True := eq_true (by omega)
                        (try rw [show ((0 : Int)).toNat = 0 from rfl] at hx424_0)
                        (try rw [Addr.add_zero'] at hx424_0)
                        replace p424 := eq_true p424
                        replace q424 := eq_true q424
                        have p425 : 0 ≤ ((t411.length : Int) : Int) := of_decide_eq_true (by first | (with_reducible assumption) | assumption)
                        have q425 : (t411.length : Int) < (t414.length : Int) := of_decide_eq_true (by first | (with_reducible assumption) | assumption)
                        obtain ⟨ad425, e425, hx425_0⟩ := Kd.at_int (Kd.R_reads' HO417.out).2.2 (t411.length : Int) p425 q425
                        obtain rfl : ad424 = ad425 := (by injection e425)
                        (try simp only [Go.IntWalk.toNatUp] at hx425_0)
                        replace p425 := eq_true p425
                        replace q425 := eq_true q425
                        go_wp2
                        repeat (go_quiet (fail); try go_wp2)
                        go_meet
                        case rel => exact ⟨_, (true), (by first | rfl | (simp; done) | (simp [*]; done)), H', ⟨by first | omega | exact Nat.le_refl _⟩, ⟨by (with_reducible repeat (first | apply Kd.R_alloc | apply Kd.R_drewN | apply Kd.R_drew)); exact Kd.R_mono HO413.out (fun _ hk => ⟨hk.1.2, hk.2⟩)⟩, ⟨by (with_reducible repeat (first | apply Kd.R_alloc | apply Kd.R_drewN | apply Kd.R_drew)); exact Kd.R_mono HO417.out (fun _ hk => ⟨hk.1.2, hk.2⟩)⟩, ⟨by (with_reducible repeat (first | apply Kd.R_alloc | apply Kd.R_drewN | apply Kd.R_drew)); exact Kd.R_mono HO423.out (fun _ hk => ⟨hk.1.2, hk.2⟩)⟩, ⟨by repeat (first | (with_reducible first | exact HB.out | apply below_alloc | apply pw_below_drewN | apply below_drew1) | exact HB.out)⟩⟩
                    · rw [if_neg c25] at H
                      exact absurd H (by simp)
                  · rw [if_neg c24] at H
                    exact absurd H (by simp)
                · rw [if_neg c23] at H
                  have c23b0 : ((rd t414 0) == 0) = false := beq_eq_false_iff_ne.mpr c23
                  have c23b1 : ((rd t414 0) != 0) = true := bne_iff_ne.mpr c23
                  have H' := Aside0.mk H
                  clear H
                  obtain ⟨Ao30, co30, eo30⟩ := Kd.R_slice HO417.out
                  subst eo30
                  have p424 : 0 ≤ (0 : Int) := (by omega)
                  have q424 : 0 < (t414.length : Int) := of_decide_eq_true (by first | (with_reducible assumption) | assumption)
                  obtain ⟨ad424, e424, hx424_0⟩ := Kd.at_int (Kd.R_reads' HO417.out).2.2 0 p424 q424
                  cases e424
                  have qi424 : (0 < t414.length) = True := eq_true (by omega)
                  (try rw [show ((0 : Int)).toNat = 0 from rfl] at hx424_0)
                  (try rw [Addr.add_zero'] at hx424_0)
                  replace p424 := eq_true p424
                  replace q424 := eq_true q424
                  go_wp2
                  repeat (go_quiet (fail); try go_wp2)
                  go_meet
                  case rel => exact ⟨_, (true), (by first | rfl | (simp; done) | (simp [*]; done)), H', ⟨by first | omega | exact Nat.le_refl _⟩, ⟨by (with_reducible repeat (first | apply Kd.R_alloc | apply Kd.R_drewN | apply Kd.R_drew)); exact Kd.R_mono HO413.out (fun _ hk => ⟨hk.1.2, hk.2⟩)⟩, ⟨by (with_reducible repeat (first | apply Kd.R_alloc | apply Kd.R_drewN | apply Kd.R_drew)); exact Kd.R_mono HO417.out (fun _ hk => ⟨hk.1.2, hk.2⟩)⟩, ⟨by (with_reducible repeat (first | apply Kd.R_alloc | apply Kd.R_drewN | apply Kd.R_drew)); exact Kd.R_mono HO423.out (fun _ hk => ⟨hk.1.2, hk.2⟩)⟩, ⟨by repeat (first | (with_reducible first | exact HB.out | apply below_alloc | apply pw_below_drewN | apply below_drew1) | exact HB.out)⟩⟩
              · rw [if_neg c22] at H
                exact absurd H (by simp)
            · rw [if_neg c21] at H
              have c21b0 : ((t414.length : Int) == (wrap64 ((t411.length : Int) + 1))) = false := beq_eq_false_iff_ne.mpr c21
              have c21b1 : ((t414.length : Int) != (wrap64 ((t411.length : Int) + 1))) = true := bne_iff_ne.mpr c21
              have H' := Aside0.mk H
              clear H
              obtain ⟨Ao31, co31, eo31⟩ := Kd.R_slice HO417.out
              subst eo31
              go_wp2
              repeat (go_quiet (fail); try go_wp2)
              go_meet
              case rel => exact ⟨_, (true), (by first | rfl | (simp; done) | (simp [*]; done)), H', ⟨by first | omega | exact Nat.le_refl _⟩, ⟨by (with_reducible repeat (first | apply Kd.R_alloc | apply Kd.R_drewN | apply Kd.R_drew)); exact Kd.R_mono HO413.out (fun _ hk => ⟨hk.1.2, hk.2⟩)⟩, ⟨by (with_reducible repeat (first | apply Kd.R_alloc | apply Kd.R_drewN | apply Kd.R_drew)); exact Kd.R_mono HO417.out (fun _ hk => ⟨hk.1.2, hk.2⟩)⟩, ⟨by (with_reducible repeat (first | apply Kd.R_alloc | apply Kd.R_drewN | apply Kd.R_drew)); exact Kd.R_mono HO423.out (fun _ hk => ⟨hk.1.2, hk.2⟩)⟩, ⟨by repeat (first | (with_reducible first | exact HB.out | apply below_alloc | apply pw_below_drewN | apply below_drew1) | exact HB.out)⟩⟩
          · rw [if_neg c20] at H
            have c20b0 : (t421 == 0) = false := beq_eq_false_iff_ne.mpr c20
            have c20b1 : (t421 != 0) = true := bne_iff_ne.mpr c20
            have H' := Aside0.mk H
            clear H
            go_wp2
            repeat (go_quiet (fail); try go_wp2)
            go_meet
            case rel => exact ⟨_, (true), (by first | rfl | (simp; done) | (simp [*]; done)), H', ⟨by first | omega | exact Nat.le_refl _⟩, ⟨by (with_reducible repeat (first | apply Kd.R_alloc | apply Kd.R_drewN | apply Kd.R_drew)); exact Kd.R_mono HO413.out (fun _ hk => ⟨hk.1.2, hk.2⟩)⟩, ⟨by (with_reducible repeat (first | apply Kd.R_alloc | apply Kd.R_drewN | apply Kd.R_drew)); exact Kd.R_mono HO417.out (fun _ hk => ⟨hk.1.2, hk.2⟩)⟩, ⟨by (with_reducible repeat (first | apply Kd.R_alloc | apply Kd.R_drewN | apply Kd.R_drew)); exact Kd.R_mono HO423.out (fun _ hk => ⟨hk.1.2, hk.2⟩)⟩, ⟨by repeat (first | (with_reducible first | exact HB.out | apply below_alloc | apply pw_below_drewN | apply below_drew1) | exact HB.out)⟩⟩
        · rw [if_neg c19] at H
          have c19b0 : (t419 == 0) = false := beq_eq_false_iff_ne.mpr c19
          have c19b1 : (t419 != 0) = true := bne_iff_ne.mpr c19
          have H' := Aside0.mk H
          clear H
          go_wp2
          repeat (go_quiet (fail); try go_wp2)
          go_meet
          case rel => exact ⟨_, (true), (by first | rfl | (simp; done) | (simp [*]; done)), H', ⟨by first | omega | exact Nat.le_refl _⟩, ⟨by (with_reducible repeat (first | apply Kd.R_alloc | apply Kd.R_drewN | apply Kd.R_drew)); exact Kd.R_mono HO413.out (fun _ hk => ⟨hk.1.2, hk.2⟩)⟩, ⟨by (with_reducible repeat (first | apply Kd.R_alloc | apply Kd.R_drewN | apply Kd.R_drew)); exact Kd.R_mono HO417.out (fun _ hk => ⟨hk.1.2, hk.2⟩)⟩, ⟨by (with_reducible repeat (first | apply Kd.R_alloc | apply Kd.R_drewN | apply Kd.R_drew)); exact Kd.R_mono HO423.out (fun _ hk => ⟨hk.1.2, hk.2⟩)⟩, ⟨by repeat (first | (with_reducible first | exact HB.out | apply below_alloc | apply pw_below_drewN | apply below_drew1) | exact HB.out)⟩⟩
      · rw [if_neg c18] at H
        have c18b0 : (t415 == 0) = false := beq_eq_false_iff_ne.mpr c18
        have c18b1 : (t415 != 0) = true := bne_iff_ne.mpr c18
        (first | rw [c18b0] | (simp only [i64_w, i32_w]; rw [c18b0]) | skip)
        have H' := Aside0.mk H
        clear H
        go_wp2
        repeat (go_quiet (fail); try go_wp2)
        go_meet
        case rel => exact ⟨_, (true), (by first | rfl | (simp; done) | (simp [*]; done)), H', ⟨by first | omega | exact Nat.le_refl _⟩, ⟨by (with_reducible repeat (first | apply Kd.R_alloc | apply Kd.R_drewN | apply Kd.R_drew)); exact Kd.R_mono HO413.out (fun _ hk => ⟨hk.1.2, hk.2⟩)⟩, ⟨by (with_reducible repeat (first | apply Kd.R_alloc | apply Kd.R_drewN | apply Kd.R_drew)); exact Kd.R_mono HO417.out (fun _ hk => ⟨hk.1.2, hk.2⟩)⟩, ⟨by (with_reducible repeat (first | apply Kd.R_alloc | apply Kd.R_drewN | apply Kd.R_drew)); exact Kd.R_mono HO423.out (fun _ hk => ⟨hk.1.2, hk.2⟩)⟩, ⟨by repeat (first | (with_reducible first | exact HB.out | apply below_alloc | apply pw_below_drewN | apply below_drew1) | exact HB.out)⟩⟩
    case rest =>
      clear HC11
      try clear c1
      try clear c2
      try clear p2
      try clear p4
      try clear q4
      try clear hx4
      try clear qi4
      try clear c6
      try clear p6
      try clear c18
      try clear c18b0
      try clear c18b1
      try clear c19
      try clear c19b0
      try clear c19b1
      try clear c20
      try clear c20b0
      try clear c20b1
      try clear c21
      try clear c21b0
      try clear c21b1
      try clear c22
      try clear c22b0
      try clear c22b1
      try clear c23
      try clear c23b0
      try clear c23b1
      try clear c24
      try clear c24b0
      try clear c24b1
      try clear c25
      try clear c25b0
      try clear c25b1
      try clear c26
      try clear c26b0
      try clear c26b1
      try clear hx424_0
      try clear hx425_0
      try clear p424
      try clear p425
      try clear q424
      try clear q425
      obtain ⟨kq, x88_10, rfl, HA, HJ10, HO_10, HO_11, HO_15, HB⟩ := hcut
      cases kq with
      | zero => exact absurd HA.out (by simp [tipstafflaw07_ShaftAscends.j0])
      | succ kj10 =>
        have H := HA.out
        clear HA
        simp only [tipstafflaw07_ShaftAscends.j0] at H
        by_cases c32 : x88_10 = true
        · subst c32
          have H1 : (none) = some r := by rw [if_pos rfl] at H; exact H
          clear H
          have H := H1
          clear H1
          exact absurd H (by simp)
        · replace c32 := Bool.eq_false_iff.mpr c32
          subst c32
          have H1 : (tipstafflaw07_ShaftAscends.l0 kj10 a1 a2 a3 t411 t414 t420 1) = some r := by rw [if_neg (show ¬ (false = true) by decide)] at H; exact H
          clear H
          have H := H1
          clear H1
          have H' := Aside0.mk H
          clear H
          go_wp2
          repeat (go_quiet (fail); try go_wp2)
          go_loopg [17] kj10 (fun kq v17 w' => ∃ (x17_2 : Int), v17 = .int .i64 x17_2 ∧ Aside0 (tipstafflaw07_ShaftAscends.l0 kq a1 a2 a3 t411 t414 t420 x17_2 = some r) ∧ Aside0 (kq ≤ kj10) ∧ Aside0 (Kd.R (Kd.int .i64) 3 w' w.heap.size (fun k_ => some k_ ≠ (v416 : Value).ownBlock ∧ some k_ ≠ (v422 : Value).ownBlock) (.slice Ao14 t411.length co14) t411) ∧ Aside0 (Kd.R (Kd.int .i64) 3 w' w.heap.size (fun k_ => some k_ ≠ ((.slice Ao14 t411.length co14) : Value).ownBlock ∧ some k_ ≠ (v422 : Value).ownBlock) v416 t414) ∧ Aside0 (Kd.R (Kd.int .i64) 3 w' w.heap.size (fun k_ => some k_ ≠ ((.slice Ao14 t411.length co14) : Value).ownBlock ∧ some k_ ≠ (v416 : Value).ownBlock) v422 t420) ∧ Aside0 (Below w.heap.size w w'))
          case atStart => exact ⟨(1), (by first | rfl | (simp; done) | (simp [*]; done)), H', ⟨Nat.le_refl _⟩, ⟨by (with_reducible repeat (first | apply Kd.R_alloc | apply Kd.R_drewN | apply Kd.R_drew)); exact HO_10.out⟩, ⟨by (with_reducible repeat (first | apply Kd.R_alloc | apply Kd.R_drewN | apply Kd.R_drew)); exact HO_11.out⟩, ⟨by (with_reducible repeat (first | apply Kd.R_alloc | apply Kd.R_drewN | apply Kd.R_drew)); exact HO_15.out⟩, ⟨by repeat (first | (with_reducible first | exact HB.out | apply below_alloc | apply pw_below_drewN | apply below_drew1) | exact HB.out)⟩⟩
          case round =>
            clear H'
            try clear c1
            try clear c2
            try clear p2
            try clear c3
            try clear p4
            try clear q4
            try clear hx4
            try clear qi4
            try clear c6
            try clear p6
            try clear c18
            try clear c18b0
            try clear c18b1
            try clear c19
            try clear c19b0
            try clear c19b1
            try clear c20
            try clear c20b0
            try clear c20b1
            try clear c21
            try clear c21b0
            try clear c21b1
            try clear c22
            try clear c22b0
            try clear c22b1
            try clear c23
            try clear c23b0
            try clear c23b1
            try clear c24
            try clear c24b0
            try clear c24b1
            try clear c25
            try clear c25b0
            try clear c25b1
            try clear c26
            try clear c26b0
            try clear c26b1
            try clear c32
            try clear hx424_0
            try clear hx425_0
            try clear p2
            try clear p4
            try clear p424
            try clear p425
            try clear p6
            try clear q4
            try clear q424
            try clear q425
            obtain ⟨x17_2, rfl, HA, HK2, HO_10, HO_11, HO_15, HB⟩ := hrel
            cases gk with
            | zero => exact absurd HA.out (by simp [tipstafflaw07_ShaftAscends.l0])
            | succ k2 =>
              have H := HA.out
              clear HA
              simp only [tipstafflaw07_ShaftAscends.l0] at H
              by_cases c33 : x17_2 < (t414.length : Int)
              · rw [if_pos c33] at H
                have c33b0 : decide (x17_2 < (t414.length : Int)) = true := decide_eq_true c33
                clear c33
                by_cases c34 : 0 ≤ x17_2
                · rw [if_pos c34] at H
                  have c34b0 : decide (0 ≤ x17_2) = true := decide_eq_true c34
                  clear c34
                  obtain ⟨ji35, hji35⟩ : ∃ j_ : Int, (wrap64 (x17_2 - 1)) = j_ := ⟨_, rfl⟩
                  replace H : (if 0 ≤ (ji35) then (if (ji35) < (t414.length : Int) then (if (ji35) < (t411.length : Int) then (if (wrap64 ((rd t414 x17_2) - (rd t414 (ji35)))) = (rd t411 (ji35)) then (if x17_2 < (t420.length : Int) then (if (rd t420 x17_2) = x17_2 then (tipstafflaw07_ShaftAscends.l0 k2 a1 a2 a3 t411 t414 t420 (wrap64 (x17_2 + 1))) else (none)) else (none)) else (none)) else (none)) else (none)) else (none)) = some r := by first | (rw [hji35] at H; exact H) | (simp only [hji35] at H ⊢; exact H)
                  have hji35w : (IntKind.i64.wrap (x17_2 - 1)) = ji35 := (i64_w _).trans hji35
                  by_cases c36 : 0 ≤ (ji35)
                  · rw [if_pos c36] at H
                    have c36b0 : decide (0 ≤ (ji35)) = true := decide_eq_true c36
                    clear c36
                    by_cases c37 : (ji35) < (t414.length : Int)
                    · rw [if_pos c37] at H
                      have c37b0 : decide ((ji35) < (t414.length : Int)) = true := decide_eq_true c37
                      clear c37
                      by_cases c38 : (ji35) < (t411.length : Int)
                      · rw [if_pos c38] at H
                        have c38b0 : decide ((ji35) < (t411.length : Int)) = true := decide_eq_true c38
                        clear c38
                        by_cases c39 : (wrap64 ((rd t414 x17_2) - (rd t414 (ji35)))) = (rd t411 (ji35))
                        · rw [if_pos c39] at H
                          have c39b0 : ((wrap64 ((rd t414 x17_2) - (rd t414 (ji35)))) == (rd t411 (ji35))) = true := beq_iff_eq.mpr c39
                          have c39b1 : ((wrap64 ((rd t414 x17_2) - (rd t414 (ji35)))) != (rd t411 (ji35))) = false := bne_eq_false_iff_eq.mpr c39
                          clear c39
                          by_cases c40 : x17_2 < (t420.length : Int)
                          · rw [if_pos c40] at H
                            have c40b0 : decide (x17_2 < (t420.length : Int)) = true := decide_eq_true c40
                            clear c40
                            by_cases c41 : (rd t420 x17_2) = x17_2
                            · rw [if_pos c41] at H
                              have c41b0 : ((rd t420 x17_2) == x17_2) = true := beq_iff_eq.mpr c41
                              have c41b1 : ((rd t420 x17_2) != x17_2) = false := bne_eq_false_iff_eq.mpr c41
                              clear c41
                              have H' := Aside0.mk H
                              clear H
                              obtain ⟨Ao42, co42, eo42⟩ := Kd.R_slice HO_11.out
                              subst eo42
                              have p426 : 0 ≤ (x17_2 : Int) := of_decide_eq_true (by first | (with_reducible assumption) | assumption)
                              have q426 : x17_2 < (t414.length : Int) := of_decide_eq_true (by first | (with_reducible assumption) | assumption)
                              obtain ⟨ad426, e426, hx426_0⟩ := Kd.at_int (Kd.R_reads' HO_11.out).2.2 x17_2 p426 q426
                              cases e426
                              replace p426 := eq_true p426
                              replace q426 := eq_true q426
                              have p427 : 0 ≤ ((ji35) : Int) := of_decide_eq_true (by first | (with_reducible assumption) | assumption)
                              have q427 : (ji35) < (t414.length : Int) := of_decide_eq_true (by first | (with_reducible assumption) | assumption)
                              obtain ⟨ad427, e427, hx427_0⟩ := Kd.at_int (Kd.R_reads' HO_11.out).2.2 (ji35) p427 q427
                              obtain rfl : ad426 = ad427 := (by injection e427)
                              replace p427 := eq_true p427
                              replace q427 := eq_true q427
                              have p428 : 0 ≤ ((ji35) : Int) := of_decide_eq_true (by first | (with_reducible assumption) | assumption)
                              have q428 : (ji35) < (t411.length : Int) := of_decide_eq_true (by first | (with_reducible assumption) | assumption)
                              obtain ⟨ad428, e428, hx428_0⟩ := Kd.at_int (Kd.R_reads' HO_10.out).2.2 (ji35) p428 q428
                              cases e428
                              replace p428 := eq_true p428
                              replace q428 := eq_true q428
                              obtain ⟨Ao43, co43, eo43⟩ := Kd.R_slice HO_15.out
                              subst eo43
                              have p429 : 0 ≤ (x17_2 : Int) := of_decide_eq_true (by first | (with_reducible assumption) | assumption)
                              have q429 : x17_2 < (t420.length : Int) := of_decide_eq_true (by first | (with_reducible assumption) | assumption)
                              obtain ⟨ad429, e429, hx429_0⟩ := Kd.at_int (Kd.R_reads' HO_15.out).2.2 x17_2 p429 q429
                              cases e429
                              replace p429 := eq_true p429
                              replace q429 := eq_true q429
                              go_wp2
                              repeat (go_quiet (fail); try go_wp2)
                              go_roundg k2
                              case measure => have := HJ10.out; have := HK2.out; omega
                              case rel => exact ⟨(wrap64 (x17_2 + 1)), (by first | rfl | (simp; done) | (simp [*]; done)), H', ⟨by have := HJ10.out; have := HK2.out; omega⟩, ⟨by (with_reducible repeat (first | apply Kd.R_alloc | apply Kd.R_drewN | apply Kd.R_drew)); exact HO_10.out⟩, ⟨by (with_reducible repeat (first | apply Kd.R_alloc | apply Kd.R_drewN | apply Kd.R_drew)); exact HO_11.out⟩, ⟨by (with_reducible repeat (first | apply Kd.R_alloc | apply Kd.R_drewN | apply Kd.R_drew)); exact HO_15.out⟩, ⟨by repeat (first | (with_reducible first | exact HB.out | apply below_alloc | apply pw_below_drewN | apply below_drew1) | exact HB.out)⟩⟩
                            · rw [if_neg c41] at H
                              exact absurd H (by simp)
                          · rw [if_neg c40] at H
                            exact absurd H (by simp)
                        · rw [if_neg c39] at H
                          exact absurd H (by simp)
                      · rw [if_neg c38] at H
                        exact absurd H (by simp)
                    · rw [if_neg c37] at H
                      exact absurd H (by simp)
                  · rw [if_neg c36] at H
                    exact absurd H (by simp)
                · rw [if_neg c34] at H
                  exact absurd H (by simp)
              · rw [if_neg c33] at H
                have c33b0 : decide (x17_2 < (t414.length : Int)) = false := decide_eq_false c33
                clear c33
                replace H := Option.bind_eq_some_iff.mp H
                obtain ⟨t430, A440, H⟩ := H
                replace H : ((tipstaffkit_Mod.f a2 (t414.length : Int)).bind fun t431 => ((tipstaffkit_Mod.f a3 (t414.length : Int)).bind fun t432 => ((shaft_Distance.f t411 (mn (mn t430 t431) t432) (wrap64 ((wrap64 ((wrap64 ((wrap64 (t430 + t431)) + t432)) - (mn (mn t430 t431) t432))) - (mx (mx t430 t431) t432)))).bind fun bt433 => ((shaft_Distance.f t411 (mx (mx t430 t431) t432) (wrap64 ((wrap64 ((wrap64 ((wrap64 (t430 + t431)) + t432)) - (mn (mn t430 t431) t432))) - (mx (mx t430 t431) t432)))).bind fun bt435 => ((shaft_Distance.f t411 (mn (mn t430 t431) t432) (mx (mx t430 t431) t432)).bind fun bt437 => (if bt433.2 = 0 then (if bt435.2 = 0 then (if bt437.2 = 0 then (some ((wrap64 (bt433.1 + bt435.1)) == bt437.1)) else (none)) else (none)) else (none))))))) = some r := H
                have A44 := Aside0.mk A440
                clear A440
                replace H := Option.bind_eq_some_iff.mp H
                obtain ⟨t431, A450, H⟩ := H
                replace H : ((tipstaffkit_Mod.f a3 (t414.length : Int)).bind fun t432 => ((shaft_Distance.f t411 (mn (mn t430 t431) t432) (wrap64 ((wrap64 ((wrap64 ((wrap64 (t430 + t431)) + t432)) - (mn (mn t430 t431) t432))) - (mx (mx t430 t431) t432)))).bind fun bt433 => ((shaft_Distance.f t411 (mx (mx t430 t431) t432) (wrap64 ((wrap64 ((wrap64 ((wrap64 (t430 + t431)) + t432)) - (mn (mn t430 t431) t432))) - (mx (mx t430 t431) t432)))).bind fun bt435 => ((shaft_Distance.f t411 (mn (mn t430 t431) t432) (mx (mx t430 t431) t432)).bind fun bt437 => (if bt433.2 = 0 then (if bt435.2 = 0 then (if bt437.2 = 0 then (some ((wrap64 (bt433.1 + bt435.1)) == bt437.1)) else (none)) else (none)) else (none)))))) = some r := H
                have A45 := Aside0.mk A450
                clear A450
                replace H := Option.bind_eq_some_iff.mp H
                obtain ⟨t432, A460, H⟩ := H
                replace H : ((shaft_Distance.f t411 (mn (mn t430 t431) t432) (wrap64 ((wrap64 ((wrap64 ((wrap64 (t430 + t431)) + t432)) - (mn (mn t430 t431) t432))) - (mx (mx t430 t431) t432)))).bind fun bt433 => ((shaft_Distance.f t411 (mx (mx t430 t431) t432) (wrap64 ((wrap64 ((wrap64 ((wrap64 (t430 + t431)) + t432)) - (mn (mn t430 t431) t432))) - (mx (mx t430 t431) t432)))).bind fun bt435 => ((shaft_Distance.f t411 (mn (mn t430 t431) t432) (mx (mx t430 t431) t432)).bind fun bt437 => (if bt433.2 = 0 then (if bt435.2 = 0 then (if bt437.2 = 0 then (some ((wrap64 (bt433.1 + bt435.1)) == bt437.1)) else (none)) else (none)) else (none))))) = some r := H
                have A46 := Aside0.mk A460
                clear A460
                obtain ⟨ji47, hji47⟩ : ∃ j_ : Int, (mn t430 t431) = j_ := ⟨_, rfl⟩
                replace H : ((shaft_Distance.f t411 (mn (ji47) t432) (wrap64 ((wrap64 ((wrap64 ((wrap64 (t430 + t431)) + t432)) - (mn (ji47) t432))) - (mx (mx t430 t431) t432)))).bind fun bt433 => ((shaft_Distance.f t411 (mx (mx t430 t431) t432) (wrap64 ((wrap64 ((wrap64 ((wrap64 (t430 + t431)) + t432)) - (mn (ji47) t432))) - (mx (mx t430 t431) t432)))).bind fun bt435 => ((shaft_Distance.f t411 (mn (ji47) t432) (mx (mx t430 t431) t432)).bind fun bt437 => (if bt433.2 = 0 then (if bt435.2 = 0 then (if bt437.2 = 0 then (some ((wrap64 (bt433.1 + bt435.1)) == bt437.1)) else (none)) else (none)) else (none))))) = some r := by first | (rw [hji47] at H; exact H) | (simp only [hji47] at H ⊢; exact H)
                (try rw [hji47] at A44)
                (try rw [hji47] at A45)
                (try rw [hji47] at A46)
                have hji47_ : (if t431 < t430 then t431 else t430) = ji47 := hji47
                obtain ⟨ji48, hji48⟩ : ∃ j_ : Int, (mn (ji47) t432) = j_ := ⟨_, rfl⟩
                replace H : ((shaft_Distance.f t411 (ji48) (wrap64 ((wrap64 ((wrap64 ((wrap64 (t430 + t431)) + t432)) - (ji48))) - (mx (mx t430 t431) t432)))).bind fun bt433 => ((shaft_Distance.f t411 (mx (mx t430 t431) t432) (wrap64 ((wrap64 ((wrap64 ((wrap64 (t430 + t431)) + t432)) - (ji48))) - (mx (mx t430 t431) t432)))).bind fun bt435 => ((shaft_Distance.f t411 (ji48) (mx (mx t430 t431) t432)).bind fun bt437 => (if bt433.2 = 0 then (if bt435.2 = 0 then (if bt437.2 = 0 then (some ((wrap64 (bt433.1 + bt435.1)) == bt437.1)) else (none)) else (none)) else (none))))) = some r := by first | (rw [hji48] at H; exact H) | (simp only [hji48] at H ⊢; exact H)
                (try rw [hji48] at A44)
                (try rw [hji48] at A45)
                (try rw [hji48] at A46)
                have hji48_ : (if t432 < (ji47) then t432 else (ji47)) = ji48 := hji48
                obtain ⟨ji49, hji49⟩ : ∃ j_ : Int, (mx t430 t431) = j_ := ⟨_, rfl⟩
                replace H : ((shaft_Distance.f t411 (ji48) (wrap64 ((wrap64 ((wrap64 ((wrap64 (t430 + t431)) + t432)) - (ji48))) - (mx (ji49) t432)))).bind fun bt433 => ((shaft_Distance.f t411 (mx (ji49) t432) (wrap64 ((wrap64 ((wrap64 ((wrap64 (t430 + t431)) + t432)) - (ji48))) - (mx (ji49) t432)))).bind fun bt435 => ((shaft_Distance.f t411 (ji48) (mx (ji49) t432)).bind fun bt437 => (if bt433.2 = 0 then (if bt435.2 = 0 then (if bt437.2 = 0 then (some ((wrap64 (bt433.1 + bt435.1)) == bt437.1)) else (none)) else (none)) else (none))))) = some r := by first | (rw [hji49] at H; exact H) | (simp only [hji49] at H ⊢; exact H)
                (try rw [hji49] at A44)
                (try rw [hji49] at A45)
                (try rw [hji49] at A46)
                have hji49_ : (if t430 < t431 then t431 else t430) = ji49 := hji49
                obtain ⟨ji50, hji50⟩ : ∃ j_ : Int, (mx (ji49) t432) = j_ := ⟨_, rfl⟩
                replace H : ((shaft_Distance.f t411 (ji48) (wrap64 ((wrap64 ((wrap64 ((wrap64 (t430 + t431)) + t432)) - (ji48))) - (ji50)))).bind fun bt433 => ((shaft_Distance.f t411 (ji50) (wrap64 ((wrap64 ((wrap64 ((wrap64 (t430 + t431)) + t432)) - (ji48))) - (ji50)))).bind fun bt435 => ((shaft_Distance.f t411 (ji48) (ji50)).bind fun bt437 => (if bt433.2 = 0 then (if bt435.2 = 0 then (if bt437.2 = 0 then (some ((wrap64 (bt433.1 + bt435.1)) == bt437.1)) else (none)) else (none)) else (none))))) = some r := by first | (rw [hji50] at H; exact H) | (simp only [hji50] at H ⊢; exact H)
                (try rw [hji50] at A44)
                (try rw [hji50] at A45)
                (try rw [hji50] at A46)
                have hji50_ : (if (ji49) < t432 then t432 else (ji49)) = ji50 := hji50
                replace H := Option.bind_eq_some_iff.mp H
                obtain ⟨⟨t433, t434⟩, A510, H⟩ := H
                replace H : ((shaft_Distance.f t411 (ji50) (wrap64 ((wrap64 ((wrap64 ((wrap64 (t430 + t431)) + t432)) - (ji48))) - (ji50)))).bind fun bt435 => ((shaft_Distance.f t411 (ji48) (ji50)).bind fun bt437 => (if t434 = 0 then (if bt435.2 = 0 then (if bt437.2 = 0 then (some ((wrap64 (t433 + bt435.1)) == bt437.1)) else (none)) else (none)) else (none)))) = some r := H
                have A51 := Aside0.mk A510
                clear A510
                replace H := Option.bind_eq_some_iff.mp H
                obtain ⟨⟨t435, t436⟩, A520, H⟩ := H
                replace H : ((shaft_Distance.f t411 (ji48) (ji50)).bind fun bt437 => (if t434 = 0 then (if t436 = 0 then (if bt437.2 = 0 then (some ((wrap64 (t433 + t435)) == bt437.1)) else (none)) else (none)) else (none))) = some r := H
                have A52 := Aside0.mk A520
                clear A520
                replace H := Option.bind_eq_some_iff.mp H
                obtain ⟨⟨t437, t438⟩, A530, H⟩ := H
                replace H : (if t434 = 0 then (if t436 = 0 then (if t438 = 0 then (some ((wrap64 (t433 + t435)) == t437)) else (none)) else (none)) else (none)) = some r := H
                have A53 := Aside0.mk A530
                clear A530
                by_cases c54 : t434 = 0
                · rw [if_pos c54] at H
                  have c54b0 : (t434 == 0) = true := beq_iff_eq.mpr c54
                  have c54b1 : (t434 != 0) = false := bne_eq_false_iff_eq.mpr c54
                  clear c54
                  by_cases c55 : t436 = 0
                  · rw [if_pos c55] at H
                    have c55b0 : (t436 == 0) = true := beq_iff_eq.mpr c55
                    have c55b1 : (t436 != 0) = false := bne_eq_false_iff_eq.mpr c55
                    clear c55
                    by_cases c56 : t438 = 0
                    · rw [if_pos c56] at H
                      have c56b0 : (t438 == 0) = true := beq_iff_eq.mpr c56
                      have c56b1 : (t438 != 0) = false := bne_eq_false_iff_eq.mpr c56
                      clear c56
                      obtain rfl := Option.some.inj H
                      obtain ⟨Ao57, co57, eo57⟩ := Kd.R_slice HO_11.out
                      subst eo57
                      go_wp2_with (first | (go_at_call 31; (with_reducible refine (tipstaffkit_Mod.calls a1 (t414.length : Int) t430 _ A44.out).mono ?_); rintro e w' ⟨rfl, ⟨nd, rfl⟩⟩; (try first | exact ⟨rfl, _, World.drewN_drewN _ _ _⟩ | exact ⟨rfl, _, Eq.trans (World.drewN_drewN _ _ _) (congrArg (World.drewN _) (Nat.add_assoc _ _ _))⟩)) | (go_at_call 31; (with_reducible refine (tipstaffkit_Mod.calls a2 (t414.length : Int) t431 _ A45.out).mono ?_); rintro e w' ⟨rfl, ⟨nd, rfl⟩⟩; (try first | exact ⟨rfl, _, World.drewN_drewN _ _ _⟩ | exact ⟨rfl, _, Eq.trans (World.drewN_drewN _ _ _) (congrArg (World.drewN _) (Nat.add_assoc _ _ _))⟩)) | (go_at_call 31; (with_reducible refine (tipstaffkit_Mod.calls a3 (t414.length : Int) t432 _ A46.out).mono ?_); rintro e w' ⟨rfl, ⟨nd, rfl⟩⟩; (try first | exact ⟨rfl, _, World.drewN_drewN _ _ _⟩ | exact ⟨rfl, _, Eq.trans (World.drewN_drewN _ _ _) (congrArg (World.drewN _) (Nat.add_assoc _ _ _))⟩)) | (go_at_call 18; (with_reducible refine (shaft_Distance.calls _ _ t411 ji48 (wrap64 ((wrap64 ((wrap64 ((wrap64 (t430 + t431)) + t432)) - (ji48))) - (ji50))) t433 t434 _ ?side1 ?side2 A51.out).mono ?_); (case side1 => repeat (first | exact (Kd.R_reads' HO_10.out).2.2 | (with_reducible refine Kd.C_alloc ?_ _) | (with_reducible refine Kd.C_drewN ?_ _) | (with_reducible refine Kd.C_drew ?_))); (case side2 => exact (Kd.R_reads' HO_10.out).2.1); rintro e w58 ⟨rfl, hb⟩; have n0_ := Aside0.mk (Kd.R_below (by (with_reducible repeat (first | apply Kd.R_alloc | apply Kd.R_drewN | apply Kd.R_drew)); exact HO_10.out) hb); have n1_ := Aside0.mk (Kd.R_below (by (with_reducible repeat (first | apply Kd.R_alloc | apply Kd.R_drewN | apply Kd.R_drew)); exact HO_11.out) hb); have n2_ := Aside0.mk (Kd.R_below (by (with_reducible repeat (first | apply Kd.R_alloc | apply Kd.R_drewN | apply Kd.R_drew)); exact HO_15.out) hb); have n3_ := Aside0.mk (below_step (by repeat (first | (with_reducible first | exact HB.out | apply below_alloc | apply pw_below_drewN | apply below_drew1) | exact HB.out)) hb); clear HO_10; clear HO_11; clear HO_15; clear HB; have HO_10 := n0_; have HO_11 := n1_; have HO_15 := n2_; have HB := n3_; clear n0_ n1_ n2_ n3_; (try clear hb); (try clear hb2); (try clear hk); (try clear hi)) | (go_at_call 18; (with_reducible refine (shaft_Distance.calls _ _ t411 ji50 (wrap64 ((wrap64 ((wrap64 ((wrap64 (t430 + t431)) + t432)) - (ji48))) - (ji50))) t435 t436 _ ?side1 ?side2 A52.out).mono ?_); (case side1 => repeat (first | exact (Kd.R_reads' HO_10.out).2.2 | (with_reducible refine Kd.C_alloc ?_ _) | (with_reducible refine Kd.C_drewN ?_ _) | (with_reducible refine Kd.C_drew ?_))); (case side2 => exact (Kd.R_reads' HO_10.out).2.1); rintro e w59 ⟨rfl, hb⟩; have n0_ := Aside0.mk (Kd.R_below (by (with_reducible repeat (first | apply Kd.R_alloc | apply Kd.R_drewN | apply Kd.R_drew)); exact HO_10.out) hb); have n1_ := Aside0.mk (Kd.R_below (by (with_reducible repeat (first | apply Kd.R_alloc | apply Kd.R_drewN | apply Kd.R_drew)); exact HO_11.out) hb); have n2_ := Aside0.mk (Kd.R_below (by (with_reducible repeat (first | apply Kd.R_alloc | apply Kd.R_drewN | apply Kd.R_drew)); exact HO_15.out) hb); have n3_ := Aside0.mk (below_step (by repeat (first | (with_reducible first | exact HB.out | apply below_alloc | apply pw_below_drewN | apply below_drew1) | exact HB.out)) hb); clear HO_10; clear HO_11; clear HO_15; clear HB; have HO_10 := n0_; have HO_11 := n1_; have HO_15 := n2_; have HB := n3_; clear n0_ n1_ n2_ n3_; (try clear hb); (try clear hb2); (try clear hk); (try clear hi)) | (go_at_call 18; (with_reducible refine (shaft_Distance.calls _ _ t411 ji48 ji50 t437 t438 _ ?side1 ?side2 A53.out).mono ?_); (case side1 => repeat (first | exact (Kd.R_reads' HO_10.out).2.2 | (with_reducible refine Kd.C_alloc ?_ _) | (with_reducible refine Kd.C_drewN ?_ _) | (with_reducible refine Kd.C_drew ?_))); (case side2 => exact (Kd.R_reads' HO_10.out).2.1); rintro e w60 ⟨rfl, hb⟩; have n0_ := Aside0.mk (Kd.R_below (by (with_reducible repeat (first | apply Kd.R_alloc | apply Kd.R_drewN | apply Kd.R_drew)); exact HO_10.out) hb); have n1_ := Aside0.mk (Kd.R_below (by (with_reducible repeat (first | apply Kd.R_alloc | apply Kd.R_drewN | apply Kd.R_drew)); exact HO_11.out) hb); have n2_ := Aside0.mk (Kd.R_below (by (with_reducible repeat (first | apply Kd.R_alloc | apply Kd.R_drewN | apply Kd.R_drew)); exact HO_15.out) hb); have n3_ := Aside0.mk (below_step (by repeat (first | (with_reducible first | exact HB.out | apply below_alloc | apply pw_below_drewN | apply below_drew1) | exact HB.out)) hb); clear HO_10; clear HO_11; clear HO_15; clear HB; have HO_10 := n0_; have HO_11 := n1_; have HO_15 := n2_; have HB := n3_; clear n0_ n1_ n2_ n3_; (try clear hb); (try clear hb2); (try clear hk); (try clear hi)))
                      repeat (go_quiet (first | (go_at_call 31; (with_reducible refine (tipstaffkit_Mod.calls a1 (t414.length : Int) t430 _ A44.out).mono ?_); rintro e w' ⟨rfl, ⟨nd, rfl⟩⟩; (try first | exact ⟨rfl, _, World.drewN_drewN _ _ _⟩ | exact ⟨rfl, _, Eq.trans (World.drewN_drewN _ _ _) (congrArg (World.drewN _) (Nat.add_assoc _ _ _))⟩)) | (go_at_call 31; (with_reducible refine (tipstaffkit_Mod.calls a2 (t414.length : Int) t431 _ A45.out).mono ?_); rintro e w' ⟨rfl, ⟨nd, rfl⟩⟩; (try first | exact ⟨rfl, _, World.drewN_drewN _ _ _⟩ | exact ⟨rfl, _, Eq.trans (World.drewN_drewN _ _ _) (congrArg (World.drewN _) (Nat.add_assoc _ _ _))⟩)) | (go_at_call 31; (with_reducible refine (tipstaffkit_Mod.calls a3 (t414.length : Int) t432 _ A46.out).mono ?_); rintro e w' ⟨rfl, ⟨nd, rfl⟩⟩; (try first | exact ⟨rfl, _, World.drewN_drewN _ _ _⟩ | exact ⟨rfl, _, Eq.trans (World.drewN_drewN _ _ _) (congrArg (World.drewN _) (Nat.add_assoc _ _ _))⟩)) | (go_at_call 18; (with_reducible refine (shaft_Distance.calls _ _ t411 ji48 (wrap64 ((wrap64 ((wrap64 ((wrap64 (t430 + t431)) + t432)) - (ji48))) - (ji50))) t433 t434 _ ?side1 ?side2 A51.out).mono ?_); (case side1 => repeat (first | exact (Kd.R_reads' HO_10.out).2.2 | (with_reducible refine Kd.C_alloc ?_ _) | (with_reducible refine Kd.C_drewN ?_ _) | (with_reducible refine Kd.C_drew ?_))); (case side2 => exact (Kd.R_reads' HO_10.out).2.1); rintro e w58 ⟨rfl, hb⟩; have n0_ := Aside0.mk (Kd.R_below (by (with_reducible repeat (first | apply Kd.R_alloc | apply Kd.R_drewN | apply Kd.R_drew)); exact HO_10.out) hb); have n1_ := Aside0.mk (Kd.R_below (by (with_reducible repeat (first | apply Kd.R_alloc | apply Kd.R_drewN | apply Kd.R_drew)); exact HO_11.out) hb); have n2_ := Aside0.mk (Kd.R_below (by (with_reducible repeat (first | apply Kd.R_alloc | apply Kd.R_drewN | apply Kd.R_drew)); exact HO_15.out) hb); have n3_ := Aside0.mk (below_step (by repeat (first | (with_reducible first | exact HB.out | apply below_alloc | apply pw_below_drewN | apply below_drew1) | exact HB.out)) hb); clear HO_10; clear HO_11; clear HO_15; clear HB; have HO_10 := n0_; have HO_11 := n1_; have HO_15 := n2_; have HB := n3_; clear n0_ n1_ n2_ n3_; (try clear hb); (try clear hb2); (try clear hk); (try clear hi)) | (go_at_call 18; (with_reducible refine (shaft_Distance.calls _ _ t411 ji50 (wrap64 ((wrap64 ((wrap64 ((wrap64 (t430 + t431)) + t432)) - (ji48))) - (ji50))) t435 t436 _ ?side1 ?side2 A52.out).mono ?_); (case side1 => repeat (first | exact (Kd.R_reads' HO_10.out).2.2 | (with_reducible refine Kd.C_alloc ?_ _) | (with_reducible refine Kd.C_drewN ?_ _) | (with_reducible refine Kd.C_drew ?_))); (case side2 => exact (Kd.R_reads' HO_10.out).2.1); rintro e w59 ⟨rfl, hb⟩; have n0_ := Aside0.mk (Kd.R_below (by (with_reducible repeat (first | apply Kd.R_alloc | apply Kd.R_drewN | apply Kd.R_drew)); exact HO_10.out) hb); have n1_ := Aside0.mk (Kd.R_below (by (with_reducible repeat (first | apply Kd.R_alloc | apply Kd.R_drewN | apply Kd.R_drew)); exact HO_11.out) hb); have n2_ := Aside0.mk (Kd.R_below (by (with_reducible repeat (first | apply Kd.R_alloc | apply Kd.R_drewN | apply Kd.R_drew)); exact HO_15.out) hb); have n3_ := Aside0.mk (below_step (by repeat (first | (with_reducible first | exact HB.out | apply below_alloc | apply pw_below_drewN | apply below_drew1) | exact HB.out)) hb); clear HO_10; clear HO_11; clear HO_15; clear HB; have HO_10 := n0_; have HO_11 := n1_; have HO_15 := n2_; have HB := n3_; clear n0_ n1_ n2_ n3_; (try clear hb); (try clear hb2); (try clear hk); (try clear hi)) | (go_at_call 18; (with_reducible refine (shaft_Distance.calls _ _ t411 ji48 ji50 t437 t438 _ ?side1 ?side2 A53.out).mono ?_); (case side1 => repeat (first | exact (Kd.R_reads' HO_10.out).2.2 | (with_reducible refine Kd.C_alloc ?_ _) | (with_reducible refine Kd.C_drewN ?_ _) | (with_reducible refine Kd.C_drew ?_))); (case side2 => exact (Kd.R_reads' HO_10.out).2.1); rintro e w60 ⟨rfl, hb⟩; have n0_ := Aside0.mk (Kd.R_below (by (with_reducible repeat (first | apply Kd.R_alloc | apply Kd.R_drewN | apply Kd.R_drew)); exact HO_10.out) hb); have n1_ := Aside0.mk (Kd.R_below (by (with_reducible repeat (first | apply Kd.R_alloc | apply Kd.R_drewN | apply Kd.R_drew)); exact HO_11.out) hb); have n2_ := Aside0.mk (Kd.R_below (by (with_reducible repeat (first | apply Kd.R_alloc | apply Kd.R_drewN | apply Kd.R_drew)); exact HO_15.out) hb); have n3_ := Aside0.mk (below_step (by repeat (first | (with_reducible first | exact HB.out | apply below_alloc | apply pw_below_drewN | apply below_drew1) | exact HB.out)) hb); clear HO_10; clear HO_11; clear HO_15; clear HB; have HO_10 := n0_; have HO_11 := n1_; have HO_15 := n2_; have HB := n3_; clear n0_ n1_ n2_ n3_; (try clear hb); (try clear hb2); (try clear hk); (try clear hi))); try go_wp2_with (first | (go_at_call 31; (with_reducible refine (tipstaffkit_Mod.calls a1 (t414.length : Int) t430 _ A44.out).mono ?_); rintro e w' ⟨rfl, ⟨nd, rfl⟩⟩; (try first | exact ⟨rfl, _, World.drewN_drewN _ _ _⟩ | exact ⟨rfl, _, Eq.trans (World.drewN_drewN _ _ _) (congrArg (World.drewN _) (Nat.add_assoc _ _ _))⟩)) | (go_at_call 31; (with_reducible refine (tipstaffkit_Mod.calls a2 (t414.length : Int) t431 _ A45.out).mono ?_); rintro e w' ⟨rfl, ⟨nd, rfl⟩⟩; (try first | exact ⟨rfl, _, World.drewN_drewN _ _ _⟩ | exact ⟨rfl, _, Eq.trans (World.drewN_drewN _ _ _) (congrArg (World.drewN _) (Nat.add_assoc _ _ _))⟩)) | (go_at_call 31; (with_reducible refine (tipstaffkit_Mod.calls a3 (t414.length : Int) t432 _ A46.out).mono ?_); rintro e w' ⟨rfl, ⟨nd, rfl⟩⟩; (try first | exact ⟨rfl, _, World.drewN_drewN _ _ _⟩ | exact ⟨rfl, _, Eq.trans (World.drewN_drewN _ _ _) (congrArg (World.drewN _) (Nat.add_assoc _ _ _))⟩)) | (go_at_call 18; (with_reducible refine (shaft_Distance.calls _ _ t411 ji48 (wrap64 ((wrap64 ((wrap64 ((wrap64 (t430 + t431)) + t432)) - (ji48))) - (ji50))) t433 t434 _ ?side1 ?side2 A51.out).mono ?_); (case side1 => repeat (first | exact (Kd.R_reads' HO_10.out).2.2 | (with_reducible refine Kd.C_alloc ?_ _) | (with_reducible refine Kd.C_drewN ?_ _) | (with_reducible refine Kd.C_drew ?_))); (case side2 => exact (Kd.R_reads' HO_10.out).2.1); rintro e w58 ⟨rfl, hb⟩; have n0_ := Aside0.mk (Kd.R_below (by (with_reducible repeat (first | apply Kd.R_alloc | apply Kd.R_drewN | apply Kd.R_drew)); exact HO_10.out) hb); have n1_ := Aside0.mk (Kd.R_below (by (with_reducible repeat (first | apply Kd.R_alloc | apply Kd.R_drewN | apply Kd.R_drew)); exact HO_11.out) hb); have n2_ := Aside0.mk (Kd.R_below (by (with_reducible repeat (first | apply Kd.R_alloc | apply Kd.R_drewN | apply Kd.R_drew)); exact HO_15.out) hb); have n3_ := Aside0.mk (below_step (by repeat (first | (with_reducible first | exact HB.out | apply below_alloc | apply pw_below_drewN | apply below_drew1) | exact HB.out)) hb); clear HO_10; clear HO_11; clear HO_15; clear HB; have HO_10 := n0_; have HO_11 := n1_; have HO_15 := n2_; have HB := n3_; clear n0_ n1_ n2_ n3_; (try clear hb); (try clear hb2); (try clear hk); (try clear hi)) | (go_at_call 18; (with_reducible refine (shaft_Distance.calls _ _ t411 ji50 (wrap64 ((wrap64 ((wrap64 ((wrap64 (t430 + t431)) + t432)) - (ji48))) - (ji50))) t435 t436 _ ?side1 ?side2 A52.out).mono ?_); (case side1 => repeat (first | exact (Kd.R_reads' HO_10.out).2.2 | (with_reducible refine Kd.C_alloc ?_ _) | (with_reducible refine Kd.C_drewN ?_ _) | (with_reducible refine Kd.C_drew ?_))); (case side2 => exact (Kd.R_reads' HO_10.out).2.1); rintro e w59 ⟨rfl, hb⟩; have n0_ := Aside0.mk (Kd.R_below (by (with_reducible repeat (first | apply Kd.R_alloc | apply Kd.R_drewN | apply Kd.R_drew)); exact HO_10.out) hb); have n1_ := Aside0.mk (Kd.R_below (by (with_reducible repeat (first | apply Kd.R_alloc | apply Kd.R_drewN | apply Kd.R_drew)); exact HO_11.out) hb); have n2_ := Aside0.mk (Kd.R_below (by (with_reducible repeat (first | apply Kd.R_alloc | apply Kd.R_drewN | apply Kd.R_drew)); exact HO_15.out) hb); have n3_ := Aside0.mk (below_step (by repeat (first | (with_reducible first | exact HB.out | apply below_alloc | apply pw_below_drewN | apply below_drew1) | exact HB.out)) hb); clear HO_10; clear HO_11; clear HO_15; clear HB; have HO_10 := n0_; have HO_11 := n1_; have HO_15 := n2_; have HB := n3_; clear n0_ n1_ n2_ n3_; (try clear hb); (try clear hb2); (try clear hk); (try clear hi)) | (go_at_call 18; (with_reducible refine (shaft_Distance.calls _ _ t411 ji48 ji50 t437 t438 _ ?side1 ?side2 A53.out).mono ?_); (case side1 => repeat (first | exact (Kd.R_reads' HO_10.out).2.2 | (with_reducible refine Kd.C_alloc ?_ _) | (with_reducible refine Kd.C_drewN ?_ _) | (with_reducible refine Kd.C_drew ?_))); (case side2 => exact (Kd.R_reads' HO_10.out).2.1); rintro e w60 ⟨rfl, hb⟩; have n0_ := Aside0.mk (Kd.R_below (by (with_reducible repeat (first | apply Kd.R_alloc | apply Kd.R_drewN | apply Kd.R_drew)); exact HO_10.out) hb); have n1_ := Aside0.mk (Kd.R_below (by (with_reducible repeat (first | apply Kd.R_alloc | apply Kd.R_drewN | apply Kd.R_drew)); exact HO_11.out) hb); have n2_ := Aside0.mk (Kd.R_below (by (with_reducible repeat (first | apply Kd.R_alloc | apply Kd.R_drewN | apply Kd.R_drew)); exact HO_15.out) hb); have n3_ := Aside0.mk (below_step (by repeat (first | (with_reducible first | exact HB.out | apply below_alloc | apply pw_below_drewN | apply below_drew1) | exact HB.out)) hb); clear HO_10; clear HO_11; clear HO_15; clear HB; have HO_10 := n0_; have HO_11 := n1_; have HO_15 := n2_; have HB := n3_; clear n0_ n1_ n2_ n3_; (try clear hb); (try clear hb2); (try clear hk); (try clear hi))))
                      go_ret
                      exact ⟨by first | rfl | (simp [errW_none, errW_some] <;> rfl) | (simp only [← hji47, ← hji48, ← hji49, ← hji50]; first | rfl | (simp [errW_none, errW_some] <;> rfl)) | (simp [*, errW_none, errW_some] <;> rfl), by repeat (first | (with_reducible first | exact HB.out | apply below_alloc | apply pw_below_drewN | apply below_drew1) | exact HB.out)⟩
                    · rw [if_neg c56] at H
                      exact absurd H (by simp)
                  · rw [if_neg c55] at H
                    exact absurd H (by simp)
                · rw [if_neg c54] at H
                  exact absurd H (by simp)
  · replace c6 := Bool.eq_false_iff.mpr c6
    subst c6
    have H1 : (none) = some r := by rw [if_neg (show ¬ (false = true) by decide)] at H; exact H
    clear H
    have H := H1
    clear H1
    exact absurd H (by simp)

/-- THE ONE PURE STATEMENT of tipstafflaw07_ShaftAscends: yours. -/
def tipstafflaw07_ShaftAscends.Pure : Prop := ∀ (l0 : List Int) (a1 : Int) (a2 : Int) (a3 : Int), l0.length ≤ maxLen → l0.length * 8 ≤ 140737488351232 → (∀ x ∈ l0, (Lit.int .i64 x).wf = true) → (Lit.int .i64 a1).wf = true → (Lit.int .i64 a2).wf = true → (Lit.int .i64 a3).wf = true → ∃ k, tipstafflaw07_ShaftAscends.f k l0 a1 a2 a3 = some true
theorem tipstafflaw07_ShaftAscends.walk (P : tipstafflaw07_ShaftAscends.Pure) (a0 : Option Addr) (len0 cap0 : Nat) (z0 : List Int) (a1 : Int) (a2 : Int) (a3 : Int) (w : World) (w0 : (a0 = none ∧ len0 = 0 ∧ cap0 = 0 ∧ z0 = []) ∨ ∃ x, a0 = some x ∧ len0 ≤ cap0 ∧ cap0 ≤ maxLen ∧ z0.length = cap0 ∧ (∀ i, i < z0.length → w.cell? (x.add i) = some (.int .i64 (z0.getD i 0))) ∧ ∀ n ∈ z0, (Lit.int .i64 n).wf = true) (y0 : len0 * 8 ≤ 140737488351232) (w1 : (Lit.int .i64 a1).wf = true) (w2 : (Lit.int .i64 a2).wf = true) (w3 : (Lit.int .i64 a3).wf = true) :
    Calls Try.prog 6 #[.slice a0 len0 cap0, .int .i64 a1, .int .i64 a2, .int .i64 a3] w fun e w' => e = .returned (.bool true) ∧ Below w.heap.size w w' := by
  obtain ⟨l0, rfl, hr0, hm0, hw0, hc0⟩ := ReadsInt.ofRowC w0
  obtain ⟨k, h⟩ := P l0 a1 a2 a3 hm0 y0 hw0 w1 w2 w3
  refine (tipstafflaw07_ShaftAscends.calls k _ _ l0 a1 a2 a3 true w (Kd.C_of_reads (d := (0 : Int)) (h1 := fun _ => rfl) hr0) hc0 h).mono ?_
  rintro e w' ⟨rfl, hd⟩
  exact ⟨rfl, hd⟩

end Go.Proofs.Ytiahfabhhkpdpaa.P
