-- Printed by wip/myprint.py of this repo (over the kit's printer). Not trusted: Lean checks it.
import Derived.Test.YtiahfabhhkpdpaaP0
import Derived.Test.YtiahfabhhkpdpaaLShaftKnown
import Derived.Test.YtiahfabhhkpdpaaP0tipstaffkit
import Derived.Test.YtiahfabhhkpdpaaP0tipstafflaw07
import Derived.Test.YtiahfabhhkpdpaaP2shaft
import Derived.Test.YtiahfabhhkpdpaaSa
namespace Go.Proofs.Ytiahfabhhkpdpaa.P
open Go.RowKit Go.Proofs.YtiahfabhhkpdpaaW.PrintWords Go.Proofs.YtiahfabhhkpdpaaW.PrintLast Go.Proofs.YtiahfabhhkpdpaaW.PrintMore
attribute [local go_sem] max2_int min2_int max_two min_two max_three min_three max_four min_four   -- for this text's walks alone
set_option linter.unusedVariables false
set_option linter.unusedSimpArgs false

/-! ### tipstafflaw07_ShaftNear: function 7 -/
mutual
def tipstafflaw07_ShaftNear.j0 : Nat → Int → Int → List Int → List Int → Bool → Option (Bool)
  | 0, _, _, _, _, _ => none
  | k + 1, x1, x2, x8, x9, x48 => if x48 = true then (none) else (if 0 ≤ (x8.length : Int) then (if (x8.length : Int) < (x9.length : Int) then ((tipstaffkit_Mod.f x1 (wrap64 ((rd x9 (x8.length : Int)) + 1))).bind fun t449 => ((tipstaffkit_Mod.f x2 21).bind fun t450 => ((shaft_Nearest.f k x8 t449).bind fun bt451 => (if bt451.2 = 0 then (if bt451.1 < 0 then (tipstafflaw07_ShaftNear.j1 k t450 x8 x9 t449 bt451.1 true) else (tipstafflaw07_ShaftNear.j1 k t450 x8 x9 t449 bt451.1 (decide (bt451.1 ≥ (x9.length : Int))))) else (tipstafflaw07_ShaftNear.j1 k t450 x8 x9 t449 bt451.1 true))))) else (none)) else (none))
def tipstafflaw07_ShaftNear.j1 : Nat → Int → List Int → List Int → Int → Int → Bool → Option (Bool)
  | 0, _, _, _, _, _, _ => none
  | k + 1, x2, x8, x9, x11, x12, x76 => if x76 = true then (none) else (if 0 ≤ x12 then (if x12 < (x9.length : Int) then (tipstafflaw07_ShaftNear.l0 k x2 x8 x9 x11 x12 (wrap64 ((mx (rd x9 x12) x11) - (mn (rd x9 x12) x11))) 0) else (none)) else (none))
def tipstafflaw07_ShaftNear.l0 : Nat → Int → List Int → List Int → Int → Int → Int → Int → Option (Bool)
  | 0, _, _, _, _, _, _, _ => none
  | k + 1, x2, x8, x9, x11, x12, x14, x15 => if x15 < (x9.length : Int) then (if 0 ≤ x15 then ((shaft_Nearest.f k x8 (rd x9 x15)).bind fun bt458 => (if (wrap64 ((mx (rd x9 x15) x11) - (mn (rd x9 x15) x11))) < x14 then (none) else (if (wrap64 ((mx (rd x9 x15) x11) - (mn (rd x9 x15) x11))) = x14 then (if x15 < x12 then (none) else (if bt458.2 = 0 then (if bt458.1 = x15 then (tipstafflaw07_ShaftNear.l0 k x2 x8 x9 x11 x12 x14 (wrap64 (x15 + 1))) else (none)) else (none))) else (if bt458.2 = 0 then (if bt458.1 = x15 then (tipstafflaw07_ShaftNear.l0 k x2 x8 x9 x11 x12 x14 (wrap64 (x15 + 1))) else (none)) else (none))))) else (none)) else ((shaft_At.f k x8 x11 x2).bind fun bt460 => (if x14 > x2 then (some (bt460.2 == 6)) else ((shaft_Level.f x8 x11 bt460.1 x2).bind fun bt462 => (if bt460.2 = 0 then (if bt460.1 = x12 then (if bt462.2 = 0 then (some bt462.1) else (none)) else (none)) else (none)))))
end
def tipstafflaw07_ShaftNear.f (k : Nat) (l0 : List Int) (a1 : Int) (a2 : Int) : Option (Bool) := (tipstafflaw07_ShaftKnown.f k).bind fun t439 => (if t439 = true then ((tipstafflaw07_made.f k l0).bind fun t440 => ((shaft_Positions.f t440).bind fun bt443 => (if bt443.2 = 0 then (if (bt443.1.length : Int) = (wrap64 ((t440.length : Int) + 1)) then (if 0 ≤ (t440.length : Int) then (if (t440.length : Int) < (bt443.1.length : Int) then (tipstafflaw07_ShaftNear.j0 k a1 a2 t440 bt443.1 (decide ((rd bt443.1 (t440.length : Int)) < 1))) else (none)) else (none)) else (tipstafflaw07_ShaftNear.j0 k a1 a2 t440 bt443.1 true)) else (tipstafflaw07_ShaftNear.j0 k a1 a2 t440 bt443.1 true)))) else (none))
theorem tipstafflaw07_ShaftNear.mono_l : ∀ k, (∀ y0 y1 y2 y3 y4, LeO (tipstafflaw07_ShaftNear.j0 k y0 y1 y2 y3 y4) (tipstafflaw07_ShaftNear.j0 (k + 1) y0 y1 y2 y3 y4)) ∧ (∀ y0 y1 y2 y3 y4 y5, LeO (tipstafflaw07_ShaftNear.j1 k y0 y1 y2 y3 y4 y5) (tipstafflaw07_ShaftNear.j1 (k + 1) y0 y1 y2 y3 y4 y5)) ∧ (∀ y0 y1 y2 y3 y4 y5 y6, LeO (tipstafflaw07_ShaftNear.l0 k y0 y1 y2 y3 y4 y5 y6) (tipstafflaw07_ShaftNear.l0 (k + 1) y0 y1 y2 y3 y4 y5 y6))
  | 0 => ⟨fun _ _ _ _ _ r h => by simp [tipstafflaw07_ShaftNear.j0] at h, fun _ _ _ _ _ _ r h => by simp [tipstafflaw07_ShaftNear.j1] at h, fun _ _ _ _ _ _ _ r h => by simp [tipstafflaw07_ShaftNear.l0] at h⟩
  | k + 1 => by
    obtain ⟨ih0, ih1, ih2⟩ := tipstafflaw07_ShaftNear.mono_l k
    refine ⟨?_, ?_, ?_⟩
    · intro y0 y1 y2 y3 y4
      unfold tipstafflaw07_ShaftNear.j0
      repeat' first
      | (with_reducible exact ih0 _ _ _ _ _)
      | (with_reducible exact ih1 _ _ _ _ _ _)
      | (with_reducible exact ih2 _ _ _ _ _ _ _)
      | (with_reducible exact shaft_At.mono _ _ _ _)
      | (with_reducible exact shaft_Nearest.mono _ _ _)
      | (with_reducible exact tipstafflaw07_ShaftKnown.mono _)
      | (with_reducible exact tipstafflaw07_made.mono _ _)
      | (with_reducible exact LeO.refl _)
      | (with_reducible exact LeO.none _)
      | (with_reducible refine LeO.ite ?_ ?_)
      | (with_reducible refine LeO.bind ?_ (fun _ => ?_))
      | exact ih0 _ _ _ _ _
      | exact ih1 _ _ _ _ _ _
      | exact ih2 _ _ _ _ _ _ _
      | exact shaft_At.mono _ _ _ _
      | exact shaft_Nearest.mono _ _ _
      | exact tipstafflaw07_ShaftKnown.mono _
      | exact tipstafflaw07_made.mono _ _
      | exact LeO.none _
      | refine LeO.ite ?_ ?_
      | refine LeO.bind ?_ (fun _ => ?_)
    · intro y0 y1 y2 y3 y4 y5
      unfold tipstafflaw07_ShaftNear.j1
      repeat' first
      | (with_reducible exact ih0 _ _ _ _ _)
      | (with_reducible exact ih1 _ _ _ _ _ _)
      | (with_reducible exact ih2 _ _ _ _ _ _ _)
      | (with_reducible exact shaft_At.mono _ _ _ _)
      | (with_reducible exact shaft_Nearest.mono _ _ _)
      | (with_reducible exact tipstafflaw07_ShaftKnown.mono _)
      | (with_reducible exact tipstafflaw07_made.mono _ _)
      | (with_reducible exact LeO.refl _)
      | (with_reducible exact LeO.none _)
      | (with_reducible refine LeO.ite ?_ ?_)
      | (with_reducible refine LeO.bind ?_ (fun _ => ?_))
      | exact ih0 _ _ _ _ _
      | exact ih1 _ _ _ _ _ _
      | exact ih2 _ _ _ _ _ _ _
      | exact shaft_At.mono _ _ _ _
      | exact shaft_Nearest.mono _ _ _
      | exact tipstafflaw07_ShaftKnown.mono _
      | exact tipstafflaw07_made.mono _ _
      | exact LeO.none _
      | refine LeO.ite ?_ ?_
      | refine LeO.bind ?_ (fun _ => ?_)
    · intro y0 y1 y2 y3 y4 y5 y6
      unfold tipstafflaw07_ShaftNear.l0
      repeat' first
      | (with_reducible exact ih0 _ _ _ _ _)
      | (with_reducible exact ih1 _ _ _ _ _ _)
      | (with_reducible exact ih2 _ _ _ _ _ _ _)
      | (with_reducible exact shaft_At.mono _ _ _ _)
      | (with_reducible exact shaft_Nearest.mono _ _ _)
      | (with_reducible exact tipstafflaw07_ShaftKnown.mono _)
      | (with_reducible exact tipstafflaw07_made.mono _ _)
      | (with_reducible exact LeO.refl _)
      | (with_reducible exact LeO.none _)
      | (with_reducible refine LeO.ite ?_ ?_)
      | (with_reducible refine LeO.bind ?_ (fun _ => ?_))
      | exact ih0 _ _ _ _ _
      | exact ih1 _ _ _ _ _ _
      | exact ih2 _ _ _ _ _ _ _
      | exact shaft_At.mono _ _ _ _
      | exact shaft_Nearest.mono _ _ _
      | exact tipstafflaw07_ShaftKnown.mono _
      | exact tipstafflaw07_made.mono _ _
      | exact LeO.none _
      | refine LeO.ite ?_ ?_
      | refine LeO.bind ?_ (fun _ => ?_)
theorem tipstafflaw07_ShaftNear.mono : ∀ a0 a1 a2 k, LeO (tipstafflaw07_ShaftNear.f k a0 a1 a2) (tipstafflaw07_ShaftNear.f (k + 1) a0 a1 a2) := by
  intro a0 a1 a2 k
  obtain ⟨ih0, ih1, ih2⟩ := tipstafflaw07_ShaftNear.mono_l k
  unfold tipstafflaw07_ShaftNear.f
  repeat' first
      | (with_reducible exact ih0 _ _ _ _ _)
      | (with_reducible exact ih1 _ _ _ _ _ _)
      | (with_reducible exact ih2 _ _ _ _ _ _ _)
      | (with_reducible exact shaft_At.mono _ _ _ _)
      | (with_reducible exact shaft_Nearest.mono _ _ _)
      | (with_reducible exact tipstafflaw07_ShaftKnown.mono _)
      | (with_reducible exact tipstafflaw07_made.mono _ _)
      | (with_reducible exact LeO.refl _)
      | (with_reducible exact LeO.none _)
      | (with_reducible refine LeO.ite ?_ ?_)
      | (with_reducible refine LeO.bind ?_ (fun _ => ?_))
      | exact ih0 _ _ _ _ _
      | exact ih1 _ _ _ _ _ _
      | exact ih2 _ _ _ _ _ _ _
      | exact shaft_At.mono _ _ _ _
      | exact shaft_Nearest.mono _ _ _
      | exact tipstafflaw07_ShaftKnown.mono _
      | exact tipstafflaw07_made.mono _ _
      | exact LeO.none _
      | refine LeO.ite ?_ ?_
      | refine LeO.bind ?_ (fun _ => ?_)
set_option maxHeartbeats 8000000 in
set_option maxRecDepth 100000 in
theorem tipstafflaw07_ShaftNear.calls (k : Nat) (A0 : Option Addr) (c0 : Nat) (l0 : List Int) (a1 : Int) (a2 : Int) (r : Bool) (w : World) (hr0 : Kd.C (Kd.int .i64) w A0 l0.length l0) (hc0 : l0.length ≤ c0) (h : tipstafflaw07_ShaftNear.f k l0 a1 a2 = some r) :
    Calls Try.prog 7 #[.slice A0 l0.length c0, .int .i64 a1, .int .i64 a2] w fun e w' => e = .returned (.bool r) ∧ Below w.heap.size w w' := by
  have HR0 := Aside0.mk hr0
  have HC0 := Aside0.mk hc0
  clear hr0 hc0
  have HB := Aside0.mk (Below.refl w.heap.size w)
  have H : ((tipstafflaw07_ShaftKnown.f k).bind fun t439 => (if t439 = true then ((tipstafflaw07_made.f k l0).bind fun t440 => ((shaft_Positions.f t440).bind fun bt443 => (if bt443.2 = 0 then (if (bt443.1.length : Int) = (wrap64 ((t440.length : Int) + 1)) then (if 0 ≤ (t440.length : Int) then (if (t440.length : Int) < (bt443.1.length : Int) then (tipstafflaw07_ShaftNear.j0 k a1 a2 t440 bt443.1 (decide ((rd bt443.1 (t440.length : Int)) < 1))) else (none)) else (none)) else (tipstafflaw07_ShaftNear.j0 k a1 a2 t440 bt443.1 true)) else (tipstafflaw07_ShaftNear.j0 k a1 a2 t440 bt443.1 true)))) else (none))) = some r := h
  clear h
  replace H := Option.bind_eq_some_iff.mp H
  obtain ⟨t439, A40, H⟩ := H
  replace H : (if t439 = true then ((tipstafflaw07_made.f k l0).bind fun t440 => ((shaft_Positions.f t440).bind fun bt443 => (if bt443.2 = 0 then (if (bt443.1.length : Int) = (wrap64 ((t440.length : Int) + 1)) then (if 0 ≤ (t440.length : Int) then (if (t440.length : Int) < (bt443.1.length : Int) then (tipstafflaw07_ShaftNear.j0 k a1 a2 t440 bt443.1 (decide ((rd bt443.1 (t440.length : Int)) < 1))) else (none)) else (none)) else (tipstafflaw07_ShaftNear.j0 k a1 a2 t440 bt443.1 true)) else (tipstafflaw07_ShaftNear.j0 k a1 a2 t440 bt443.1 true)))) else (none)) = some r := H
  have A4 := Aside0.mk A40
  clear A40
  by_cases c5 : t439 = true
  · subst c5
    have H1 : ((tipstafflaw07_made.f k l0).bind fun t440 => ((shaft_Positions.f t440).bind fun bt443 => (if bt443.2 = 0 then (if (bt443.1.length : Int) = (wrap64 ((t440.length : Int) + 1)) then (if 0 ≤ (t440.length : Int) then (if (t440.length : Int) < (bt443.1.length : Int) then (tipstafflaw07_ShaftNear.j0 k a1 a2 t440 bt443.1 (decide ((rd bt443.1 (t440.length : Int)) < 1))) else (none)) else (none)) else (tipstafflaw07_ShaftNear.j0 k a1 a2 t440 bt443.1 true)) else (tipstafflaw07_ShaftNear.j0 k a1 a2 t440 bt443.1 true)))) = some r := by rw [if_pos rfl] at H; exact H
    clear H
    have H := H1
    clear H1
    replace H := Option.bind_eq_some_iff.mp H
    obtain ⟨t440, A60, H⟩ := H
    replace H : ((shaft_Positions.f t440).bind fun bt443 => (if bt443.2 = 0 then (if (bt443.1.length : Int) = (wrap64 ((t440.length : Int) + 1)) then (if 0 ≤ (t440.length : Int) then (if (t440.length : Int) < (bt443.1.length : Int) then (tipstafflaw07_ShaftNear.j0 k a1 a2 t440 bt443.1 (decide ((rd bt443.1 (t440.length : Int)) < 1))) else (none)) else (none)) else (tipstafflaw07_ShaftNear.j0 k a1 a2 t440 bt443.1 true)) else (tipstafflaw07_ShaftNear.j0 k a1 a2 t440 bt443.1 true))) = some r := H
    have A6 := Aside0.mk A60
    clear A60
    replace H := Option.bind_eq_some_iff.mp H
    obtain ⟨⟨t443, t444⟩, A70, H⟩ := H
    replace H : (if t444 = 0 then (if (t443.length : Int) = (wrap64 ((t440.length : Int) + 1)) then (if 0 ≤ (t440.length : Int) then (if (t440.length : Int) < (t443.length : Int) then (tipstafflaw07_ShaftNear.j0 k a1 a2 t440 t443 (decide ((rd t443 (t440.length : Int)) < 1))) else (none)) else (none)) else (tipstafflaw07_ShaftNear.j0 k a1 a2 t440 t443 true)) else (tipstafflaw07_ShaftNear.j0 k a1 a2 t440 t443 true)) = some r := H
    have A7 := Aside0.mk A70
    clear A70
    have HC8 := Aside0.mk H
    clear H
    go_enter Try.func7, Try.ntmps7
    go_upto_region 4 with (first | (go_at_call 5; (with_reducible refine (tipstafflaw07_ShaftKnown.calls k  true _ A4.out).mono ?_); rintro e w9 ⟨rfl, hb⟩; have n0_ := Aside0.mk (below_step (by repeat (first | (with_reducible first | exact HB.out | apply below_alloc | apply pw_below_drewN | apply below_drew1) | exact HB.out)) hb); clear HB; have HB := n0_; clear n0_; (try clear hb); (try clear hb2); (try clear hk); (try clear hi)) | (go_at_call 30; (with_reducible refine (tipstafflaw07_made.calls k _ _ l0 t440 _ ?side1 ?side2 A6.out).mono ?_); (case side1 => repeat (first | exact (Kd.C_below HR0.out HB.out) | (with_reducible refine Kd.C_alloc ?_ _) | (with_reducible refine Kd.C_drewN ?_ _) | (with_reducible refine Kd.C_drew ?_))); (case side2 => exact HC0.out); rintro e w10 ⟨v441, rfl, ho0, hb⟩; have n0_ := Aside0.mk (Kd.R_lower ho0 (below_size (by repeat (first | (with_reducible first | exact HB.out | apply below_alloc | apply pw_below_drewN | apply below_drew1) | exact HB.out)))); have n1_ := Aside0.mk (below_step (by repeat (first | (with_reducible first | exact HB.out | apply below_alloc | apply pw_below_drewN | apply below_drew1) | exact HB.out)) hb); clear HB; have HO442 := n0_; have HB := n1_; clear n0_ n1_; (try clear hb); (try clear hb2); (try clear hk); (try clear hi); (try clear ho0); obtain ⟨Ao11, co11, eo11⟩ := Kd.R_slice HO442.out; subst eo11) | (go_at_call 13; (with_reducible refine (shaft_Positions.calls _ _ t440 t443 t444 _ ?side1 ?side2 A7.out).mono ?_); (case side1 => repeat (first | exact (Kd.R_reads' HO442.out).2.2 | (with_reducible refine Kd.C_alloc ?_ _) | (with_reducible refine Kd.C_drewN ?_ _) | (with_reducible refine Kd.C_drew ?_))); (case side2 => exact (Kd.R_reads' HO442.out).2.1); rintro e w12 ⟨v445, rfl, ho0, hb⟩; have n0_ := Aside0.mk (Kd.R_elder' (by (with_reducible repeat (first | apply Kd.R_alloc | apply Kd.R_drewN | apply Kd.R_drew)); exact HO442.out) (Kd.R_base ho0) hb); have n1_ := Aside0.mk (Kd.R_lower (Kd.R_new' ho0 (Kd.R_lt (by (with_reducible repeat (first | apply Kd.R_alloc | apply Kd.R_drewN | apply Kd.R_drew)); exact HO442.out))) (below_size (by repeat (first | (with_reducible first | exact HB.out | apply below_alloc | apply pw_below_drewN | apply below_drew1) | exact HB.out)))); have n2_ := Aside0.mk (below_step (by repeat (first | (with_reducible first | exact HB.out | apply below_alloc | apply pw_below_drewN | apply below_drew1) | exact HB.out)) hb); clear HO442; clear HB; have HO442 := n0_; have HO446 := n1_; have HB := n2_; clear n0_ n1_ n2_; (try clear hb); (try clear hb2); (try clear hk); (try clear hi); (try clear ho0)))
    repeat (go_quiet (first | (go_at_call 5; (with_reducible refine (tipstafflaw07_ShaftKnown.calls k  true _ A4.out).mono ?_); rintro e w9 ⟨rfl, hb⟩; have n0_ := Aside0.mk (below_step (by repeat (first | (with_reducible first | exact HB.out | apply below_alloc | apply pw_below_drewN | apply below_drew1) | exact HB.out)) hb); clear HB; have HB := n0_; clear n0_; (try clear hb); (try clear hb2); (try clear hk); (try clear hi)) | (go_at_call 30; (with_reducible refine (tipstafflaw07_made.calls k _ _ l0 t440 _ ?side1 ?side2 A6.out).mono ?_); (case side1 => repeat (first | exact (Kd.C_below HR0.out HB.out) | (with_reducible refine Kd.C_alloc ?_ _) | (with_reducible refine Kd.C_drewN ?_ _) | (with_reducible refine Kd.C_drew ?_))); (case side2 => exact HC0.out); rintro e w10 ⟨v441, rfl, ho0, hb⟩; have n0_ := Aside0.mk (Kd.R_lower ho0 (below_size (by repeat (first | (with_reducible first | exact HB.out | apply below_alloc | apply pw_below_drewN | apply below_drew1) | exact HB.out)))); have n1_ := Aside0.mk (below_step (by repeat (first | (with_reducible first | exact HB.out | apply below_alloc | apply pw_below_drewN | apply below_drew1) | exact HB.out)) hb); clear HB; have HO442 := n0_; have HB := n1_; clear n0_ n1_; (try clear hb); (try clear hb2); (try clear hk); (try clear hi); (try clear ho0); obtain ⟨Ao11, co11, eo11⟩ := Kd.R_slice HO442.out; subst eo11) | (go_at_call 13; (with_reducible refine (shaft_Positions.calls _ _ t440 t443 t444 _ ?side1 ?side2 A7.out).mono ?_); (case side1 => repeat (first | exact (Kd.R_reads' HO442.out).2.2 | (with_reducible refine Kd.C_alloc ?_ _) | (with_reducible refine Kd.C_drewN ?_ _) | (with_reducible refine Kd.C_drew ?_))); (case side2 => exact (Kd.R_reads' HO442.out).2.1); rintro e w12 ⟨v445, rfl, ho0, hb⟩; have n0_ := Aside0.mk (Kd.R_elder' (by (with_reducible repeat (first | apply Kd.R_alloc | apply Kd.R_drewN | apply Kd.R_drew)); exact HO442.out) (Kd.R_base ho0) hb); have n1_ := Aside0.mk (Kd.R_lower (Kd.R_new' ho0 (Kd.R_lt (by (with_reducible repeat (first | apply Kd.R_alloc | apply Kd.R_drewN | apply Kd.R_drew)); exact HO442.out))) (below_size (by repeat (first | (with_reducible first | exact HB.out | apply below_alloc | apply pw_below_drewN | apply below_drew1) | exact HB.out)))); have n2_ := Aside0.mk (below_step (by repeat (first | (with_reducible first | exact HB.out | apply below_alloc | apply pw_below_drewN | apply below_drew1) | exact HB.out)) hb); clear HO442; clear HB; have HO442 := n0_; have HO446 := n1_; have HB := n2_; clear n0_ n1_ n2_; (try clear hb); (try clear hb2); (try clear hk); (try clear hi); (try clear ho0))); go_upto_region 4 with (first | (go_at_call 5; (with_reducible refine (tipstafflaw07_ShaftKnown.calls k  true _ A4.out).mono ?_); rintro e w9 ⟨rfl, hb⟩; have n0_ := Aside0.mk (below_step (by repeat (first | (with_reducible first | exact HB.out | apply below_alloc | apply pw_below_drewN | apply below_drew1) | exact HB.out)) hb); clear HB; have HB := n0_; clear n0_; (try clear hb); (try clear hb2); (try clear hk); (try clear hi)) | (go_at_call 30; (with_reducible refine (tipstafflaw07_made.calls k _ _ l0 t440 _ ?side1 ?side2 A6.out).mono ?_); (case side1 => repeat (first | exact (Kd.C_below HR0.out HB.out) | (with_reducible refine Kd.C_alloc ?_ _) | (with_reducible refine Kd.C_drewN ?_ _) | (with_reducible refine Kd.C_drew ?_))); (case side2 => exact HC0.out); rintro e w10 ⟨v441, rfl, ho0, hb⟩; have n0_ := Aside0.mk (Kd.R_lower ho0 (below_size (by repeat (first | (with_reducible first | exact HB.out | apply below_alloc | apply pw_below_drewN | apply below_drew1) | exact HB.out)))); have n1_ := Aside0.mk (below_step (by repeat (first | (with_reducible first | exact HB.out | apply below_alloc | apply pw_below_drewN | apply below_drew1) | exact HB.out)) hb); clear HB; have HO442 := n0_; have HB := n1_; clear n0_ n1_; (try clear hb); (try clear hb2); (try clear hk); (try clear hi); (try clear ho0); obtain ⟨Ao11, co11, eo11⟩ := Kd.R_slice HO442.out; subst eo11) | (go_at_call 13; (with_reducible refine (shaft_Positions.calls _ _ t440 t443 t444 _ ?side1 ?side2 A7.out).mono ?_); (case side1 => repeat (first | exact (Kd.R_reads' HO442.out).2.2 | (with_reducible refine Kd.C_alloc ?_ _) | (with_reducible refine Kd.C_drewN ?_ _) | (with_reducible refine Kd.C_drew ?_))); (case side2 => exact (Kd.R_reads' HO442.out).2.1); rintro e w12 ⟨v445, rfl, ho0, hb⟩; have n0_ := Aside0.mk (Kd.R_elder' (by (with_reducible repeat (first | apply Kd.R_alloc | apply Kd.R_drewN | apply Kd.R_drew)); exact HO442.out) (Kd.R_base ho0) hb); have n1_ := Aside0.mk (Kd.R_lower (Kd.R_new' ho0 (Kd.R_lt (by (with_reducible repeat (first | apply Kd.R_alloc | apply Kd.R_drewN | apply Kd.R_drew)); exact HO442.out))) (below_size (by repeat (first | (with_reducible first | exact HB.out | apply below_alloc | apply pw_below_drewN | apply below_drew1) | exact HB.out)))); have n2_ := Aside0.mk (below_step (by repeat (first | (with_reducible first | exact HB.out | apply below_alloc | apply pw_below_drewN | apply below_drew1) | exact HB.out)) hb); clear HO442; clear HB; have HO442 := n0_; have HO446 := n1_; have HB := n2_; clear n0_ n1_ n2_; (try clear hb); (try clear hb2); (try clear hk); (try clear hi); (try clear ho0))))
    (try simp only [Act.put, List.setIfInBounds_toArray, List.set_cons_zero, List.set_cons_succ])
    go_cut [48] (fun v48 wc => ∃ (kq : Nat) (x48_7 : Bool), v48 = .bool x48_7 ∧ Aside0 (tipstafflaw07_ShaftNear.j0 kq a1 a2 t440 t443 x48_7 = some r) ∧ Aside0 (kq ≤ k) ∧ Aside0 (Kd.R (Kd.int .i64) 3 wc w.heap.size (fun k_ => some k_ ≠ (v445 : Value).ownBlock) (.slice Ao11 t440.length co11) t440) ∧ Aside0 (Kd.R (Kd.int .i64) 3 wc w.heap.size (fun k_ => some k_ ≠ ((.slice Ao11 t440.length co11) : Value).ownBlock) v445 t443) ∧ Aside0 (Below w.heap.size w wc))
    case first =>
      have H := HC8.out
      clear HC8
      by_cases c13 : t444 = 0
      · rw [if_pos c13] at H
        have c13b0 : (t444 == 0) = true := beq_iff_eq.mpr c13
        have c13b1 : (t444 != 0) = false := bne_eq_false_iff_eq.mpr c13
        clear c13
        (first | rw [c13b0] | (simp only [i64_w, i32_w]; rw [c13b0]) | skip)
        by_cases c14 : (t443.length : Int) = (wrap64 ((t440.length : Int) + 1))
        · rw [if_pos c14] at H
          have c14b0 : ((t443.length : Int) == (wrap64 ((t440.length : Int) + 1))) = true := beq_iff_eq.mpr c14
          have c14b1 : ((t443.length : Int) != (wrap64 ((t440.length : Int) + 1))) = false := bne_eq_false_iff_eq.mpr c14
          clear c14
          by_cases c15 : 0 ≤ (t440.length : Int)
          · rw [if_pos c15] at H
            have c15b0 : decide (0 ≤ (t440.length : Int)) = true := decide_eq_true c15
            have c15b1 : decide (0 ≤ t440.length) = true := decide_eq_true (by omega)
            clear c15
            by_cases c16 : (t440.length : Int) < (t443.length : Int)
            · rw [if_pos c16] at H
              have c16b0 : decide ((t440.length : Int) < (t443.length : Int)) = true := decide_eq_true c16
              have c16b1 : decide (t440.length < t443.length) = true := decide_eq_true (Int.ofNat_lt.mp c16)
              clear c16
              have H' := Aside0.mk H
              clear H
              obtain ⟨Ao17, co17, eo17⟩ := Kd.R_slice HO446.out
              subst eo17
              have p447 : 0 ≤ ((t440.length : Int) : Int) := of_decide_eq_true (by first | (with_reducible assumption) | assumption)
              have q447 : (t440.length : Int) < (t443.length : Int) := of_decide_eq_true (by first | (with_reducible assumption) | assumption)
              obtain ⟨ad447, e447, hx447_0⟩ := Kd.at_int (Kd.R_reads' HO446.out).2.2 (t440.length : Int) p447 q447
              cases e447
              (try simp only [Go.IntWalk.toNatUp] at hx447_0)
              replace p447 := eq_true p447
              replace q447 := eq_true q447
              go_wp2
              repeat (go_quiet (fail); try go_wp2)
              go_meet
              case rel => exact ⟨_, (decide ((rd t443 (t440.length : Int)) < 1)), (by first | rfl | (simp; done) | (simp [*]; done)), H', ⟨by first | omega | exact Nat.le_refl _⟩, ⟨by (with_reducible repeat (first | apply Kd.R_alloc | apply Kd.R_drewN | apply Kd.R_drew)); exact Kd.R_mono HO442.out (fun _ hk => hk.2)⟩, ⟨by (with_reducible repeat (first | apply Kd.R_alloc | apply Kd.R_drewN | apply Kd.R_drew)); exact Kd.R_mono HO446.out (fun _ hk => hk.2)⟩, ⟨by repeat (first | (with_reducible first | exact HB.out | apply below_alloc | apply pw_below_drewN | apply below_drew1) | exact HB.out)⟩⟩
            · rw [if_neg c16] at H
              exact absurd H (by simp)
          · rw [if_neg c15] at H
            exact absurd H (by simp)
        · rw [if_neg c14] at H
          have c14b0 : ((t443.length : Int) == (wrap64 ((t440.length : Int) + 1))) = false := beq_eq_false_iff_ne.mpr c14
          have c14b1 : ((t443.length : Int) != (wrap64 ((t440.length : Int) + 1))) = true := bne_iff_ne.mpr c14
          have H' := Aside0.mk H
          clear H
          obtain ⟨Ao18, co18, eo18⟩ := Kd.R_slice HO446.out
          subst eo18
          go_wp2
          repeat (go_quiet (fail); try go_wp2)
          go_meet
          case rel => exact ⟨_, (true), (by first | rfl | (simp; done) | (simp [*]; done)), H', ⟨by first | omega | exact Nat.le_refl _⟩, ⟨by (with_reducible repeat (first | apply Kd.R_alloc | apply Kd.R_drewN | apply Kd.R_drew)); exact Kd.R_mono HO442.out (fun _ hk => hk.2)⟩, ⟨by (with_reducible repeat (first | apply Kd.R_alloc | apply Kd.R_drewN | apply Kd.R_drew)); exact Kd.R_mono HO446.out (fun _ hk => hk.2)⟩, ⟨by repeat (first | (with_reducible first | exact HB.out | apply below_alloc | apply pw_below_drewN | apply below_drew1) | exact HB.out)⟩⟩
      · rw [if_neg c13] at H
        have c13b0 : (t444 == 0) = false := beq_eq_false_iff_ne.mpr c13
        have c13b1 : (t444 != 0) = true := bne_iff_ne.mpr c13
        (first | rw [c13b0] | (simp only [i64_w, i32_w]; rw [c13b0]) | skip)
        have H' := Aside0.mk H
        clear H
        go_wp2
        repeat (go_quiet (fail); try go_wp2)
        go_meet
        case rel => exact ⟨_, (true), (by first | rfl | (simp; done) | (simp [*]; done)), H', ⟨by first | omega | exact Nat.le_refl _⟩, ⟨by (with_reducible repeat (first | apply Kd.R_alloc | apply Kd.R_drewN | apply Kd.R_drew)); exact Kd.R_mono HO442.out (fun _ hk => hk.2)⟩, ⟨by (with_reducible repeat (first | apply Kd.R_alloc | apply Kd.R_drewN | apply Kd.R_drew)); exact Kd.R_mono HO446.out (fun _ hk => hk.2)⟩, ⟨by repeat (first | (with_reducible first | exact HB.out | apply below_alloc | apply pw_below_drewN | apply below_drew1) | exact HB.out)⟩⟩
    case rest =>
      clear HC8
      try clear c1
      try clear p2
      try clear p4
      try clear q4
      try clear hx4
      try clear c5
      try clear p6
      try clear c7
      try clear c13
      try clear c13b0
      try clear c13b1
      try clear c14
      try clear c14b0
      try clear c14b1
      try clear c15
      try clear c15b0
      try clear c15b1
      try clear c16
      try clear c16b0
      try clear c16b1
      try clear hx447_0
      try clear p447
      try clear q447
      obtain ⟨kq, x48_7, rfl, HA, HJ7, HO_8, HO_9, HB⟩ := hcut
      cases kq with
      | zero => exact absurd HA.out (by simp [tipstafflaw07_ShaftNear.j0])
      | succ kj7 =>
        have H := HA.out
        clear HA
        simp only [tipstafflaw07_ShaftNear.j0] at H
        by_cases c19 : x48_7 = true
        · subst c19
          have H1 : (none) = some r := by rw [if_pos rfl] at H; exact H
          clear H
          have H := H1
          clear H1
          exact absurd H (by simp)
        · replace c19 := Bool.eq_false_iff.mpr c19
          subst c19
          have H1 : (if 0 ≤ (t440.length : Int) then (if (t440.length : Int) < (t443.length : Int) then ((tipstaffkit_Mod.f a1 (wrap64 ((rd t443 (t440.length : Int)) + 1))).bind fun t449 => ((tipstaffkit_Mod.f a2 21).bind fun t450 => ((shaft_Nearest.f kj7 t440 t449).bind fun bt451 => (if bt451.2 = 0 then (if bt451.1 < 0 then (tipstafflaw07_ShaftNear.j1 kj7 t450 t440 t443 t449 bt451.1 true) else (tipstafflaw07_ShaftNear.j1 kj7 t450 t440 t443 t449 bt451.1 (decide (bt451.1 ≥ (t443.length : Int))))) else (tipstafflaw07_ShaftNear.j1 kj7 t450 t440 t443 t449 bt451.1 true))))) else (none)) else (none)) = some r := by rw [if_neg (show ¬ (false = true) by decide)] at H; exact H
          clear H
          have H := H1
          clear H1
          by_cases c20 : 0 ≤ (t440.length : Int)
          · rw [if_pos c20] at H
            have c20b0 : decide (0 ≤ (t440.length : Int)) = true := decide_eq_true c20
            have c20b1 : decide (0 ≤ t440.length) = true := decide_eq_true (by omega)
            clear c20
            by_cases c21 : (t440.length : Int) < (t443.length : Int)
            · rw [if_pos c21] at H
              have c21b0 : decide ((t440.length : Int) < (t443.length : Int)) = true := decide_eq_true c21
              have c21b1 : decide (t440.length < t443.length) = true := decide_eq_true (Int.ofNat_lt.mp c21)
              clear c21
              replace H := Option.bind_eq_some_iff.mp H
              obtain ⟨t449, A220, H⟩ := H
              replace H : ((tipstaffkit_Mod.f a2 21).bind fun t450 => ((shaft_Nearest.f kj7 t440 t449).bind fun bt451 => (if bt451.2 = 0 then (if bt451.1 < 0 then (tipstafflaw07_ShaftNear.j1 kj7 t450 t440 t443 t449 bt451.1 true) else (tipstafflaw07_ShaftNear.j1 kj7 t450 t440 t443 t449 bt451.1 (decide (bt451.1 ≥ (t443.length : Int))))) else (tipstafflaw07_ShaftNear.j1 kj7 t450 t440 t443 t449 bt451.1 true)))) = some r := H
              have A22 := Aside0.mk A220
              clear A220
              replace H := Option.bind_eq_some_iff.mp H
              obtain ⟨t450, A230, H⟩ := H
              replace H : ((shaft_Nearest.f kj7 t440 t449).bind fun bt451 => (if bt451.2 = 0 then (if bt451.1 < 0 then (tipstafflaw07_ShaftNear.j1 kj7 t450 t440 t443 t449 bt451.1 true) else (tipstafflaw07_ShaftNear.j1 kj7 t450 t440 t443 t449 bt451.1 (decide (bt451.1 ≥ (t443.length : Int))))) else (tipstafflaw07_ShaftNear.j1 kj7 t450 t440 t443 t449 bt451.1 true))) = some r := H
              have A23 := Aside0.mk A230
              clear A230
              replace H := Option.bind_eq_some_iff.mp H
              obtain ⟨⟨t451, t452⟩, A240, H⟩ := H
              replace H : (if t452 = 0 then (if t451 < 0 then (tipstafflaw07_ShaftNear.j1 kj7 t450 t440 t443 t449 t451 true) else (tipstafflaw07_ShaftNear.j1 kj7 t450 t440 t443 t449 t451 (decide (t451 ≥ (t443.length : Int))))) else (tipstafflaw07_ShaftNear.j1 kj7 t450 t440 t443 t449 t451 true)) = some r := H
              have A24 := Aside0.mk A240
              clear A240
              have HC25 := Aside0.mk H
              clear H
              obtain ⟨Ao26, co26, eo26⟩ := Kd.R_slice HO_9.out
              subst eo26
              have p448 : 0 ≤ ((t440.length : Int) : Int) := of_decide_eq_true (by first | (with_reducible assumption) | assumption)
              have q448 : (t440.length : Int) < (t443.length : Int) := of_decide_eq_true (by first | (with_reducible assumption) | assumption)
              obtain ⟨ad448, e448, hx448_0⟩ := Kd.at_int (Kd.R_reads' HO_9.out).2.2 (t440.length : Int) p448 q448
              cases e448
              (try simp only [Go.IntWalk.toNatUp] at hx448_0)
              replace p448 := eq_true p448
              replace q448 := eq_true q448
              go_upto_region 8 with (first | (go_at_call 31; (with_reducible refine (tipstaffkit_Mod.calls a1 (wrap64 ((rd t443 (t440.length : Int)) + 1)) t449 _ A22.out).mono ?_); rintro e w' ⟨rfl, ⟨nd, rfl⟩⟩; (try first | exact ⟨rfl, _, World.drewN_drewN _ _ _⟩ | exact ⟨rfl, _, Eq.trans (World.drewN_drewN _ _ _) (congrArg (World.drewN _) (Nat.add_assoc _ _ _))⟩)) | (go_at_call 31; (with_reducible refine (tipstaffkit_Mod.calls a2 21 t450 _ A23.out).mono ?_); rintro e w' ⟨rfl, ⟨nd, rfl⟩⟩; (try first | exact ⟨rfl, _, World.drewN_drewN _ _ _⟩ | exact ⟨rfl, _, Eq.trans (World.drewN_drewN _ _ _) (congrArg (World.drewN _) (Nat.add_assoc _ _ _))⟩)) | (go_at_call 20; (with_reducible refine (shaft_Nearest.calls kj7 _ _ t440 t449 t451 t452 _ ?side1 ?side2 A24.out).mono ?_); (case side1 => repeat (first | exact (Kd.R_reads' HO_8.out).2.2 | (with_reducible refine Kd.C_alloc ?_ _) | (with_reducible refine Kd.C_drewN ?_ _) | (with_reducible refine Kd.C_drew ?_))); (case side2 => exact (Kd.R_reads' HO_8.out).2.1); rintro e w27 ⟨rfl, hb⟩; have n0_ := Aside0.mk (Kd.R_below (by (with_reducible repeat (first | apply Kd.R_alloc | apply Kd.R_drewN | apply Kd.R_drew)); exact HO_8.out) hb); have n1_ := Aside0.mk (Kd.R_below (by (with_reducible repeat (first | apply Kd.R_alloc | apply Kd.R_drewN | apply Kd.R_drew)); exact HO_9.out) hb); have n2_ := Aside0.mk (below_step (by repeat (first | (with_reducible first | exact HB.out | apply below_alloc | apply pw_below_drewN | apply below_drew1) | exact HB.out)) hb); clear HO_8; clear HO_9; clear HB; have HO_8 := n0_; have HO_9 := n1_; have HB := n2_; clear n0_ n1_ n2_; (try clear hb); (try clear hb2); (try clear hk); (try clear hi)))
              repeat (go_quiet (first | (go_at_call 31; (with_reducible refine (tipstaffkit_Mod.calls a1 (wrap64 ((rd t443 (t440.length : Int)) + 1)) t449 _ A22.out).mono ?_); rintro e w' ⟨rfl, ⟨nd, rfl⟩⟩; (try first | exact ⟨rfl, _, World.drewN_drewN _ _ _⟩ | exact ⟨rfl, _, Eq.trans (World.drewN_drewN _ _ _) (congrArg (World.drewN _) (Nat.add_assoc _ _ _))⟩)) | (go_at_call 31; (with_reducible refine (tipstaffkit_Mod.calls a2 21 t450 _ A23.out).mono ?_); rintro e w' ⟨rfl, ⟨nd, rfl⟩⟩; (try first | exact ⟨rfl, _, World.drewN_drewN _ _ _⟩ | exact ⟨rfl, _, Eq.trans (World.drewN_drewN _ _ _) (congrArg (World.drewN _) (Nat.add_assoc _ _ _))⟩)) | (go_at_call 20; (with_reducible refine (shaft_Nearest.calls kj7 _ _ t440 t449 t451 t452 _ ?side1 ?side2 A24.out).mono ?_); (case side1 => repeat (first | exact (Kd.R_reads' HO_8.out).2.2 | (with_reducible refine Kd.C_alloc ?_ _) | (with_reducible refine Kd.C_drewN ?_ _) | (with_reducible refine Kd.C_drew ?_))); (case side2 => exact (Kd.R_reads' HO_8.out).2.1); rintro e w27 ⟨rfl, hb⟩; have n0_ := Aside0.mk (Kd.R_below (by (with_reducible repeat (first | apply Kd.R_alloc | apply Kd.R_drewN | apply Kd.R_drew)); exact HO_8.out) hb); have n1_ := Aside0.mk (Kd.R_below (by (with_reducible repeat (first | apply Kd.R_alloc | apply Kd.R_drewN | apply Kd.R_drew)); exact HO_9.out) hb); have n2_ := Aside0.mk (below_step (by repeat (first | (with_reducible first | exact HB.out | apply below_alloc | apply pw_below_drewN | apply below_drew1) | exact HB.out)) hb); clear HO_8; clear HO_9; clear HB; have HO_8 := n0_; have HO_9 := n1_; have HB := n2_; clear n0_ n1_ n2_; (try clear hb); (try clear hb2); (try clear hk); (try clear hi))); go_upto_region 8 with (first | (go_at_call 31; (with_reducible refine (tipstaffkit_Mod.calls a1 (wrap64 ((rd t443 (t440.length : Int)) + 1)) t449 _ A22.out).mono ?_); rintro e w' ⟨rfl, ⟨nd, rfl⟩⟩; (try first | exact ⟨rfl, _, World.drewN_drewN _ _ _⟩ | exact ⟨rfl, _, Eq.trans (World.drewN_drewN _ _ _) (congrArg (World.drewN _) (Nat.add_assoc _ _ _))⟩)) | (go_at_call 31; (with_reducible refine (tipstaffkit_Mod.calls a2 21 t450 _ A23.out).mono ?_); rintro e w' ⟨rfl, ⟨nd, rfl⟩⟩; (try first | exact ⟨rfl, _, World.drewN_drewN _ _ _⟩ | exact ⟨rfl, _, Eq.trans (World.drewN_drewN _ _ _) (congrArg (World.drewN _) (Nat.add_assoc _ _ _))⟩)) | (go_at_call 20; (with_reducible refine (shaft_Nearest.calls kj7 _ _ t440 t449 t451 t452 _ ?side1 ?side2 A24.out).mono ?_); (case side1 => repeat (first | exact (Kd.R_reads' HO_8.out).2.2 | (with_reducible refine Kd.C_alloc ?_ _) | (with_reducible refine Kd.C_drewN ?_ _) | (with_reducible refine Kd.C_drew ?_))); (case side2 => exact (Kd.R_reads' HO_8.out).2.1); rintro e w27 ⟨rfl, hb⟩; have n0_ := Aside0.mk (Kd.R_below (by (with_reducible repeat (first | apply Kd.R_alloc | apply Kd.R_drewN | apply Kd.R_drew)); exact HO_8.out) hb); have n1_ := Aside0.mk (Kd.R_below (by (with_reducible repeat (first | apply Kd.R_alloc | apply Kd.R_drewN | apply Kd.R_drew)); exact HO_9.out) hb); have n2_ := Aside0.mk (below_step (by repeat (first | (with_reducible first | exact HB.out | apply below_alloc | apply pw_below_drewN | apply below_drew1) | exact HB.out)) hb); clear HO_8; clear HO_9; clear HB; have HO_8 := n0_; have HO_9 := n1_; have HB := n2_; clear n0_ n1_ n2_; (try clear hb); (try clear hb2); (try clear hk); (try clear hi))))
              (try simp only [Act.put, List.setIfInBounds_toArray, List.set_cons_zero, List.set_cons_succ])
              go_cut [76] (fun v76 wc => ∃ (kq : Nat) (x76_24 : Bool), v76 = .bool x76_24 ∧ Aside0 (tipstafflaw07_ShaftNear.j1 kq t450 t440 t443 t449 t451 x76_24 = some r) ∧ Aside0 (kq ≤ kj7) ∧ Aside0 (Kd.R (Kd.int .i64) 3 wc w.heap.size (fun k_ => some k_ ≠ ((.slice (some ad448) t443.length co26) : Value).ownBlock) (.slice Ao11 t440.length co11) t440) ∧ Aside0 (Kd.R (Kd.int .i64) 3 wc w.heap.size (fun k_ => some k_ ≠ ((.slice Ao11 t440.length co11) : Value).ownBlock) (.slice (some ad448) t443.length co26) t443) ∧ Aside0 (Below w.heap.size w wc))
              case first =>
                have H := HC25.out
                clear HC25
                by_cases c28 : t452 = 0
                · rw [if_pos c28] at H
                  have c28b0 : (t452 == 0) = true := beq_iff_eq.mpr c28
                  have c28b1 : (t452 != 0) = false := bne_eq_false_iff_eq.mpr c28
                  clear c28
                  (first | rw [c28b0] | (simp only [i64_w, i32_w]; rw [c28b0]) | skip)
                  by_cases c29 : t451 < 0
                  · rw [if_pos c29] at H
                    have c29b0 : decide (t451 < 0) = true := decide_eq_true c29
                    clear c29
                    have H' := Aside0.mk H
                    clear H
                    go_wp2
                    repeat (go_quiet (fail); try go_wp2)
                    go_meet
                    case rel => exact ⟨_, (true), (by first | rfl | (simp; done) | (simp [*]; done)), H', ⟨by have := HJ7.out; first | omega | exact Nat.le_refl _⟩, ⟨by (with_reducible repeat (first | apply Kd.R_alloc | apply Kd.R_drewN | apply Kd.R_drew)); exact HO_8.out⟩, ⟨by (with_reducible repeat (first | apply Kd.R_alloc | apply Kd.R_drewN | apply Kd.R_drew)); exact HO_9.out⟩, ⟨by repeat (first | (with_reducible first | exact HB.out | apply below_alloc | apply pw_below_drewN | apply below_drew1) | exact HB.out)⟩⟩
                  · rw [if_neg c29] at H
                    have c29b0 : decide (t451 < 0) = false := decide_eq_false c29
                    clear c29
                    have H' := Aside0.mk H
                    clear H
                    go_wp2
                    repeat (go_quiet (fail); try go_wp2)
                    go_meet
                    case rel => exact ⟨_, (decide (t451 ≥ (t443.length : Int))), (by first | rfl | (simp; done) | (simp [*]; done)), H', ⟨by have := HJ7.out; first | omega | exact Nat.le_refl _⟩, ⟨by (with_reducible repeat (first | apply Kd.R_alloc | apply Kd.R_drewN | apply Kd.R_drew)); exact HO_8.out⟩, ⟨by (with_reducible repeat (first | apply Kd.R_alloc | apply Kd.R_drewN | apply Kd.R_drew)); exact HO_9.out⟩, ⟨by repeat (first | (with_reducible first | exact HB.out | apply below_alloc | apply pw_below_drewN | apply below_drew1) | exact HB.out)⟩⟩
                · rw [if_neg c28] at H
                  have c28b0 : (t452 == 0) = false := beq_eq_false_iff_ne.mpr c28
                  have c28b1 : (t452 != 0) = true := bne_iff_ne.mpr c28
                  (first | rw [c28b0] | (simp only [i64_w, i32_w]; rw [c28b0]) | skip)
                  have H' := Aside0.mk H
                  clear H
                  go_wp2
                  repeat (go_quiet (fail); try go_wp2)
                  go_meet
                  case rel => exact ⟨_, (true), (by first | rfl | (simp; done) | (simp [*]; done)), H', ⟨by have := HJ7.out; first | omega | exact Nat.le_refl _⟩, ⟨by (with_reducible repeat (first | apply Kd.R_alloc | apply Kd.R_drewN | apply Kd.R_drew)); exact HO_8.out⟩, ⟨by (with_reducible repeat (first | apply Kd.R_alloc | apply Kd.R_drewN | apply Kd.R_drew)); exact HO_9.out⟩, ⟨by repeat (first | (with_reducible first | exact HB.out | apply below_alloc | apply pw_below_drewN | apply below_drew1) | exact HB.out)⟩⟩
              case rest =>
                clear HC25
                try clear c1
                try clear c2
                try clear p2
                try clear p4
                try clear q4
                try clear hx4
                try clear c5
                try clear p6
                try clear c7
                try clear c13
                try clear c13b0
                try clear c13b1
                try clear c14
                try clear c14b0
                try clear c14b1
                try clear c15
                try clear c15b0
                try clear c15b1
                try clear c16
                try clear c16b0
                try clear c16b1
                try clear c19
                try clear c20
                try clear c20b0
                try clear c20b1
                try clear c21
                try clear c21b0
                try clear c21b1
                try clear c28
                try clear c28b0
                try clear c28b1
                try clear c29
                try clear c29b0
                try clear hx447_0
                try clear hx448_0
                try clear p2
                try clear p4
                try clear p447
                try clear p448
                try clear p6
                try clear q4
                try clear q447
                try clear q448
                obtain ⟨kq, x76_24, rfl, HA, HJ24, HO_8, HO_9, HB⟩ := hcut
                cases kq with
                | zero => exact absurd HA.out (by simp [tipstafflaw07_ShaftNear.j1])
                | succ kj24 =>
                  have H := HA.out
                  clear HA
                  simp only [tipstafflaw07_ShaftNear.j1] at H
                  by_cases c30 : x76_24 = true
                  · subst c30
                    have H1 : (none) = some r := by rw [if_pos rfl] at H; exact H
                    clear H
                    have H := H1
                    clear H1
                    exact absurd H (by simp)
                  · replace c30 := Bool.eq_false_iff.mpr c30
                    subst c30
                    have H1 : (if 0 ≤ t451 then (if t451 < (t443.length : Int) then (tipstafflaw07_ShaftNear.l0 kj24 t450 t440 t443 t449 t451 (wrap64 ((mx (rd t443 t451) t449) - (mn (rd t443 t451) t449))) 0) else (none)) else (none)) = some r := by rw [if_neg (show ¬ (false = true) by decide)] at H; exact H
                    clear H
                    have H := H1
                    clear H1
                    by_cases c31 : 0 ≤ t451
                    · rw [if_pos c31] at H
                      have c31b0 : decide (0 ≤ t451) = true := decide_eq_true c31
                      clear c31
                      by_cases c32 : t451 < (t443.length : Int)
                      · rw [if_pos c32] at H
                        have c32b0 : decide (t451 < (t443.length : Int)) = true := decide_eq_true c32
                        clear c32
                        obtain ⟨ji33, hji33⟩ : ∃ j_ : Int, (mx (rd t443 t451) t449) = j_ := ⟨_, rfl⟩
                        replace H : (tipstafflaw07_ShaftNear.l0 kj24 t450 t440 t443 t449 t451 (wrap64 ((ji33) - (mn (rd t443 t451) t449))) 0) = some r := by first | (rw [hji33] at H; exact H) | (simp only [hji33] at H ⊢; exact H)
                        have hji33_ : (if (rd t443 t451) < t449 then t449 else (rd t443 t451)) = ji33 := hji33
                        obtain ⟨ji34, hji34⟩ : ∃ j_ : Int, (mn (rd t443 t451) t449) = j_ := ⟨_, rfl⟩
                        replace H : (tipstafflaw07_ShaftNear.l0 kj24 t450 t440 t443 t449 t451 (wrap64 ((ji33) - (ji34))) 0) = some r := by first | (rw [hji34] at H; exact H) | (simp only [hji34] at H ⊢; exact H)
                        have hji34_ : (if t449 < (rd t443 t451) then t449 else (rd t443 t451)) = ji34 := hji34
                        have H' := Aside0.mk H
                        clear H
                        have p453 : 0 ≤ (t451 : Int) := of_decide_eq_true (by first | (with_reducible assumption) | assumption)
                        have q453 : t451 < (t443.length : Int) := of_decide_eq_true (by first | (with_reducible assumption) | assumption)
                        obtain ⟨ad453, e453, hx453_0⟩ := Kd.at_int (Kd.R_reads' HO_9.out).2.2 t451 p453 q453
                        obtain rfl : ad448 = ad453 := (by injection e453)
                        replace p453 := eq_true p453
                        replace q453 := eq_true q453
                        have p454 : 0 ≤ (t451 : Int) := of_decide_eq_true (by first | (with_reducible assumption) | assumption)
                        have q454 : t451 < (t443.length : Int) := of_decide_eq_true (by first | (with_reducible assumption) | assumption)
                        obtain ⟨ad454, e454, hx454_0⟩ := Kd.at_int (Kd.R_reads' HO_9.out).2.2 t451 p454 q454
                        obtain rfl : ad448 = ad454 := (by injection e454)
                        replace p454 := eq_true p454
                        replace q454 := eq_true q454
                        go_wp2
                        repeat (go_quiet (fail); try go_wp2)
                        go_loopg [15] kj24 (fun kq v15 w' => ∃ (x15_3 : Int), v15 = .int .i64 x15_3 ∧ Aside0 (tipstafflaw07_ShaftNear.l0 kq t450 t440 t443 t449 t451 (wrap64 ((ji33) - (ji34))) x15_3 = some r) ∧ Aside0 (kq ≤ kj24) ∧ Aside0 (Kd.R (Kd.int .i64) 3 w' w.heap.size (fun k_ => some k_ ≠ ((.slice (some ad448) t443.length co26) : Value).ownBlock) (.slice Ao11 t440.length co11) t440) ∧ Aside0 (Kd.R (Kd.int .i64) 3 w' w.heap.size (fun k_ => some k_ ≠ ((.slice Ao11 t440.length co11) : Value).ownBlock) (.slice (some ad448) t443.length co26) t443) ∧ Aside0 (Below w.heap.size w w'))
                        case atStart => exact ⟨(0), (by first | rfl | (simp; done) | (simp [*]; done)), H', ⟨Nat.le_refl _⟩, ⟨by (with_reducible repeat (first | apply Kd.R_alloc | apply Kd.R_drewN | apply Kd.R_drew)); exact HO_8.out⟩, ⟨by (with_reducible repeat (first | apply Kd.R_alloc | apply Kd.R_drewN | apply Kd.R_drew)); exact HO_9.out⟩, ⟨by repeat (first | (with_reducible first | exact HB.out | apply below_alloc | apply pw_below_drewN | apply below_drew1) | exact HB.out)⟩⟩
                        case round =>
                          clear H'
                          try clear c1
                          try clear c2
                          try clear p2
                          try clear c3
                          try clear p4
                          try clear q4
                          try clear hx4
                          try clear c5
                          try clear p6
                          try clear c7
                          try clear c13
                          try clear c13b0
                          try clear c13b1
                          try clear c14
                          try clear c14b0
                          try clear c14b1
                          try clear c15
                          try clear c15b0
                          try clear c15b1
                          try clear c16
                          try clear c16b0
                          try clear c16b1
                          try clear c19
                          try clear c20
                          try clear c20b0
                          try clear c20b1
                          try clear c21
                          try clear c21b0
                          try clear c21b1
                          try clear c28
                          try clear c28b0
                          try clear c28b1
                          try clear c29
                          try clear c29b0
                          try clear c30
                          try clear c31
                          try clear c31b0
                          try clear c32
                          try clear c32b0
                          try clear hx447_0
                          try clear hx448_0
                          try clear hx453_0
                          try clear hx454_0
                          try clear p2
                          try clear p4
                          try clear p447
                          try clear p448
                          try clear p453
                          try clear p454
                          try clear p6
                          try clear q4
                          try clear q447
                          try clear q448
                          try clear q453
                          try clear q454
                          obtain ⟨x15_3, rfl, HA, HK3, HO_8, HO_9, HB⟩ := hrel
                          cases gk with
                          | zero => exact absurd HA.out (by simp [tipstafflaw07_ShaftNear.l0])
                          | succ k3 =>
                            have H := HA.out
                            clear HA
                            simp only [tipstafflaw07_ShaftNear.l0] at H
                            by_cases c35 : x15_3 < (t443.length : Int)
                            · rw [if_pos c35] at H
                              have c35b0 : decide (x15_3 < (t443.length : Int)) = true := decide_eq_true c35
                              clear c35
                              by_cases c36 : 0 ≤ x15_3
                              · rw [if_pos c36] at H
                                have c36b0 : decide (0 ≤ x15_3) = true := decide_eq_true c36
                                clear c36
                                obtain ⟨ji37, hji37⟩ : ∃ j_ : Int, (mx (rd t443 x15_3) t449) = j_ := ⟨_, rfl⟩
                                replace H : ((shaft_Nearest.f k3 t440 (rd t443 x15_3)).bind fun bt458 => (if (wrap64 ((ji37) - (mn (rd t443 x15_3) t449))) < (wrap64 ((ji33) - (ji34))) then (none) else (if (wrap64 ((ji37) - (mn (rd t443 x15_3) t449))) = (wrap64 ((ji33) - (ji34))) then (if x15_3 < t451 then (none) else (if bt458.2 = 0 then (if bt458.1 = x15_3 then (tipstafflaw07_ShaftNear.l0 k3 t450 t440 t443 t449 t451 (wrap64 ((ji33) - (ji34))) (wrap64 (x15_3 + 1))) else (none)) else (none))) else (if bt458.2 = 0 then (if bt458.1 = x15_3 then (tipstafflaw07_ShaftNear.l0 k3 t450 t440 t443 t449 t451 (wrap64 ((ji33) - (ji34))) (wrap64 (x15_3 + 1))) else (none)) else (none))))) = some r := by first | (rw [hji37] at H; exact H) | (simp only [hji37] at H ⊢; exact H)
                                have hji37_ : (if (rd t443 x15_3) < t449 then t449 else (rd t443 x15_3)) = ji37 := hji37
                                obtain ⟨ji38, hji38⟩ : ∃ j_ : Int, (mn (rd t443 x15_3) t449) = j_ := ⟨_, rfl⟩
                                replace H : ((shaft_Nearest.f k3 t440 (rd t443 x15_3)).bind fun bt458 => (if (wrap64 ((ji37) - (ji38))) < (wrap64 ((ji33) - (ji34))) then (none) else (if (wrap64 ((ji37) - (ji38))) = (wrap64 ((ji33) - (ji34))) then (if x15_3 < t451 then (none) else (if bt458.2 = 0 then (if bt458.1 = x15_3 then (tipstafflaw07_ShaftNear.l0 k3 t450 t440 t443 t449 t451 (wrap64 ((ji33) - (ji34))) (wrap64 (x15_3 + 1))) else (none)) else (none))) else (if bt458.2 = 0 then (if bt458.1 = x15_3 then (tipstafflaw07_ShaftNear.l0 k3 t450 t440 t443 t449 t451 (wrap64 ((ji33) - (ji34))) (wrap64 (x15_3 + 1))) else (none)) else (none))))) = some r := by first | (rw [hji38] at H; exact H) | (simp only [hji38] at H ⊢; exact H)
                                have hji38_ : (if t449 < (rd t443 x15_3) then t449 else (rd t443 x15_3)) = ji38 := hji38
                                replace H := Option.bind_eq_some_iff.mp H
                                obtain ⟨⟨t458, t459⟩, A390, H⟩ := H
                                replace H : (if (wrap64 ((ji37) - (ji38))) < (wrap64 ((ji33) - (ji34))) then (none) else (if (wrap64 ((ji37) - (ji38))) = (wrap64 ((ji33) - (ji34))) then (if x15_3 < t451 then (none) else (if t459 = 0 then (if t458 = x15_3 then (tipstafflaw07_ShaftNear.l0 k3 t450 t440 t443 t449 t451 (wrap64 ((ji33) - (ji34))) (wrap64 (x15_3 + 1))) else (none)) else (none))) else (if t459 = 0 then (if t458 = x15_3 then (tipstafflaw07_ShaftNear.l0 k3 t450 t440 t443 t449 t451 (wrap64 ((ji33) - (ji34))) (wrap64 (x15_3 + 1))) else (none)) else (none)))) = some r := H
                                have A39 := Aside0.mk A390
                                clear A390
                                by_cases c40 : (wrap64 ((ji37) - (ji38))) < (wrap64 ((ji33) - (ji34)))
                                · rw [if_pos c40] at H
                                  exact absurd H (by simp)
                                · rw [if_neg c40] at H
                                  have c40b0 : decide ((wrap64 ((ji37) - (ji38))) < (wrap64 ((ji33) - (ji34)))) = false := decide_eq_false c40
                                  clear c40
                                  by_cases c41 : (wrap64 ((ji37) - (ji38))) = (wrap64 ((ji33) - (ji34)))
                                  · rw [if_pos c41] at H
                                    have c41b0 : ((wrap64 ((ji37) - (ji38))) == (wrap64 ((ji33) - (ji34)))) = true := beq_iff_eq.mpr c41
                                    have c41b1 : ((wrap64 ((ji37) - (ji38))) != (wrap64 ((ji33) - (ji34)))) = false := bne_eq_false_iff_eq.mpr c41
                                    clear c41
                                    by_cases c42 : x15_3 < t451
                                    · rw [if_pos c42] at H
                                      exact absurd H (by simp)
                                    · rw [if_neg c42] at H
                                      have c42b0 : decide (x15_3 < t451) = false := decide_eq_false c42
                                      clear c42
                                      by_cases c43 : t459 = 0
                                      · rw [if_pos c43] at H
                                        have c43b0 : (t459 == 0) = true := beq_iff_eq.mpr c43
                                        have c43b1 : (t459 != 0) = false := bne_eq_false_iff_eq.mpr c43
                                        clear c43
                                        by_cases c44 : t458 = x15_3
                                        · rw [if_pos c44] at H
                                          have c44b0 : (t458 == x15_3) = true := beq_iff_eq.mpr c44
                                          have c44b1 : (t458 != x15_3) = false := bne_eq_false_iff_eq.mpr c44
                                          clear c44
                                          have H' := Aside0.mk H
                                          clear H
                                          have p455 : 0 ≤ (x15_3 : Int) := of_decide_eq_true (by first | (with_reducible assumption) | assumption)
                                          have q455 : x15_3 < (t443.length : Int) := of_decide_eq_true (by first | (with_reducible assumption) | assumption)
                                          obtain ⟨ad455, e455, hx455_0⟩ := Kd.at_int (Kd.R_reads' HO_9.out).2.2 x15_3 p455 q455
                                          obtain rfl : ad448 = ad455 := (by injection e455)
                                          replace p455 := eq_true p455
                                          replace q455 := eq_true q455
                                          have p456 : 0 ≤ (x15_3 : Int) := of_decide_eq_true (by first | (with_reducible assumption) | assumption)
                                          have q456 : x15_3 < (t443.length : Int) := of_decide_eq_true (by first | (with_reducible assumption) | assumption)
                                          obtain ⟨ad456, e456, hx456_0⟩ := Kd.at_int (Kd.R_reads' HO_9.out).2.2 x15_3 p456 q456
                                          obtain rfl : ad448 = ad456 := (by injection e456)
                                          replace p456 := eq_true p456
                                          replace q456 := eq_true q456
                                          have p457 : 0 ≤ (x15_3 : Int) := of_decide_eq_true (by first | (with_reducible assumption) | assumption)
                                          have q457 : x15_3 < (t443.length : Int) := of_decide_eq_true (by first | (with_reducible assumption) | assumption)
                                          obtain ⟨ad457, e457, hx457_0⟩ := Kd.at_int (Kd.R_reads' HO_9.out).2.2 x15_3 p457 q457
                                          obtain rfl : ad448 = ad457 := (by injection e457)
                                          replace p457 := eq_true p457
                                          replace q457 := eq_true q457
                                          go_wp2_with (first | (go_at_call 20; (with_reducible refine (shaft_Nearest.calls k3 _ _ t440 (rd t443 x15_3) t458 t459 _ ?side1 ?side2 A39.out).mono ?_); (case side1 => repeat (first | exact (Kd.R_reads' HO_8.out).2.2 | (with_reducible refine Kd.C_alloc ?_ _) | (with_reducible refine Kd.C_drewN ?_ _) | (with_reducible refine Kd.C_drew ?_))); (case side2 => exact (Kd.R_reads' HO_8.out).2.1); rintro e w45 ⟨rfl, hb⟩; have n0_ := Aside0.mk (Kd.R_below (by (with_reducible repeat (first | apply Kd.R_alloc | apply Kd.R_drewN | apply Kd.R_drew)); exact HO_8.out) hb); have n1_ := Aside0.mk (Kd.R_below (by (with_reducible repeat (first | apply Kd.R_alloc | apply Kd.R_drewN | apply Kd.R_drew)); exact HO_9.out) hb); have n2_ := Aside0.mk (below_step (by repeat (first | (with_reducible first | exact HB.out | apply below_alloc | apply pw_below_drewN | apply below_drew1) | exact HB.out)) hb); clear HO_8; clear HO_9; clear HB; have HO_8 := n0_; have HO_9 := n1_; have HB := n2_; clear n0_ n1_ n2_; (try clear hb); (try clear hb2); (try clear hk); (try clear hi)))
                                          repeat (go_quiet (first | (go_at_call 20; (with_reducible refine (shaft_Nearest.calls k3 _ _ t440 (rd t443 x15_3) t458 t459 _ ?side1 ?side2 A39.out).mono ?_); (case side1 => repeat (first | exact (Kd.R_reads' HO_8.out).2.2 | (with_reducible refine Kd.C_alloc ?_ _) | (with_reducible refine Kd.C_drewN ?_ _) | (with_reducible refine Kd.C_drew ?_))); (case side2 => exact (Kd.R_reads' HO_8.out).2.1); rintro e w45 ⟨rfl, hb⟩; have n0_ := Aside0.mk (Kd.R_below (by (with_reducible repeat (first | apply Kd.R_alloc | apply Kd.R_drewN | apply Kd.R_drew)); exact HO_8.out) hb); have n1_ := Aside0.mk (Kd.R_below (by (with_reducible repeat (first | apply Kd.R_alloc | apply Kd.R_drewN | apply Kd.R_drew)); exact HO_9.out) hb); have n2_ := Aside0.mk (below_step (by repeat (first | (with_reducible first | exact HB.out | apply below_alloc | apply pw_below_drewN | apply below_drew1) | exact HB.out)) hb); clear HO_8; clear HO_9; clear HB; have HO_8 := n0_; have HO_9 := n1_; have HB := n2_; clear n0_ n1_ n2_; (try clear hb); (try clear hb2); (try clear hk); (try clear hi))); try go_wp2_with (first | (go_at_call 20; (with_reducible refine (shaft_Nearest.calls k3 _ _ t440 (rd t443 x15_3) t458 t459 _ ?side1 ?side2 A39.out).mono ?_); (case side1 => repeat (first | exact (Kd.R_reads' HO_8.out).2.2 | (with_reducible refine Kd.C_alloc ?_ _) | (with_reducible refine Kd.C_drewN ?_ _) | (with_reducible refine Kd.C_drew ?_))); (case side2 => exact (Kd.R_reads' HO_8.out).2.1); rintro e w45 ⟨rfl, hb⟩; have n0_ := Aside0.mk (Kd.R_below (by (with_reducible repeat (first | apply Kd.R_alloc | apply Kd.R_drewN | apply Kd.R_drew)); exact HO_8.out) hb); have n1_ := Aside0.mk (Kd.R_below (by (with_reducible repeat (first | apply Kd.R_alloc | apply Kd.R_drewN | apply Kd.R_drew)); exact HO_9.out) hb); have n2_ := Aside0.mk (below_step (by repeat (first | (with_reducible first | exact HB.out | apply below_alloc | apply pw_below_drewN | apply below_drew1) | exact HB.out)) hb); clear HO_8; clear HO_9; clear HB; have HO_8 := n0_; have HO_9 := n1_; have HB := n2_; clear n0_ n1_ n2_; (try clear hb); (try clear hb2); (try clear hk); (try clear hi))))
                                          go_roundg k3
                                          case measure => have := HJ7.out; have := HJ24.out; have := HK3.out; omega
                                          case rel => exact ⟨(wrap64 (x15_3 + 1)), (by first | rfl | (simp; done) | (simp [*]; done)), H', ⟨by have := HJ7.out; have := HJ24.out; have := HK3.out; omega⟩, ⟨by (with_reducible repeat (first | apply Kd.R_alloc | apply Kd.R_drewN | apply Kd.R_drew)); exact HO_8.out⟩, ⟨by (with_reducible repeat (first | apply Kd.R_alloc | apply Kd.R_drewN | apply Kd.R_drew)); exact HO_9.out⟩, ⟨by repeat (first | (with_reducible first | exact HB.out | apply below_alloc | apply pw_below_drewN | apply below_drew1) | exact HB.out)⟩⟩
                                        · rw [if_neg c44] at H
                                          exact absurd H (by simp)
                                      · rw [if_neg c43] at H
                                        exact absurd H (by simp)
                                  · rw [if_neg c41] at H
                                    have c41b0 : ((wrap64 ((ji37) - (ji38))) == (wrap64 ((ji33) - (ji34)))) = false := beq_eq_false_iff_ne.mpr c41
                                    have c41b1 : ((wrap64 ((ji37) - (ji38))) != (wrap64 ((ji33) - (ji34)))) = true := bne_iff_ne.mpr c41
                                    by_cases c46 : t459 = 0
                                    · rw [if_pos c46] at H
                                      have c46b0 : (t459 == 0) = true := beq_iff_eq.mpr c46
                                      have c46b1 : (t459 != 0) = false := bne_eq_false_iff_eq.mpr c46
                                      clear c46
                                      by_cases c47 : t458 = x15_3
                                      · rw [if_pos c47] at H
                                        have c47b0 : (t458 == x15_3) = true := beq_iff_eq.mpr c47
                                        have c47b1 : (t458 != x15_3) = false := bne_eq_false_iff_eq.mpr c47
                                        clear c47
                                        have H' := Aside0.mk H
                                        clear H
                                        have p455 : 0 ≤ (x15_3 : Int) := of_decide_eq_true (by first | (with_reducible assumption) | assumption)
                                        have q455 : x15_3 < (t443.length : Int) := of_decide_eq_true (by first | (with_reducible assumption) | assumption)
                                        obtain ⟨ad455, e455, hx455_0⟩ := Kd.at_int (Kd.R_reads' HO_9.out).2.2 x15_3 p455 q455
                                        obtain rfl : ad448 = ad455 := (by injection e455)
                                        replace p455 := eq_true p455
                                        replace q455 := eq_true q455
                                        have p456 : 0 ≤ (x15_3 : Int) := of_decide_eq_true (by first | (with_reducible assumption) | assumption)
                                        have q456 : x15_3 < (t443.length : Int) := of_decide_eq_true (by first | (with_reducible assumption) | assumption)
                                        obtain ⟨ad456, e456, hx456_0⟩ := Kd.at_int (Kd.R_reads' HO_9.out).2.2 x15_3 p456 q456
                                        obtain rfl : ad448 = ad456 := (by injection e456)
                                        replace p456 := eq_true p456
                                        replace q456 := eq_true q456
                                        have p457 : 0 ≤ (x15_3 : Int) := of_decide_eq_true (by first | (with_reducible assumption) | assumption)
                                        have q457 : x15_3 < (t443.length : Int) := of_decide_eq_true (by first | (with_reducible assumption) | assumption)
                                        obtain ⟨ad457, e457, hx457_0⟩ := Kd.at_int (Kd.R_reads' HO_9.out).2.2 x15_3 p457 q457
                                        obtain rfl : ad448 = ad457 := (by injection e457)
                                        replace p457 := eq_true p457
                                        replace q457 := eq_true q457
                                        go_wp2_with (first | (go_at_call 20; (with_reducible refine (shaft_Nearest.calls k3 _ _ t440 (rd t443 x15_3) t458 t459 _ ?side1 ?side2 A39.out).mono ?_); (case side1 => repeat (first | exact (Kd.R_reads' HO_8.out).2.2 | (with_reducible refine Kd.C_alloc ?_ _) | (with_reducible refine Kd.C_drewN ?_ _) | (with_reducible refine Kd.C_drew ?_))); (case side2 => exact (Kd.R_reads' HO_8.out).2.1); rintro e w48 ⟨rfl, hb⟩; have n0_ := Aside0.mk (Kd.R_below (by (with_reducible repeat (first | apply Kd.R_alloc | apply Kd.R_drewN | apply Kd.R_drew)); exact HO_8.out) hb); have n1_ := Aside0.mk (Kd.R_below (by (with_reducible repeat (first | apply Kd.R_alloc | apply Kd.R_drewN | apply Kd.R_drew)); exact HO_9.out) hb); have n2_ := Aside0.mk (below_step (by repeat (first | (with_reducible first | exact HB.out | apply below_alloc | apply pw_below_drewN | apply below_drew1) | exact HB.out)) hb); clear HO_8; clear HO_9; clear HB; have HO_8 := n0_; have HO_9 := n1_; have HB := n2_; clear n0_ n1_ n2_; (try clear hb); (try clear hb2); (try clear hk); (try clear hi)))
                                        repeat (go_quiet (first | (go_at_call 20; (with_reducible refine (shaft_Nearest.calls k3 _ _ t440 (rd t443 x15_3) t458 t459 _ ?side1 ?side2 A39.out).mono ?_); (case side1 => repeat (first | exact (Kd.R_reads' HO_8.out).2.2 | (with_reducible refine Kd.C_alloc ?_ _) | (with_reducible refine Kd.C_drewN ?_ _) | (with_reducible refine Kd.C_drew ?_))); (case side2 => exact (Kd.R_reads' HO_8.out).2.1); rintro e w48 ⟨rfl, hb⟩; have n0_ := Aside0.mk (Kd.R_below (by (with_reducible repeat (first | apply Kd.R_alloc | apply Kd.R_drewN | apply Kd.R_drew)); exact HO_8.out) hb); have n1_ := Aside0.mk (Kd.R_below (by (with_reducible repeat (first | apply Kd.R_alloc | apply Kd.R_drewN | apply Kd.R_drew)); exact HO_9.out) hb); have n2_ := Aside0.mk (below_step (by repeat (first | (with_reducible first | exact HB.out | apply below_alloc | apply pw_below_drewN | apply below_drew1) | exact HB.out)) hb); clear HO_8; clear HO_9; clear HB; have HO_8 := n0_; have HO_9 := n1_; have HB := n2_; clear n0_ n1_ n2_; (try clear hb); (try clear hb2); (try clear hk); (try clear hi))); try go_wp2_with (first | (go_at_call 20; (with_reducible refine (shaft_Nearest.calls k3 _ _ t440 (rd t443 x15_3) t458 t459 _ ?side1 ?side2 A39.out).mono ?_); (case side1 => repeat (first | exact (Kd.R_reads' HO_8.out).2.2 | (with_reducible refine Kd.C_alloc ?_ _) | (with_reducible refine Kd.C_drewN ?_ _) | (with_reducible refine Kd.C_drew ?_))); (case side2 => exact (Kd.R_reads' HO_8.out).2.1); rintro e w48 ⟨rfl, hb⟩; have n0_ := Aside0.mk (Kd.R_below (by (with_reducible repeat (first | apply Kd.R_alloc | apply Kd.R_drewN | apply Kd.R_drew)); exact HO_8.out) hb); have n1_ := Aside0.mk (Kd.R_below (by (with_reducible repeat (first | apply Kd.R_alloc | apply Kd.R_drewN | apply Kd.R_drew)); exact HO_9.out) hb); have n2_ := Aside0.mk (below_step (by repeat (first | (with_reducible first | exact HB.out | apply below_alloc | apply pw_below_drewN | apply below_drew1) | exact HB.out)) hb); clear HO_8; clear HO_9; clear HB; have HO_8 := n0_; have HO_9 := n1_; have HB := n2_; clear n0_ n1_ n2_; (try clear hb); (try clear hb2); (try clear hk); (try clear hi))))
                                        go_roundg k3
                                        case measure => have := HJ7.out; have := HJ24.out; have := HK3.out; omega
                                        case rel => exact ⟨(wrap64 (x15_3 + 1)), (by first | rfl | (simp; done) | (simp [*]; done)), H', ⟨by have := HJ7.out; have := HJ24.out; have := HK3.out; omega⟩, ⟨by (with_reducible repeat (first | apply Kd.R_alloc | apply Kd.R_drewN | apply Kd.R_drew)); exact HO_8.out⟩, ⟨by (with_reducible repeat (first | apply Kd.R_alloc | apply Kd.R_drewN | apply Kd.R_drew)); exact HO_9.out⟩, ⟨by repeat (first | (with_reducible first | exact HB.out | apply below_alloc | apply pw_below_drewN | apply below_drew1) | exact HB.out)⟩⟩
                                      · rw [if_neg c47] at H
                                        exact absurd H (by simp)
                                    · rw [if_neg c46] at H
                                      exact absurd H (by simp)
                              · rw [if_neg c36] at H
                                exact absurd H (by simp)
                            · rw [if_neg c35] at H
                              have c35b0 : decide (x15_3 < (t443.length : Int)) = false := decide_eq_false c35
                              clear c35
                              replace H := Option.bind_eq_some_iff.mp H
                              obtain ⟨⟨t460, t461⟩, A490, H⟩ := H
                              replace H : (if (wrap64 ((ji33) - (ji34))) > t450 then (some (t461 == 6)) else ((shaft_Level.f t440 t449 t460 t450).bind fun bt462 => (if t461 = 0 then (if t460 = t451 then (if bt462.2 = 0 then (some bt462.1) else (none)) else (none)) else (none)))) = some r := H
                              have A49 := Aside0.mk A490
                              clear A490
                              by_cases c50 : (wrap64 ((ji33) - (ji34))) > t450
                              · rw [if_pos c50] at H
                                have c50b0 : decide (t450 < (wrap64 ((ji33) - (ji34)))) = true := decide_eq_true c50
                                clear c50
                                obtain rfl := Option.some.inj H
                                go_wp2_with (first | (go_at_call 24; (with_reducible refine (shaft_At.calls k3 _ _ t440 t449 t450 t460 t461 _ ?side1 ?side2 A49.out).mono ?_); (case side1 => repeat (first | exact (Kd.R_reads' HO_8.out).2.2 | (with_reducible refine Kd.C_alloc ?_ _) | (with_reducible refine Kd.C_drewN ?_ _) | (with_reducible refine Kd.C_drew ?_))); (case side2 => exact (Kd.R_reads' HO_8.out).2.1); rintro e w51 ⟨rfl, hb⟩; have n0_ := Aside0.mk (Kd.R_below (by (with_reducible repeat (first | apply Kd.R_alloc | apply Kd.R_drewN | apply Kd.R_drew)); exact HO_8.out) hb); have n1_ := Aside0.mk (Kd.R_below (by (with_reducible repeat (first | apply Kd.R_alloc | apply Kd.R_drewN | apply Kd.R_drew)); exact HO_9.out) hb); have n2_ := Aside0.mk (below_step (by repeat (first | (with_reducible first | exact HB.out | apply below_alloc | apply pw_below_drewN | apply below_drew1) | exact HB.out)) hb); clear HO_8; clear HO_9; clear HB; have HO_8 := n0_; have HO_9 := n1_; have HB := n2_; clear n0_ n1_ n2_; (try clear hb); (try clear hb2); (try clear hk); (try clear hi)))
                                repeat (go_quiet (first | (go_at_call 24; (with_reducible refine (shaft_At.calls k3 _ _ t440 t449 t450 t460 t461 _ ?side1 ?side2 A49.out).mono ?_); (case side1 => repeat (first | exact (Kd.R_reads' HO_8.out).2.2 | (with_reducible refine Kd.C_alloc ?_ _) | (with_reducible refine Kd.C_drewN ?_ _) | (with_reducible refine Kd.C_drew ?_))); (case side2 => exact (Kd.R_reads' HO_8.out).2.1); rintro e w51 ⟨rfl, hb⟩; have n0_ := Aside0.mk (Kd.R_below (by (with_reducible repeat (first | apply Kd.R_alloc | apply Kd.R_drewN | apply Kd.R_drew)); exact HO_8.out) hb); have n1_ := Aside0.mk (Kd.R_below (by (with_reducible repeat (first | apply Kd.R_alloc | apply Kd.R_drewN | apply Kd.R_drew)); exact HO_9.out) hb); have n2_ := Aside0.mk (below_step (by repeat (first | (with_reducible first | exact HB.out | apply below_alloc | apply pw_below_drewN | apply below_drew1) | exact HB.out)) hb); clear HO_8; clear HO_9; clear HB; have HO_8 := n0_; have HO_9 := n1_; have HB := n2_; clear n0_ n1_ n2_; (try clear hb); (try clear hb2); (try clear hk); (try clear hi))); try go_wp2_with (first | (go_at_call 24; (with_reducible refine (shaft_At.calls k3 _ _ t440 t449 t450 t460 t461 _ ?side1 ?side2 A49.out).mono ?_); (case side1 => repeat (first | exact (Kd.R_reads' HO_8.out).2.2 | (with_reducible refine Kd.C_alloc ?_ _) | (with_reducible refine Kd.C_drewN ?_ _) | (with_reducible refine Kd.C_drew ?_))); (case side2 => exact (Kd.R_reads' HO_8.out).2.1); rintro e w51 ⟨rfl, hb⟩; have n0_ := Aside0.mk (Kd.R_below (by (with_reducible repeat (first | apply Kd.R_alloc | apply Kd.R_drewN | apply Kd.R_drew)); exact HO_8.out) hb); have n1_ := Aside0.mk (Kd.R_below (by (with_reducible repeat (first | apply Kd.R_alloc | apply Kd.R_drewN | apply Kd.R_drew)); exact HO_9.out) hb); have n2_ := Aside0.mk (below_step (by repeat (first | (with_reducible first | exact HB.out | apply below_alloc | apply pw_below_drewN | apply below_drew1) | exact HB.out)) hb); clear HO_8; clear HO_9; clear HB; have HO_8 := n0_; have HO_9 := n1_; have HB := n2_; clear n0_ n1_ n2_; (try clear hb); (try clear hb2); (try clear hk); (try clear hi))))
                                go_ret
                                exact ⟨by first | rfl | (simp [errW_none, errW_some] <;> rfl) | (simp only [← hji33, ← hji34]; first | rfl | (simp [errW_none, errW_some] <;> rfl)) | (simp [*, errW_none, errW_some] <;> rfl), by repeat (first | (with_reducible first | exact HB.out | apply below_alloc | apply pw_below_drewN | apply below_drew1) | exact HB.out)⟩
                              · rw [if_neg c50] at H
                                have c50b0 : decide (t450 < (wrap64 ((ji33) - (ji34)))) = false := decide_eq_false c50
                                clear c50
                                replace H := Option.bind_eq_some_iff.mp H
                                obtain ⟨⟨t462, t463⟩, A520, H⟩ := H
                                replace H : (if t461 = 0 then (if t460 = t451 then (if t463 = 0 then (some t462) else (none)) else (none)) else (none)) = some r := H
                                have A52 := Aside0.mk A520
                                clear A520
                                by_cases c53 : t461 = 0
                                · rw [if_pos c53] at H
                                  have c53b0 : (t461 == 0) = true := beq_iff_eq.mpr c53
                                  have c53b1 : (t461 != 0) = false := bne_eq_false_iff_eq.mpr c53
                                  clear c53
                                  by_cases c54 : t460 = t451
                                  · rw [if_pos c54] at H
                                    have c54b0 : (t460 == t451) = true := beq_iff_eq.mpr c54
                                    have c54b1 : (t460 != t451) = false := bne_eq_false_iff_eq.mpr c54
                                    clear c54
                                    by_cases c55 : t463 = 0
                                    · rw [if_pos c55] at H
                                      have c55b0 : (t463 == 0) = true := beq_iff_eq.mpr c55
                                      have c55b1 : (t463 != 0) = false := bne_eq_false_iff_eq.mpr c55
                                      clear c55
                                      obtain rfl := Option.some.inj H
                                      go_wp2_with (first | (go_at_call 24; (with_reducible refine (shaft_At.calls k3 _ _ t440 t449 t450 t460 t461 _ ?side1 ?side2 A49.out).mono ?_); (case side1 => repeat (first | exact (Kd.R_reads' HO_8.out).2.2 | (with_reducible refine Kd.C_alloc ?_ _) | (with_reducible refine Kd.C_drewN ?_ _) | (with_reducible refine Kd.C_drew ?_))); (case side2 => exact (Kd.R_reads' HO_8.out).2.1); rintro e w56 ⟨rfl, hb⟩; have n0_ := Aside0.mk (Kd.R_below (by (with_reducible repeat (first | apply Kd.R_alloc | apply Kd.R_drewN | apply Kd.R_drew)); exact HO_8.out) hb); have n1_ := Aside0.mk (Kd.R_below (by (with_reducible repeat (first | apply Kd.R_alloc | apply Kd.R_drewN | apply Kd.R_drew)); exact HO_9.out) hb); have n2_ := Aside0.mk (below_step (by repeat (first | (with_reducible first | exact HB.out | apply below_alloc | apply pw_below_drewN | apply below_drew1) | exact HB.out)) hb); clear HO_8; clear HO_9; clear HB; have HO_8 := n0_; have HO_9 := n1_; have HB := n2_; clear n0_ n1_ n2_; (try clear hb); (try clear hb2); (try clear hk); (try clear hi)) | (go_at_call 22; (with_reducible refine (shaft_Level.calls _ _ t440 t449 t460 t450 t462 t463 _ ?side1 ?side2 A52.out).mono ?_); (case side1 => repeat (first | exact (Kd.R_reads' HO_8.out).2.2 | (with_reducible refine Kd.C_alloc ?_ _) | (with_reducible refine Kd.C_drewN ?_ _) | (with_reducible refine Kd.C_drew ?_))); (case side2 => exact (Kd.R_reads' HO_8.out).2.1); rintro e w57 ⟨rfl, hb⟩; have n0_ := Aside0.mk (Kd.R_below (by (with_reducible repeat (first | apply Kd.R_alloc | apply Kd.R_drewN | apply Kd.R_drew)); exact HO_8.out) hb); have n1_ := Aside0.mk (Kd.R_below (by (with_reducible repeat (first | apply Kd.R_alloc | apply Kd.R_drewN | apply Kd.R_drew)); exact HO_9.out) hb); have n2_ := Aside0.mk (below_step (by repeat (first | (with_reducible first | exact HB.out | apply below_alloc | apply pw_below_drewN | apply below_drew1) | exact HB.out)) hb); clear HO_8; clear HO_9; clear HB; have HO_8 := n0_; have HO_9 := n1_; have HB := n2_; clear n0_ n1_ n2_; (try clear hb); (try clear hb2); (try clear hk); (try clear hi)))
                                      repeat (go_quiet (first | (go_at_call 24; (with_reducible refine (shaft_At.calls k3 _ _ t440 t449 t450 t460 t461 _ ?side1 ?side2 A49.out).mono ?_); (case side1 => repeat (first | exact (Kd.R_reads' HO_8.out).2.2 | (with_reducible refine Kd.C_alloc ?_ _) | (with_reducible refine Kd.C_drewN ?_ _) | (with_reducible refine Kd.C_drew ?_))); (case side2 => exact (Kd.R_reads' HO_8.out).2.1); rintro e w56 ⟨rfl, hb⟩; have n0_ := Aside0.mk (Kd.R_below (by (with_reducible repeat (first | apply Kd.R_alloc | apply Kd.R_drewN | apply Kd.R_drew)); exact HO_8.out) hb); have n1_ := Aside0.mk (Kd.R_below (by (with_reducible repeat (first | apply Kd.R_alloc | apply Kd.R_drewN | apply Kd.R_drew)); exact HO_9.out) hb); have n2_ := Aside0.mk (below_step (by repeat (first | (with_reducible first | exact HB.out | apply below_alloc | apply pw_below_drewN | apply below_drew1) | exact HB.out)) hb); clear HO_8; clear HO_9; clear HB; have HO_8 := n0_; have HO_9 := n1_; have HB := n2_; clear n0_ n1_ n2_; (try clear hb); (try clear hb2); (try clear hk); (try clear hi)) | (go_at_call 22; (with_reducible refine (shaft_Level.calls _ _ t440 t449 t460 t450 t462 t463 _ ?side1 ?side2 A52.out).mono ?_); (case side1 => repeat (first | exact (Kd.R_reads' HO_8.out).2.2 | (with_reducible refine Kd.C_alloc ?_ _) | (with_reducible refine Kd.C_drewN ?_ _) | (with_reducible refine Kd.C_drew ?_))); (case side2 => exact (Kd.R_reads' HO_8.out).2.1); rintro e w57 ⟨rfl, hb⟩; have n0_ := Aside0.mk (Kd.R_below (by (with_reducible repeat (first | apply Kd.R_alloc | apply Kd.R_drewN | apply Kd.R_drew)); exact HO_8.out) hb); have n1_ := Aside0.mk (Kd.R_below (by (with_reducible repeat (first | apply Kd.R_alloc | apply Kd.R_drewN | apply Kd.R_drew)); exact HO_9.out) hb); have n2_ := Aside0.mk (below_step (by repeat (first | (with_reducible first | exact HB.out | apply below_alloc | apply pw_below_drewN | apply below_drew1) | exact HB.out)) hb); clear HO_8; clear HO_9; clear HB; have HO_8 := n0_; have HO_9 := n1_; have HB := n2_; clear n0_ n1_ n2_; (try clear hb); (try clear hb2); (try clear hk); (try clear hi))); try go_wp2_with (first | (go_at_call 24; (with_reducible refine (shaft_At.calls k3 _ _ t440 t449 t450 t460 t461 _ ?side1 ?side2 A49.out).mono ?_); (case side1 => repeat (first | exact (Kd.R_reads' HO_8.out).2.2 | (with_reducible refine Kd.C_alloc ?_ _) | (with_reducible refine Kd.C_drewN ?_ _) | (with_reducible refine Kd.C_drew ?_))); (case side2 => exact (Kd.R_reads' HO_8.out).2.1); rintro e w56 ⟨rfl, hb⟩; have n0_ := Aside0.mk (Kd.R_below (by (with_reducible repeat (first | apply Kd.R_alloc | apply Kd.R_drewN | apply Kd.R_drew)); exact HO_8.out) hb); have n1_ := Aside0.mk (Kd.R_below (by (with_reducible repeat (first | apply Kd.R_alloc | apply Kd.R_drewN | apply Kd.R_drew)); exact HO_9.out) hb); have n2_ := Aside0.mk (below_step (by repeat (first | (with_reducible first | exact HB.out | apply below_alloc | apply pw_below_drewN | apply below_drew1) | exact HB.out)) hb); clear HO_8; clear HO_9; clear HB; have HO_8 := n0_; have HO_9 := n1_; have HB := n2_; clear n0_ n1_ n2_; (try clear hb); (try clear hb2); (try clear hk); (try clear hi)) | (go_at_call 22; (with_reducible refine (shaft_Level.calls _ _ t440 t449 t460 t450 t462 t463 _ ?side1 ?side2 A52.out).mono ?_); (case side1 => repeat (first | exact (Kd.R_reads' HO_8.out).2.2 | (with_reducible refine Kd.C_alloc ?_ _) | (with_reducible refine Kd.C_drewN ?_ _) | (with_reducible refine Kd.C_drew ?_))); (case side2 => exact (Kd.R_reads' HO_8.out).2.1); rintro e w57 ⟨rfl, hb⟩; have n0_ := Aside0.mk (Kd.R_below (by (with_reducible repeat (first | apply Kd.R_alloc | apply Kd.R_drewN | apply Kd.R_drew)); exact HO_8.out) hb); have n1_ := Aside0.mk (Kd.R_below (by (with_reducible repeat (first | apply Kd.R_alloc | apply Kd.R_drewN | apply Kd.R_drew)); exact HO_9.out) hb); have n2_ := Aside0.mk (below_step (by repeat (first | (with_reducible first | exact HB.out | apply below_alloc | apply pw_below_drewN | apply below_drew1) | exact HB.out)) hb); clear HO_8; clear HO_9; clear HB; have HO_8 := n0_; have HO_9 := n1_; have HB := n2_; clear n0_ n1_ n2_; (try clear hb); (try clear hb2); (try clear hk); (try clear hi))))
                                      go_ret
                                      exact ⟨by first | rfl | (simp [errW_none, errW_some] <;> rfl) | (simp only [← hji33, ← hji34]; first | rfl | (simp [errW_none, errW_some] <;> rfl)) | (simp [*, errW_none, errW_some] <;> rfl), by repeat (first | (with_reducible first | exact HB.out | apply below_alloc | apply pw_below_drewN | apply below_drew1) | exact HB.out)⟩
                                    · rw [if_neg c55] at H
                                      exact absurd H (by simp)
                                  · rw [if_neg c54] at H
                                    exact absurd H (by simp)
                                · rw [if_neg c53] at H
                                  exact absurd H (by simp)
                      · rw [if_neg c32] at H
                        exact absurd H (by simp)
                    · rw [if_neg c31] at H
                      exact absurd H (by simp)
            · rw [if_neg c21] at H
              exact absurd H (by simp)
          · rw [if_neg c20] at H
            exact absurd H (by simp)
  · replace c5 := Bool.eq_false_iff.mpr c5
    subst c5
    have H1 : (none) = some r := by rw [if_neg (show ¬ (false = true) by decide)] at H; exact H
    clear H
    have H := H1
    clear H1
    exact absurd H (by simp)

/-- THE ONE PURE STATEMENT of tipstafflaw07_ShaftNear: yours. -/
def tipstafflaw07_ShaftNear.Pure : Prop := ∀ (l0 : List Int) (a1 : Int) (a2 : Int), l0.length ≤ maxLen → l0.length * 8 ≤ 140737488351232 → (∀ x ∈ l0, (Lit.int .i64 x).wf = true) → (Lit.int .i64 a1).wf = true → (Lit.int .i64 a2).wf = true → ∃ k, tipstafflaw07_ShaftNear.f k l0 a1 a2 = some true
theorem tipstafflaw07_ShaftNear.walk (P : tipstafflaw07_ShaftNear.Pure) (a0 : Option Addr) (len0 cap0 : Nat) (z0 : List Int) (a1 : Int) (a2 : Int) (w : World) (w0 : (a0 = none ∧ len0 = 0 ∧ cap0 = 0 ∧ z0 = []) ∨ ∃ x, a0 = some x ∧ len0 ≤ cap0 ∧ cap0 ≤ maxLen ∧ z0.length = cap0 ∧ (∀ i, i < z0.length → w.cell? (x.add i) = some (.int .i64 (z0.getD i 0))) ∧ ∀ n ∈ z0, (Lit.int .i64 n).wf = true) (y0 : len0 * 8 ≤ 140737488351232) (w1 : (Lit.int .i64 a1).wf = true) (w2 : (Lit.int .i64 a2).wf = true) :
    Calls Try.prog 7 #[.slice a0 len0 cap0, .int .i64 a1, .int .i64 a2] w fun e w' => e = .returned (.bool true) ∧ Below w.heap.size w w' := by
  obtain ⟨l0, rfl, hr0, hm0, hw0, hc0⟩ := ReadsInt.ofRowC w0
  obtain ⟨k, h⟩ := P l0 a1 a2 hm0 y0 hw0 w1 w2
  refine (tipstafflaw07_ShaftNear.calls k _ _ l0 a1 a2 true w (Kd.C_of_reads (d := (0 : Int)) (h1 := fun _ => rfl) hr0) hc0 h).mono ?_
  rintro e w' ⟨rfl, hd⟩
  exact ⟨rfl, hd⟩

end Go.Proofs.Ytiahfabhhkpdpaa.P
