-- Printed by wip/myprint.py of this repo (over the kit's printer). Not trusted: Lean checks it.
import Derived.Test.YtiahfabhhkpdpaaP0
import Derived.Test.YtiahfabhhkpdpaaP0tipstaffkit
import Derived.Test.YtiahfabhhkpdpaaP0tipstaffref07
import Derived.Test.YtiahfabhhkpdpaaP2shaft
import Derived.Test.YtiahfabhhkpdpaaP2tipstafflaw07
namespace Go.Proofs.Ytiahfabhhkpdpaa.P
open Go.RowKit Go.Proofs.YtiahfabhhkpdpaaW.PrintWords Go.Proofs.YtiahfabhhkpdpaaW.PrintLast Go.Proofs.YtiahfabhhkpdpaaW.PrintMore
attribute [local go_sem] max2_int min2_int max_two min_two max_three min_three max_four min_four   -- for this text's walks alone
set_option linter.unusedVariables false
set_option linter.unusedSimpArgs false

/-! ### tipstafflaw07_ShaftLooks: function 4 -/
def tipstafflaw07_ShaftLooks.j0 : Nat → List Int → Int → Int → Int → List Int → Bool → Option (Bool)
  | 0, _, _, _, _, _, _ => none
  | k + 1, x0, x1, x3, x4, x11, x73 => if x73 = true then (none) else ((shaft_At.f k x11 x1 x3).bind fun bt308 => ((tipstaffref07_At.f k x0 x1 x3).bind fun bt310 => ((shaft_Between.f k x11 x1 x4).bind fun bt312 => ((tipstaffref07_Between.f k x0 x1 x4).bind fun bt316 => (if bt308.1 = bt310.1 then (if bt308.2 = bt310.2 then ((tipstaffkit_SameInts.f k bt312.1 bt316.1).bind fun t320 => (if t320 = true then (if bt312.2 = bt316.2 then ((tipstaffkit_SameInts.f k x11 x0).bind fun t321 => (if t321 = true then ((tipstafflaw07_awake.f k).bind fun t322 => (if t322 = true then (some true) else (none))) else (none))) else (none)) else (none))) else (none)) else (none))))))
def tipstafflaw07_ShaftLooks.f (k : Nat) (l0 : List Int) (a1 : Int) (a2 : Int) (a3 : Int) (a4 : Int) : Option (Bool) := if (l0.length : Int) > 70 then ((tipstafflaw07_awake.f k).bind fun t296 => (if t296 = true then (some true) else (none))) else ((tipstaffkit_OwnInts.f l0).bind fun t297 => ((shaft_Nearest.f k t297 a1).bind fun bt300 => ((tipstaffref07_Nearest.f k l0 a1).bind fun bt302 => ((shaft_Level.f t297 a1 a2 a3).bind fun bt304 => ((tipstaffref07_Level.f k l0 a1 a2 a3).bind fun bt306 => (if bt300.1 = bt302.1 then (if bt300.2 = bt302.2 then (if (bt304.1 != bt306.1) = true then (tipstafflaw07_ShaftLooks.j0 k l0 a1 a3 a4 t297 true) else (tipstafflaw07_ShaftLooks.j0 k l0 a1 a3 a4 t297 (bt304.2 != bt306.2))) else (tipstafflaw07_ShaftLooks.j0 k l0 a1 a3 a4 t297 true)) else (tipstafflaw07_ShaftLooks.j0 k l0 a1 a3 a4 t297 true)))))))
theorem tipstafflaw07_ShaftLooks.mono_l : ∀ k, (∀ y0 y1 y2 y3 y4 y5, LeO (tipstafflaw07_ShaftLooks.j0 k y0 y1 y2 y3 y4 y5) (tipstafflaw07_ShaftLooks.j0 (k + 1) y0 y1 y2 y3 y4 y5))
  | 0 => fun _ _ _ _ _ _ r h => by simp [tipstafflaw07_ShaftLooks.j0] at h
  | k + 1 => by
    have ih0 := tipstafflaw07_ShaftLooks.mono_l k
    · intro y0 y1 y2 y3 y4 y5
      unfold tipstafflaw07_ShaftLooks.j0
      repeat' first
      | (with_reducible exact ih0 _ _ _ _ _ _)
      | (with_reducible exact shaft_At.mono _ _ _ _)
      | (with_reducible exact shaft_Between.mono _ _ _ _)
      | (with_reducible exact shaft_Nearest.mono _ _ _)
      | (with_reducible exact tipstaffkit_SameInts.mono _ _ _)
      | (with_reducible exact tipstafflaw07_awake.mono _)
      | (with_reducible exact tipstaffref07_At.mono _ _ _ _)
      | (with_reducible exact tipstaffref07_Between.mono _ _ _ _)
      | (with_reducible exact tipstaffref07_Level.mono _ _ _ _ _)
      | (with_reducible exact tipstaffref07_Nearest.mono _ _ _)
      | (with_reducible exact LeO.refl _)
      | (with_reducible exact LeO.none _)
      | (with_reducible refine LeO.ite ?_ ?_)
      | (with_reducible refine LeO.bind ?_ (fun _ => ?_))
      | exact ih0 _ _ _ _ _ _
      | exact shaft_At.mono _ _ _ _
      | exact shaft_Between.mono _ _ _ _
      | exact shaft_Nearest.mono _ _ _
      | exact tipstaffkit_SameInts.mono _ _ _
      | exact tipstafflaw07_awake.mono _
      | exact tipstaffref07_At.mono _ _ _ _
      | exact tipstaffref07_Between.mono _ _ _ _
      | exact tipstaffref07_Level.mono _ _ _ _ _
      | exact tipstaffref07_Nearest.mono _ _ _
      | exact LeO.none _
      | refine LeO.ite ?_ ?_
      | refine LeO.bind ?_ (fun _ => ?_)
theorem tipstafflaw07_ShaftLooks.mono : ∀ a0 a1 a2 a3 a4 k, LeO (tipstafflaw07_ShaftLooks.f k a0 a1 a2 a3 a4) (tipstafflaw07_ShaftLooks.f (k + 1) a0 a1 a2 a3 a4) := by
  intro a0 a1 a2 a3 a4 k
  have ih0 := tipstafflaw07_ShaftLooks.mono_l k
  unfold tipstafflaw07_ShaftLooks.f
  repeat' first
      | (with_reducible exact ih0 _ _ _ _ _ _)
      | (with_reducible exact shaft_At.mono _ _ _ _)
      | (with_reducible exact shaft_Between.mono _ _ _ _)
      | (with_reducible exact shaft_Nearest.mono _ _ _)
      | (with_reducible exact tipstaffkit_SameInts.mono _ _ _)
      | (with_reducible exact tipstafflaw07_awake.mono _)
      | (with_reducible exact tipstaffref07_At.mono _ _ _ _)
      | (with_reducible exact tipstaffref07_Between.mono _ _ _ _)
      | (with_reducible exact tipstaffref07_Level.mono _ _ _ _ _)
      | (with_reducible exact tipstaffref07_Nearest.mono _ _ _)
      | (with_reducible exact LeO.refl _)
      | (with_reducible exact LeO.none _)
      | (with_reducible refine LeO.ite ?_ ?_)
      | (with_reducible refine LeO.bind ?_ (fun _ => ?_))
      | exact ih0 _ _ _ _ _ _
      | exact shaft_At.mono _ _ _ _
      | exact shaft_Between.mono _ _ _ _
      | exact shaft_Nearest.mono _ _ _
      | exact tipstaffkit_SameInts.mono _ _ _
      | exact tipstafflaw07_awake.mono _
      | exact tipstaffref07_At.mono _ _ _ _
      | exact tipstaffref07_Between.mono _ _ _ _
      | exact tipstaffref07_Level.mono _ _ _ _ _
      | exact tipstaffref07_Nearest.mono _ _ _
      | exact LeO.none _
      | refine LeO.ite ?_ ?_
      | refine LeO.bind ?_ (fun _ => ?_)
set_option maxHeartbeats 8000000 in
set_option maxRecDepth 100000 in
theorem tipstafflaw07_ShaftLooks.calls (k : Nat) (A0 : Option Addr) (c0 : Nat) (l0 : List Int) (a1 : Int) (a2 : Int) (a3 : Int) (a4 : Int) (r : Bool) (w : World) (hr0 : Kd.C (Kd.int .i64) w A0 l0.length l0) (hc0 : l0.length ≤ c0) (h : tipstafflaw07_ShaftLooks.f k l0 a1 a2 a3 a4 = some r) :
    Calls Try.prog 4 #[.slice A0 l0.length c0, .int .i64 a1, .int .i64 a2, .int .i64 a3, .int .i64 a4] w fun e w' => e = .returned (.bool r) ∧ Below w.heap.size w w' := by
  have HR0 := Aside0.mk hr0
  have HC0 := Aside0.mk hc0
  clear hr0 hc0
  have HB := Aside0.mk (Below.refl w.heap.size w)
  have H : (if (l0.length : Int) > 70 then ((tipstafflaw07_awake.f k).bind fun t296 => (if t296 = true then (some true) else (none))) else ((tipstaffkit_OwnInts.f l0).bind fun t297 => ((shaft_Nearest.f k t297 a1).bind fun bt300 => ((tipstaffref07_Nearest.f k l0 a1).bind fun bt302 => ((shaft_Level.f t297 a1 a2 a3).bind fun bt304 => ((tipstaffref07_Level.f k l0 a1 a2 a3).bind fun bt306 => (if bt300.1 = bt302.1 then (if bt300.2 = bt302.2 then (if (bt304.1 != bt306.1) = true then (tipstafflaw07_ShaftLooks.j0 k l0 a1 a3 a4 t297 true) else (tipstafflaw07_ShaftLooks.j0 k l0 a1 a3 a4 t297 (bt304.2 != bt306.2))) else (tipstafflaw07_ShaftLooks.j0 k l0 a1 a3 a4 t297 true)) else (tipstafflaw07_ShaftLooks.j0 k l0 a1 a3 a4 t297 true)))))))) = some r := h
  clear h
  by_cases c6 : (l0.length : Int) > 70
  · rw [if_pos c6] at H
    have c6b0 : decide (70 < (l0.length : Int)) = true := decide_eq_true c6
    have c6b1 : decide (70 < l0.length) = true := decide_eq_true (by omega)
    clear c6
    replace H := Option.bind_eq_some_iff.mp H
    obtain ⟨t296, A70, H⟩ := H
    replace H : (if t296 = true then (some true) else (none)) = some r := H
    have A7 := Aside0.mk A70
    clear A70
    by_cases c8 : t296 = true
    · subst c8
      have H1 : (some true) = some r := by rw [if_pos rfl] at H; exact H
      clear H
      have H := H1
      clear H1
      obtain rfl := Option.some.inj H
      go_enter Try.func4, Try.ntmps4
      go_wp2_with (first | ((with_reducible refine gate_callee (f := 9) rfl ?_); refine goesL_ (some 25) rfl rfl Try.func9 (by kernel_rfl) rfl #[] rfl (by (try simp only [List.map_toArray, List.map_cons, List.map_nil]); first | done | rfl | (simp only [List.length_drop, List.length_take]; rfl)) ?_; (with_reducible refine (tipstafflaw07_awake.calls k  true _ A7.out).mono ?_); rintro e w9 ⟨rfl, hb⟩; refine ⟨_, rfl, ?_⟩; have n0_ := Aside0.mk (below_step (by repeat (first | (with_reducible first | exact HB.out | apply below_alloc | apply pw_below_drewN | apply below_drew1) | exact HB.out)) hb); clear HB; have HB := n0_; clear n0_; (try clear hb); (try clear hb2); (try clear hk); (try clear hi)))
      go_ret
      exact ⟨by first | rfl | (simp [errW_none, errW_some] <;> rfl) | (simp [*, errW_none, errW_some] <;> rfl), by repeat (first | (with_reducible first | exact HB.out | apply below_alloc | apply pw_below_drewN | apply below_drew1) | exact HB.out)⟩
    · replace c8 := Bool.eq_false_iff.mpr c8
      subst c8
      have H1 : (none) = some r := by rw [if_neg (show ¬ (false = true) by decide)] at H; exact H
      clear H
      have H := H1
      clear H1
      exact absurd H (by simp)
  · rw [if_neg c6] at H
    have c6b0 : decide (70 < (l0.length : Int)) = false := decide_eq_false c6
    have c6b1 : decide (70 < l0.length) = false := decide_eq_false (by omega)
    clear c6
    replace H := Option.bind_eq_some_iff.mp H
    obtain ⟨t297, A100, H⟩ := H
    replace H : ((shaft_Nearest.f k t297 a1).bind fun bt300 => ((tipstaffref07_Nearest.f k l0 a1).bind fun bt302 => ((shaft_Level.f t297 a1 a2 a3).bind fun bt304 => ((tipstaffref07_Level.f k l0 a1 a2 a3).bind fun bt306 => (if bt300.1 = bt302.1 then (if bt300.2 = bt302.2 then (if (bt304.1 != bt306.1) = true then (tipstafflaw07_ShaftLooks.j0 k l0 a1 a3 a4 t297 true) else (tipstafflaw07_ShaftLooks.j0 k l0 a1 a3 a4 t297 (bt304.2 != bt306.2))) else (tipstafflaw07_ShaftLooks.j0 k l0 a1 a3 a4 t297 true)) else (tipstafflaw07_ShaftLooks.j0 k l0 a1 a3 a4 t297 true)))))) = some r := H
    have A10 := Aside0.mk A100
    clear A100
    replace H := Option.bind_eq_some_iff.mp H
    obtain ⟨⟨t300, t301⟩, A110, H⟩ := H
    replace H : ((tipstaffref07_Nearest.f k l0 a1).bind fun bt302 => ((shaft_Level.f t297 a1 a2 a3).bind fun bt304 => ((tipstaffref07_Level.f k l0 a1 a2 a3).bind fun bt306 => (if t300 = bt302.1 then (if t301 = bt302.2 then (if (bt304.1 != bt306.1) = true then (tipstafflaw07_ShaftLooks.j0 k l0 a1 a3 a4 t297 true) else (tipstafflaw07_ShaftLooks.j0 k l0 a1 a3 a4 t297 (bt304.2 != bt306.2))) else (tipstafflaw07_ShaftLooks.j0 k l0 a1 a3 a4 t297 true)) else (tipstafflaw07_ShaftLooks.j0 k l0 a1 a3 a4 t297 true))))) = some r := H
    have A11 := Aside0.mk A110
    clear A110
    replace H := Option.bind_eq_some_iff.mp H
    obtain ⟨⟨t302, t303⟩, A120, H⟩ := H
    replace H : ((shaft_Level.f t297 a1 a2 a3).bind fun bt304 => ((tipstaffref07_Level.f k l0 a1 a2 a3).bind fun bt306 => (if t300 = t302 then (if t301 = t303 then (if (bt304.1 != bt306.1) = true then (tipstafflaw07_ShaftLooks.j0 k l0 a1 a3 a4 t297 true) else (tipstafflaw07_ShaftLooks.j0 k l0 a1 a3 a4 t297 (bt304.2 != bt306.2))) else (tipstafflaw07_ShaftLooks.j0 k l0 a1 a3 a4 t297 true)) else (tipstafflaw07_ShaftLooks.j0 k l0 a1 a3 a4 t297 true)))) = some r := H
    have A12 := Aside0.mk A120
    clear A120
    replace H := Option.bind_eq_some_iff.mp H
    obtain ⟨⟨t304, t305⟩, A130, H⟩ := H
    replace H : ((tipstaffref07_Level.f k l0 a1 a2 a3).bind fun bt306 => (if t300 = t302 then (if t301 = t303 then (if (t304 != bt306.1) = true then (tipstafflaw07_ShaftLooks.j0 k l0 a1 a3 a4 t297 true) else (tipstafflaw07_ShaftLooks.j0 k l0 a1 a3 a4 t297 (t305 != bt306.2))) else (tipstafflaw07_ShaftLooks.j0 k l0 a1 a3 a4 t297 true)) else (tipstafflaw07_ShaftLooks.j0 k l0 a1 a3 a4 t297 true))) = some r := H
    have A13 := Aside0.mk A130
    clear A130
    replace H := Option.bind_eq_some_iff.mp H
    obtain ⟨⟨t306, t307⟩, A140, H⟩ := H
    replace H : (if t300 = t302 then (if t301 = t303 then (if (t304 != t306) = true then (tipstafflaw07_ShaftLooks.j0 k l0 a1 a3 a4 t297 true) else (tipstafflaw07_ShaftLooks.j0 k l0 a1 a3 a4 t297 (t305 != t307))) else (tipstafflaw07_ShaftLooks.j0 k l0 a1 a3 a4 t297 true)) else (tipstafflaw07_ShaftLooks.j0 k l0 a1 a3 a4 t297 true)) = some r := H
    have A14 := Aside0.mk A140
    clear A140
    have HC15 := Aside0.mk H
    clear H
    go_enter Try.func4, Try.ntmps4
    go_upto_region 8 with (first | ((with_reducible refine gate_callee (f := 10) rfl ?_); refine goesL_ (some 27) rfl rfl Try.func10 (by kernel_rfl) rfl #[.slice A0 l0.length c0] rfl (by (try simp only [List.map_toArray, List.map_cons, List.map_nil]); first | done | rfl | (simp only [List.length_drop, List.length_take]; rfl)) ?_; (with_reducible refine (tipstaffkit_OwnInts.calls _ _ l0 t297 _ ?side1 ?side2 A10.out).mono ?_); (case side1 => repeat (first | exact HR0.out | (with_reducible refine Kd.C_alloc ?_ _) | (with_reducible refine Kd.C_drewN ?_ _) | (with_reducible refine Kd.C_drew ?_))); (case side2 => exact HC0.out); rintro e w16 ⟨v298, rfl, ho0, hb⟩; refine ⟨_, rfl, ?_⟩; have n0_ := Aside0.mk (Kd.R_lower ho0 (below_size (by repeat (first | (with_reducible first | exact HB.out | apply below_alloc | apply pw_below_drewN | apply below_drew1) | exact HB.out)))); have n1_ := Aside0.mk (below_step (by repeat (first | (with_reducible first | exact HB.out | apply below_alloc | apply pw_below_drewN | apply below_drew1) | exact HB.out)) hb); clear HB; have HO299 := n0_; have HB := n1_; clear n0_ n1_; (try clear hb); (try clear hb2); (try clear hk); (try clear hi); (try clear ho0); obtain ⟨Ao17, co17, eo17⟩ := Kd.R_slice HO299.out; subst eo17) | ((with_reducible refine gate_callee (f := 20) rfl ?_); refine goesL_ (some 31) rfl rfl Try.func20 (by kernel_rfl) rfl #[.slice Ao17 t297.length co17, .int .i64 a1] rfl (by (try simp only [List.map_toArray, List.map_cons, List.map_nil]); first | done | rfl | (simp only [List.length_drop, List.length_take]; rfl)) ?_; (with_reducible refine (shaft_Nearest.calls k _ _ t297 a1 t300 t301 _ ?side1 ?side2 A11.out).mono ?_); (case side1 => repeat (first | exact (Kd.R_reads' HO299.out).2.2 | (with_reducible refine Kd.C_alloc ?_ _) | (with_reducible refine Kd.C_drewN ?_ _) | (with_reducible refine Kd.C_drew ?_))); (case side2 => exact (Kd.R_reads' HO299.out).2.1); rintro e w18 ⟨rfl, hb⟩; refine ⟨_, rfl, ?_⟩; have n0_ := Aside0.mk (Kd.R_below (by (with_reducible repeat (first | apply Kd.R_alloc | apply Kd.R_drewN | apply Kd.R_drew)); exact HO299.out) hb); have n1_ := Aside0.mk (below_step (by repeat (first | (with_reducible first | exact HB.out | apply below_alloc | apply pw_below_drewN | apply below_drew1) | exact HB.out)) hb); clear HO299; clear HB; have HO299 := n0_; have HB := n1_; clear n0_ n1_; (try clear hb); (try clear hb2); (try clear hk); (try clear hi)) | ((with_reducible refine gate_callee (f := 21) rfl ?_); refine goesL_ (some 37) rfl rfl Try.func21 (by kernel_rfl) rfl #[.slice A0 l0.length c0, .int .i64 a1] rfl (by (try simp only [List.map_toArray, List.map_cons, List.map_nil]); first | done | rfl | (simp only [List.length_drop, List.length_take]; rfl)) ?_; (with_reducible refine (tipstaffref07_Nearest.calls k _ _ l0 a1 t302 t303 _ ?side1 ?side2 A12.out).mono ?_); (case side1 => repeat (first | exact (Kd.C_below HR0.out HB.out) | (with_reducible refine Kd.C_alloc ?_ _) | (with_reducible refine Kd.C_drewN ?_ _) | (with_reducible refine Kd.C_drew ?_))); (case side2 => exact HC0.out); rintro e w19 ⟨rfl, hb⟩; refine ⟨_, rfl, ?_⟩; have n0_ := Aside0.mk (Kd.R_below (by (with_reducible repeat (first | apply Kd.R_alloc | apply Kd.R_drewN | apply Kd.R_drew)); exact HO299.out) hb); have n1_ := Aside0.mk (below_step (by repeat (first | (with_reducible first | exact HB.out | apply below_alloc | apply pw_below_drewN | apply below_drew1) | exact HB.out)) hb); clear HO299; clear HB; have HO299 := n0_; have HB := n1_; clear n0_ n1_; (try clear hb); (try clear hb2); (try clear hk); (try clear hi)) | ((with_reducible refine gate_callee (f := 22) rfl ?_); refine goesL_ (some 45) rfl rfl Try.func22 (by kernel_rfl) rfl #[.slice Ao17 t297.length co17, .int .i64 a1, .int .i64 a2, .int .i64 a3] rfl (by (try simp only [List.map_toArray, List.map_cons, List.map_nil]); first | done | rfl | (simp only [List.length_drop, List.length_take]; rfl)) ?_; (with_reducible refine (shaft_Level.calls _ _ t297 a1 a2 a3 t304 t305 _ ?side1 ?side2 A13.out).mono ?_); (case side1 => repeat (first | exact (Kd.R_reads' HO299.out).2.2 | (with_reducible refine Kd.C_alloc ?_ _) | (with_reducible refine Kd.C_drewN ?_ _) | (with_reducible refine Kd.C_drew ?_))); (case side2 => exact (Kd.R_reads' HO299.out).2.1); rintro e w20 ⟨rfl, hb⟩; refine ⟨_, rfl, ?_⟩; have n0_ := Aside0.mk (Kd.R_below (by (with_reducible repeat (first | apply Kd.R_alloc | apply Kd.R_drewN | apply Kd.R_drew)); exact HO299.out) hb); have n1_ := Aside0.mk (below_step (by repeat (first | (with_reducible first | exact HB.out | apply below_alloc | apply pw_below_drewN | apply below_drew1) | exact HB.out)) hb); clear HO299; clear HB; have HO299 := n0_; have HB := n1_; clear n0_ n1_; (try clear hb); (try clear hb2); (try clear hk); (try clear hi)) | ((with_reducible refine gate_callee (f := 23) rfl ?_); refine goesL_ (some 53) rfl rfl Try.func23 (by kernel_rfl) rfl #[.slice A0 l0.length c0, .int .i64 a1, .int .i64 a2, .int .i64 a3] rfl (by (try simp only [List.map_toArray, List.map_cons, List.map_nil]); first | done | rfl | (simp only [List.length_drop, List.length_take]; rfl)) ?_; (with_reducible refine (tipstaffref07_Level.calls k _ _ l0 a1 a2 a3 t306 t307 _ ?side1 ?side2 A14.out).mono ?_); (case side1 => repeat (first | exact (Kd.C_below HR0.out HB.out) | (with_reducible refine Kd.C_alloc ?_ _) | (with_reducible refine Kd.C_drewN ?_ _) | (with_reducible refine Kd.C_drew ?_))); (case side2 => exact HC0.out); rintro e w21 ⟨rfl, hb⟩; refine ⟨_, rfl, ?_⟩; have n0_ := Aside0.mk (Kd.R_below (by (with_reducible repeat (first | apply Kd.R_alloc | apply Kd.R_drewN | apply Kd.R_drew)); exact HO299.out) hb); have n1_ := Aside0.mk (below_step (by repeat (first | (with_reducible first | exact HB.out | apply below_alloc | apply pw_below_drewN | apply below_drew1) | exact HB.out)) hb); clear HO299; clear HB; have HO299 := n0_; have HB := n1_; clear n0_ n1_; (try clear hb); (try clear hb2); (try clear hk); (try clear hi)))
    (try simp only [Act.put, List.setIfInBounds_toArray, List.set_cons_zero, List.set_cons_succ])
    go_cut [73] (fun v73 wc => ∃ (kq : Nat) (x73_14 : Bool), v73 = .bool x73_14 ∧ Aside0 (tipstafflaw07_ShaftLooks.j0 kq l0 a1 a3 a4 t297 x73_14 = some r) ∧ Aside0 (kq ≤ k) ∧ Aside0 (Kd.R (Kd.int .i64) 3 wc w.heap.size (fun _ => True) (.slice Ao17 t297.length co17) t297) ∧ Aside0 (Below w.heap.size w wc))
    case first =>
      have H := HC15.out
      clear HC15
      by_cases c22 : t300 = t302
      · rw [if_pos c22] at H
        have c22b0 : (t300 == t302) = true := beq_iff_eq.mpr c22
        have c22b1 : (t300 != t302) = false := bne_eq_false_iff_eq.mpr c22
        clear c22
        (first | rw [c22b0] | (simp only [i64_w, i32_w]; rw [c22b0]) | skip)
        by_cases c23 : t301 = t303
        · rw [if_pos c23] at H
          have c23b0 : (t301 == t303) = true := beq_iff_eq.mpr c23
          have c23b1 : (t301 != t303) = false := bne_eq_false_iff_eq.mpr c23
          clear c23
          by_cases c24 : (t304 != t306) = true
          · rw [if_pos c24] at H
            have c24b0 : (t304 != t306) = true := c24
            (try (have c24b1 : decide (t304 = t306) = false := by simpa using c24))
            (try (have c24b2 : (t304 == t306) = false := by simpa using c24))
            (try (have c24b3 : ¬ (t304 = t306) := by simpa using c24))
            clear c24
            have H' := Aside0.mk H
            clear H
            go_wp2
            go_meet
            case rel => exact ⟨_, (true), (by first | rfl | (simp; done) | (simp [*]; done)), H', ⟨by first | omega | exact Nat.le_refl _⟩, ⟨by (with_reducible repeat (first | apply Kd.R_alloc | apply Kd.R_drewN | apply Kd.R_drew)); exact HO299.out⟩, ⟨by repeat (first | (with_reducible first | exact HB.out | apply below_alloc | apply pw_below_drewN | apply below_drew1) | exact HB.out)⟩⟩
          · rw [if_neg c24] at H
            have c24b0 : (t304 != t306) = false := by simpa using c24
            (try (have c24b1 : decide (t304 = t306) = true := by simpa using c24))
            (try (have c24b2 : (t304 == t306) = true := by simpa using c24))
            clear c24
            have H' := Aside0.mk H
            clear H
            go_wp2
            go_meet
            case rel => exact ⟨_, ((t305 != t307)), (by first | rfl | (simp; done) | (simp [*]; done)), H', ⟨by first | omega | exact Nat.le_refl _⟩, ⟨by (with_reducible repeat (first | apply Kd.R_alloc | apply Kd.R_drewN | apply Kd.R_drew)); exact HO299.out⟩, ⟨by repeat (first | (with_reducible first | exact HB.out | apply below_alloc | apply pw_below_drewN | apply below_drew1) | exact HB.out)⟩⟩
        · rw [if_neg c23] at H
          have c23b0 : (t301 == t303) = false := beq_eq_false_iff_ne.mpr c23
          have c23b1 : (t301 != t303) = true := bne_iff_ne.mpr c23
          have H' := Aside0.mk H
          clear H
          go_wp2
          go_meet
          case rel => exact ⟨_, (true), (by first | rfl | (simp; done) | (simp [*]; done)), H', ⟨by first | omega | exact Nat.le_refl _⟩, ⟨by (with_reducible repeat (first | apply Kd.R_alloc | apply Kd.R_drewN | apply Kd.R_drew)); exact HO299.out⟩, ⟨by repeat (first | (with_reducible first | exact HB.out | apply below_alloc | apply pw_below_drewN | apply below_drew1) | exact HB.out)⟩⟩
      · rw [if_neg c22] at H
        have c22b0 : (t300 == t302) = false := beq_eq_false_iff_ne.mpr c22
        have c22b1 : (t300 != t302) = true := bne_iff_ne.mpr c22
        (first | rw [c22b0] | (simp only [i64_w, i32_w]; rw [c22b0]) | skip)
        have H' := Aside0.mk H
        clear H
        go_wp2
        go_meet
        case rel => exact ⟨_, (true), (by first | rfl | (simp; done) | (simp [*]; done)), H', ⟨by first | omega | exact Nat.le_refl _⟩, ⟨by (with_reducible repeat (first | apply Kd.R_alloc | apply Kd.R_drewN | apply Kd.R_drew)); exact HO299.out⟩, ⟨by repeat (first | (with_reducible first | exact HB.out | apply below_alloc | apply pw_below_drewN | apply below_drew1) | exact HB.out)⟩⟩
    case rest =>
      clear HC15
      try clear c1
      try clear c2
      try clear p2
      try clear c4
      try clear c6
      try clear c6b0
      try clear c6b1
      try clear c8
      try clear c9
      try clear c10
      try clear c20
      try clear c21
      try clear c22
      try clear c22b0
      try clear c22b1
      try clear c23
      try clear c23b0
      try clear c23b1
      try clear c24
      try clear c24b0
      try clear c24b1
      try clear c24b2
      obtain ⟨kq, x73_14, rfl, HA, HJ14, HO_11, HB⟩ := hcut
      cases kq with
      | zero => exact absurd HA.out (by simp [tipstafflaw07_ShaftLooks.j0])
      | succ kj14 =>
        have H := HA.out
        clear HA
        simp only [tipstafflaw07_ShaftLooks.j0] at H
        by_cases c25 : x73_14 = true
        · subst c25
          have H1 : (none) = some r := by rw [if_pos rfl] at H; exact H
          clear H
          have H := H1
          clear H1
          exact absurd H (by simp)
        · replace c25 := Bool.eq_false_iff.mpr c25
          subst c25
          have H1 : ((shaft_At.f kj14 t297 a1 a3).bind fun bt308 => ((tipstaffref07_At.f kj14 l0 a1 a3).bind fun bt310 => ((shaft_Between.f kj14 t297 a1 a4).bind fun bt312 => ((tipstaffref07_Between.f kj14 l0 a1 a4).bind fun bt316 => (if bt308.1 = bt310.1 then (if bt308.2 = bt310.2 then ((tipstaffkit_SameInts.f kj14 bt312.1 bt316.1).bind fun t320 => (if t320 = true then (if bt312.2 = bt316.2 then ((tipstaffkit_SameInts.f kj14 t297 l0).bind fun t321 => (if t321 = true then ((tipstafflaw07_awake.f kj14).bind fun t322 => (if t322 = true then (some true) else (none))) else (none))) else (none)) else (none))) else (none)) else (none)))))) = some r := by rw [if_neg (show ¬ (false = true) by decide)] at H; exact H
          clear H
          have H := H1
          clear H1
          replace H := Option.bind_eq_some_iff.mp H
          obtain ⟨⟨t308, t309⟩, A260, H⟩ := H
          replace H : ((tipstaffref07_At.f kj14 l0 a1 a3).bind fun bt310 => ((shaft_Between.f kj14 t297 a1 a4).bind fun bt312 => ((tipstaffref07_Between.f kj14 l0 a1 a4).bind fun bt316 => (if t308 = bt310.1 then (if t309 = bt310.2 then ((tipstaffkit_SameInts.f kj14 bt312.1 bt316.1).bind fun t320 => (if t320 = true then (if bt312.2 = bt316.2 then ((tipstaffkit_SameInts.f kj14 t297 l0).bind fun t321 => (if t321 = true then ((tipstafflaw07_awake.f kj14).bind fun t322 => (if t322 = true then (some true) else (none))) else (none))) else (none)) else (none))) else (none)) else (none))))) = some r := H
          have A26 := Aside0.mk A260
          clear A260
          replace H := Option.bind_eq_some_iff.mp H
          obtain ⟨⟨t310, t311⟩, A270, H⟩ := H
          replace H : ((shaft_Between.f kj14 t297 a1 a4).bind fun bt312 => ((tipstaffref07_Between.f kj14 l0 a1 a4).bind fun bt316 => (if t308 = t310 then (if t309 = t311 then ((tipstaffkit_SameInts.f kj14 bt312.1 bt316.1).bind fun t320 => (if t320 = true then (if bt312.2 = bt316.2 then ((tipstaffkit_SameInts.f kj14 t297 l0).bind fun t321 => (if t321 = true then ((tipstafflaw07_awake.f kj14).bind fun t322 => (if t322 = true then (some true) else (none))) else (none))) else (none)) else (none))) else (none)) else (none)))) = some r := H
          have A27 := Aside0.mk A270
          clear A270
          replace H := Option.bind_eq_some_iff.mp H
          obtain ⟨⟨t312, t313⟩, A280, H⟩ := H
          replace H : ((tipstaffref07_Between.f kj14 l0 a1 a4).bind fun bt316 => (if t308 = t310 then (if t309 = t311 then ((tipstaffkit_SameInts.f kj14 t312 bt316.1).bind fun t320 => (if t320 = true then (if t313 = bt316.2 then ((tipstaffkit_SameInts.f kj14 t297 l0).bind fun t321 => (if t321 = true then ((tipstafflaw07_awake.f kj14).bind fun t322 => (if t322 = true then (some true) else (none))) else (none))) else (none)) else (none))) else (none)) else (none))) = some r := H
          have A28 := Aside0.mk A280
          clear A280
          replace H := Option.bind_eq_some_iff.mp H
          obtain ⟨⟨t316, t317⟩, A290, H⟩ := H
          replace H : (if t308 = t310 then (if t309 = t311 then ((tipstaffkit_SameInts.f kj14 t312 t316).bind fun t320 => (if t320 = true then (if t313 = t317 then ((tipstaffkit_SameInts.f kj14 t297 l0).bind fun t321 => (if t321 = true then ((tipstafflaw07_awake.f kj14).bind fun t322 => (if t322 = true then (some true) else (none))) else (none))) else (none)) else (none))) else (none)) else (none)) = some r := H
          have A29 := Aside0.mk A290
          clear A290
          by_cases c30 : t308 = t310
          · rw [if_pos c30] at H
            have c30b0 : (t308 == t310) = true := beq_iff_eq.mpr c30
            have c30b1 : (t308 != t310) = false := bne_eq_false_iff_eq.mpr c30
            clear c30
            by_cases c31 : t309 = t311
            · rw [if_pos c31] at H
              have c31b0 : (t309 == t311) = true := beq_iff_eq.mpr c31
              have c31b1 : (t309 != t311) = false := bne_eq_false_iff_eq.mpr c31
              clear c31
              replace H := Option.bind_eq_some_iff.mp H
              obtain ⟨t320, A320, H⟩ := H
              replace H : (if t320 = true then (if t313 = t317 then ((tipstaffkit_SameInts.f kj14 t297 l0).bind fun t321 => (if t321 = true then ((tipstafflaw07_awake.f kj14).bind fun t322 => (if t322 = true then (some true) else (none))) else (none))) else (none)) else (none)) = some r := H
              have A32 := Aside0.mk A320
              clear A320
              by_cases c33 : t320 = true
              · subst c33
                have H1 : (if t313 = t317 then ((tipstaffkit_SameInts.f kj14 t297 l0).bind fun t321 => (if t321 = true then ((tipstafflaw07_awake.f kj14).bind fun t322 => (if t322 = true then (some true) else (none))) else (none))) else (none)) = some r := by rw [if_pos rfl] at H; exact H
                clear H
                have H := H1
                clear H1
                by_cases c34 : t313 = t317
                · rw [if_pos c34] at H
                  have c34b0 : (t313 == t317) = true := beq_iff_eq.mpr c34
                  have c34b1 : (t313 != t317) = false := bne_eq_false_iff_eq.mpr c34
                  clear c34
                  replace H := Option.bind_eq_some_iff.mp H
                  obtain ⟨t321, A350, H⟩ := H
                  replace H : (if t321 = true then ((tipstafflaw07_awake.f kj14).bind fun t322 => (if t322 = true then (some true) else (none))) else (none)) = some r := H
                  have A35 := Aside0.mk A350
                  clear A350
                  by_cases c36 : t321 = true
                  · subst c36
                    have H1 : ((tipstafflaw07_awake.f kj14).bind fun t322 => (if t322 = true then (some true) else (none))) = some r := by rw [if_pos rfl] at H; exact H
                    clear H
                    have H := H1
                    clear H1
                    replace H := Option.bind_eq_some_iff.mp H
                    obtain ⟨t322, A370, H⟩ := H
                    replace H : (if t322 = true then (some true) else (none)) = some r := H
                    have A37 := Aside0.mk A370
                    clear A370
                    by_cases c38 : t322 = true
                    · subst c38
                      have H1 : (some true) = some r := by rw [if_pos rfl] at H; exact H
                      clear H
                      have H := H1
                      clear H1
                      obtain rfl := Option.some.inj H
                      go_wp2_with (first | ((with_reducible refine gate_callee (f := 24) rfl ?_); refine goesL_ (some 78) rfl rfl Try.func24 (by kernel_rfl) rfl #[.slice Ao17 t297.length co17, .int .i64 a1, .int .i64 a3] rfl (by (try simp only [List.map_toArray, List.map_cons, List.map_nil]); first | done | rfl | (simp only [List.length_drop, List.length_take]; rfl)) ?_; (with_reducible refine (shaft_At.calls kj14 _ _ t297 a1 a3 t308 t309 _ ?side1 ?side2 A26.out).mono ?_); (case side1 => repeat (first | exact (Kd.R_reads' HO_11.out).2.2 | (with_reducible refine Kd.C_alloc ?_ _) | (with_reducible refine Kd.C_drewN ?_ _) | (with_reducible refine Kd.C_drew ?_))); (case side2 => exact (Kd.R_reads' HO_11.out).2.1); rintro e w39 ⟨rfl, hb⟩; refine ⟨_, rfl, ?_⟩; have n0_ := Aside0.mk (Kd.R_below (by (with_reducible repeat (first | apply Kd.R_alloc | apply Kd.R_drewN | apply Kd.R_drew)); exact HO_11.out) hb); have n1_ := Aside0.mk (below_step (by repeat (first | (with_reducible first | exact HB.out | apply below_alloc | apply pw_below_drewN | apply below_drew1) | exact HB.out)) hb); clear HO_11; clear HB; have HO_11 := n0_; have HB := n1_; clear n0_ n1_; (try clear hb); (try clear hb2); (try clear hk); (try clear hi)) | ((with_reducible refine gate_callee (f := 25) rfl ?_); refine goesL_ (some 85) rfl rfl Try.func25 (by kernel_rfl) rfl #[.slice A0 l0.length c0, .int .i64 a1, .int .i64 a3] rfl (by (try simp only [List.map_toArray, List.map_cons, List.map_nil]); first | done | rfl | (simp only [List.length_drop, List.length_take]; rfl)) ?_; (with_reducible refine (tipstaffref07_At.calls kj14 _ _ l0 a1 a3 t310 t311 _ ?side1 ?side2 A27.out).mono ?_); (case side1 => repeat (first | exact (Kd.C_below HR0.out HB.out) | (with_reducible refine Kd.C_alloc ?_ _) | (with_reducible refine Kd.C_drewN ?_ _) | (with_reducible refine Kd.C_drew ?_))); (case side2 => exact HC0.out); rintro e w40 ⟨rfl, hb⟩; refine ⟨_, rfl, ?_⟩; have n0_ := Aside0.mk (Kd.R_below (by (with_reducible repeat (first | apply Kd.R_alloc | apply Kd.R_drewN | apply Kd.R_drew)); exact HO_11.out) hb); have n1_ := Aside0.mk (below_step (by repeat (first | (with_reducible first | exact HB.out | apply below_alloc | apply pw_below_drewN | apply below_drew1) | exact HB.out)) hb); clear HO_11; clear HB; have HO_11 := n0_; have HB := n1_; clear n0_ n1_; (try clear hb); (try clear hb2); (try clear hk); (try clear hi)) | ((with_reducible refine gate_callee (f := 26) rfl ?_); refine goesL_ (some 92) rfl rfl Try.func26 (by kernel_rfl) rfl #[.slice Ao17 t297.length co17, .int .i64 a1, .int .i64 a4] rfl (by (try simp only [List.map_toArray, List.map_cons, List.map_nil]); first | done | rfl | (simp only [List.length_drop, List.length_take]; rfl)) ?_; (with_reducible refine (shaft_Between.calls kj14 _ _ t297 a1 a4 t312 t313 _ ?side1 ?side2 A28.out).mono ?_); (case side1 => repeat (first | exact (Kd.R_reads' HO_11.out).2.2 | (with_reducible refine Kd.C_alloc ?_ _) | (with_reducible refine Kd.C_drewN ?_ _) | (with_reducible refine Kd.C_drew ?_))); (case side2 => exact (Kd.R_reads' HO_11.out).2.1); rintro e w41 ⟨v314, rfl, ho0, hb⟩; refine ⟨_, rfl, ?_⟩; have n0_ := Aside0.mk (Kd.R_elder' (by (with_reducible repeat (first | apply Kd.R_alloc | apply Kd.R_drewN | apply Kd.R_drew)); exact HO_11.out) (Kd.R_base ho0) hb); have n1_ := Aside0.mk (Kd.R_lower (Kd.R_new' ho0 (Kd.R_lt (by (with_reducible repeat (first | apply Kd.R_alloc | apply Kd.R_drewN | apply Kd.R_drew)); exact HO_11.out))) (below_size (by repeat (first | (with_reducible first | exact HB.out | apply below_alloc | apply pw_below_drewN | apply below_drew1) | exact HB.out)))); have n2_ := Aside0.mk (below_step (by repeat (first | (with_reducible first | exact HB.out | apply below_alloc | apply pw_below_drewN | apply below_drew1) | exact HB.out)) hb); clear HO_11; clear HB; have HO_11 := n0_; have HO315 := n1_; have HB := n2_; clear n0_ n1_ n2_; (try clear hb); (try clear hb2); (try clear hk); (try clear hi); (try clear ho0)) | ((with_reducible refine gate_callee (f := 27) rfl ?_); refine goesL_ (some 99) rfl rfl Try.func27 (by kernel_rfl) rfl #[.slice A0 l0.length c0, .int .i64 a1, .int .i64 a4] rfl (by (try simp only [List.map_toArray, List.map_cons, List.map_nil]); first | done | rfl | (simp only [List.length_drop, List.length_take]; rfl)) ?_; (with_reducible refine (tipstaffref07_Between.calls kj14 _ _ l0 a1 a4 t316 t317 _ ?side1 ?side2 A29.out).mono ?_); (case side1 => repeat (first | exact (Kd.C_below HR0.out HB.out) | (with_reducible refine Kd.C_alloc ?_ _) | (with_reducible refine Kd.C_drewN ?_ _) | (with_reducible refine Kd.C_drew ?_))); (case side2 => exact HC0.out); rintro e w42 ⟨v318, rfl, ho0, hb⟩; refine ⟨_, rfl, ?_⟩; have n0_ := Aside0.mk (Kd.R_elder' (by (with_reducible repeat (first | apply Kd.R_alloc | apply Kd.R_drewN | apply Kd.R_drew)); exact HO_11.out) (Kd.R_base ho0) hb); have n1_ := Aside0.mk (Kd.R_elder' (by (with_reducible repeat (first | apply Kd.R_alloc | apply Kd.R_drewN | apply Kd.R_drew)); exact HO315.out) (Kd.R_base ho0) hb); have n2_ := Aside0.mk (Kd.R_lower (Kd.R_new' (Kd.R_new' ho0 (Kd.R_lt (by (with_reducible repeat (first | apply Kd.R_alloc | apply Kd.R_drewN | apply Kd.R_drew)); exact HO_11.out))) (Kd.R_lt (by (with_reducible repeat (first | apply Kd.R_alloc | apply Kd.R_drewN | apply Kd.R_drew)); exact HO315.out))) (below_size (by repeat (first | (with_reducible first | exact HB.out | apply below_alloc | apply pw_below_drewN | apply below_drew1) | exact HB.out)))); have n3_ := Aside0.mk (below_step (by repeat (first | (with_reducible first | exact HB.out | apply below_alloc | apply pw_below_drewN | apply below_drew1) | exact HB.out)) hb); clear HO_11; clear HO315; clear HB; have HO_11 := n0_; have HO315 := n1_; have HO319 := n2_; have HB := n3_; clear n0_ n1_ n2_ n3_; (try clear hb); (try clear hb2); (try clear hk); (try clear hi); (try clear ho0); obtain ⟨Ao43, co43, eo43⟩ := Kd.R_slice HO315.out; subst eo43; obtain ⟨Ao44, co44, eo44⟩ := Kd.R_slice HO319.out; subst eo44) | (go_at_call 15; (with_reducible refine (tipstaffkit_SameInts.calls kj14 _ _ t312 _ _ t316 true _ ?side1 ?side2 ?side3 ?side4 A32.out).mono ?_); (case side1 => repeat (first | exact (Kd.R_reads' HO315.out).2.2 | (with_reducible refine Kd.C_alloc ?_ _) | (with_reducible refine Kd.C_drewN ?_ _) | (with_reducible refine Kd.C_drew ?_))); (case side2 => exact (Kd.R_reads' HO315.out).2.1); (case side3 => repeat (first | exact (Kd.R_reads' HO319.out).2.2 | (with_reducible refine Kd.C_alloc ?_ _) | (with_reducible refine Kd.C_drewN ?_ _) | (with_reducible refine Kd.C_drew ?_))); (case side4 => exact (Kd.R_reads' HO319.out).2.1); rintro e w' ⟨rfl, ⟨nd, rfl⟩⟩) | (go_at_call 15; (with_reducible refine (tipstaffkit_SameInts.calls kj14 _ _ t297 _ _ l0 true _ ?side1 ?side2 ?side3 ?side4 A35.out).mono ?_); (case side1 => repeat (first | exact (Kd.R_reads' HO_11.out).2.2 | (with_reducible refine Kd.C_alloc ?_ _) | (with_reducible refine Kd.C_drewN ?_ _) | (with_reducible refine Kd.C_drew ?_))); (case side2 => exact (Kd.R_reads' HO_11.out).2.1); (case side3 => repeat (first | exact (Kd.C_below HR0.out (by repeat (first | (with_reducible first | exact HB.out | apply below_alloc | apply pw_below_drewN | apply below_drew1) | exact HB.out))) | (with_reducible refine Kd.C_alloc ?_ _) | (with_reducible refine Kd.C_drewN ?_ _) | (with_reducible refine Kd.C_drew ?_))); (case side4 => exact HC0.out); rintro e w' ⟨rfl, ⟨nd, rfl⟩⟩) | (go_at_call 9; (with_reducible refine (tipstafflaw07_awake.calls kj14  true _ A37.out).mono ?_); rintro e w45 ⟨rfl, hb⟩; have n0_ := Aside0.mk (Kd.R_below (by (with_reducible repeat (first | apply Kd.R_alloc | apply Kd.R_drewN | apply Kd.R_drew)); exact HO_11.out) hb); have n1_ := Aside0.mk (Kd.R_below (by (with_reducible repeat (first | apply Kd.R_alloc | apply Kd.R_drewN | apply Kd.R_drew)); exact HO315.out) hb); have n2_ := Aside0.mk (Kd.R_below (by (with_reducible repeat (first | apply Kd.R_alloc | apply Kd.R_drewN | apply Kd.R_drew)); exact HO319.out) hb); have n3_ := Aside0.mk (below_step (by repeat (first | (with_reducible first | exact HB.out | apply below_alloc | apply pw_below_drewN | apply below_drew1) | exact HB.out)) hb); clear HO_11; clear HO315; clear HO319; clear HB; have HO_11 := n0_; have HO315 := n1_; have HO319 := n2_; have HB := n3_; clear n0_ n1_ n2_ n3_; (try clear hb); (try clear hb2); (try clear hk); (try clear hi)))
                      go_ret
                      exact ⟨by first | rfl | (simp [errW_none, errW_some] <;> rfl) | (simp [*, errW_none, errW_some] <;> rfl), by repeat (first | (with_reducible first | exact HB.out | apply below_alloc | apply pw_below_drewN | apply below_drew1) | exact HB.out)⟩
                    · replace c38 := Bool.eq_false_iff.mpr c38
                      subst c38
                      have H1 : (none) = some r := by rw [if_neg (show ¬ (false = true) by decide)] at H; exact H
                      clear H
                      have H := H1
                      clear H1
                      exact absurd H (by simp)
                  · replace c36 := Bool.eq_false_iff.mpr c36
                    subst c36
                    have H1 : (none) = some r := by rw [if_neg (show ¬ (false = true) by decide)] at H; exact H
                    clear H
                    have H := H1
                    clear H1
                    exact absurd H (by simp)
                · rw [if_neg c34] at H
                  exact absurd H (by simp)
              · replace c33 := Bool.eq_false_iff.mpr c33
                subst c33
                have H1 : (none) = some r := by rw [if_neg (show ¬ (false = true) by decide)] at H; exact H
                clear H
                have H := H1
                clear H1
                exact absurd H (by simp)
            · rw [if_neg c31] at H
              exact absurd H (by simp)
          · rw [if_neg c30] at H
            exact absurd H (by simp)

/-- THE ONE PURE STATEMENT of tipstafflaw07_ShaftLooks: yours. -/
def tipstafflaw07_ShaftLooks.Pure : Prop := ∀ (l0 : List Int) (a1 : Int) (a2 : Int) (a3 : Int) (a4 : Int), l0.length ≤ maxLen → l0.length * 8 ≤ 140737488351232 → (∀ x ∈ l0, (Lit.int .i64 x).wf = true) → (Lit.int .i64 a1).wf = true → (Lit.int .i64 a2).wf = true → (Lit.int .i64 a3).wf = true → (Lit.int .i64 a4).wf = true → ∃ k, tipstafflaw07_ShaftLooks.f k l0 a1 a2 a3 a4 = some true
theorem tipstafflaw07_ShaftLooks.walk (P : tipstafflaw07_ShaftLooks.Pure) (a0 : Option Addr) (len0 cap0 : Nat) (z0 : List Int) (a1 : Int) (a2 : Int) (a3 : Int) (a4 : Int) (w : World) (w0 : (a0 = none ∧ len0 = 0 ∧ cap0 = 0 ∧ z0 = []) ∨ ∃ x, a0 = some x ∧ len0 ≤ cap0 ∧ cap0 ≤ maxLen ∧ z0.length = cap0 ∧ (∀ i, i < z0.length → w.cell? (x.add i) = some (.int .i64 (z0.getD i 0))) ∧ ∀ n ∈ z0, (Lit.int .i64 n).wf = true) (y0 : len0 * 8 ≤ 140737488351232) (w1 : (Lit.int .i64 a1).wf = true) (w2 : (Lit.int .i64 a2).wf = true) (w3 : (Lit.int .i64 a3).wf = true) (w4 : (Lit.int .i64 a4).wf = true) :
    Calls Try.prog 4 #[.slice a0 len0 cap0, .int .i64 a1, .int .i64 a2, .int .i64 a3, .int .i64 a4] w fun e w' => e = .returned (.bool true) ∧ Below w.heap.size w w' := by
  obtain ⟨l0, rfl, hr0, hm0, hw0, hc0⟩ := ReadsInt.ofRowC w0
  obtain ⟨k, h⟩ := P l0 a1 a2 a3 a4 hm0 y0 hw0 w1 w2 w3 w4
  refine (tipstafflaw07_ShaftLooks.calls k _ _ l0 a1 a2 a3 a4 true w (Kd.C_of_reads (d := (0 : Int)) (h1 := fun _ => rfl) hr0) hc0 h).mono ?_
  rintro e w' ⟨rfl, hd⟩
  exact ⟨rfl, hd⟩

end Go.Proofs.Ytiahfabhhkpdpaa.P
