-- Printed by wip/myprint.py of this repo (over the kit's printer). Not trusted: Lean checks it.
import Derived.Test.YtfibbdbpclkbgaaP0
import Derived.Test.YtfibbdbpclkbgaaGa
import Derived.Test.YtfibbdbpclkbgaaP0tipstaffkit
import Derived.Test.YtfibbdbpclkbgaaP1tipstafflaw10
namespace Go.Proofs.Ytfibbdbpclkbgaa.P
open Go.RowKit Go.Proofs.YtfibbdbpclkbgaaW.PrintWords Go.Proofs.YtfibbdbpclkbgaaW.PrintLast Go.Proofs.YtfibbdbpclkbgaaW.PrintMore
attribute [local go_sem] max2_int min2_int max_two min_two max_three min_three max_four min_four   -- for this text's walks alone
set_option linter.unusedVariables false
set_option linter.unusedSimpArgs false

/-! ### tipstafflaw10_BrakeStates: function 3 -/
mutual
def tipstafflaw10_BrakeStates.j0 : Nat → Int → Int → List Int → Bool → Option (Bool)
  | 0, _, _, _, _ => none
  | k + 1, x5, x6, x7, x31 => if x31 = true then (none) else (tipstafflaw10_BrakeStates.l0 k x5 x6 x7 0)
def tipstafflaw10_BrakeStates.l0 : Nat → Int → Int → List Int → Int → Option (Bool)
  | 0, _, _, _, _ => none
  | k + 1, x5, x6, x7, x9 => if x9 < (x7.length : Int) then (if x9 ≥ (mx 0 (wrap64 (x5 - 1))) then (if 0 ≤ x9 then (if (((rd x7 x9) == 2) != (decide (x9 < (wrap64 (x5 + x6))))) = true then (none) else (if (x9 < (wrap64 (x5 + x6))) then (tipstafflaw10_BrakeStates.l0 k x5 x6 x7 (wrap64 (x9 + 1))) else (if (rd x7 x9) = 0 then (if x9 = (wrap64 ((x7.length : Int) - 1)) then (tipstafflaw10_BrakeStates.l0 k x5 x6 x7 (wrap64 (x9 + 1))) else (none)) else (tipstafflaw10_BrakeStates.l0 k x5 x6 x7 (wrap64 (x9 + 1)))))) else (none)) else (if 0 ≤ x9 then (if (((rd x7 x9) == 2) != false) = true then (none) else (if (rd x7 x9) = 0 then (if x9 = (wrap64 ((x7.length : Int) - 1)) then (tipstafflaw10_BrakeStates.l0 k x5 x6 x7 (wrap64 (x9 + 1))) else (none)) else (tipstafflaw10_BrakeStates.l0 k x5 x6 x7 (wrap64 (x9 + 1))))) else (none))) else ((tipstafflaw10_awake.f k).bind fun t152 => (if t152 = true then (some t152) else (none)))
end
def tipstafflaw10_BrakeStates.f (k : Nat) (a0 : Int) (a1 : Int) : Option (Bool) := (tipstaffkit_Mod.f a0 6).bind fun t142 => ((tipstaffkit_Mod.f a1 301).bind fun t143 => ((brake_States.f t142 t143).bind fun bt144 => (if bt144.2 = 0 then (tipstafflaw10_BrakeStates.j0 k t142 t143 bt144.1 ((bt144.1.length : Int) != (wrap64 ((wrap64 (2 * t142)) + t143)))) else (tipstafflaw10_BrakeStates.j0 k t142 t143 bt144.1 true))))
theorem tipstafflaw10_BrakeStates.mono_l : ∀ k, (∀ y0 y1 y2 y3, LeO (tipstafflaw10_BrakeStates.j0 k y0 y1 y2 y3) (tipstafflaw10_BrakeStates.j0 (k + 1) y0 y1 y2 y3)) ∧ (∀ y0 y1 y2 y3, LeO (tipstafflaw10_BrakeStates.l0 k y0 y1 y2 y3) (tipstafflaw10_BrakeStates.l0 (k + 1) y0 y1 y2 y3))
  | 0 => ⟨fun _ _ _ _ r h => by simp [tipstafflaw10_BrakeStates.j0] at h, fun _ _ _ _ r h => by simp [tipstafflaw10_BrakeStates.l0] at h⟩
  | k + 1 => by
    obtain ⟨ih0, ih1⟩ := tipstafflaw10_BrakeStates.mono_l k
    refine ⟨?_, ?_⟩
    · intro y0 y1 y2 y3
      unfold tipstafflaw10_BrakeStates.j0
      repeat' first
      | (with_reducible exact ih0 _ _ _ _)
      | (with_reducible exact ih1 _ _ _ _)
      | (with_reducible exact tipstafflaw10_awake.mono _)
      | (with_reducible exact LeO.refl _)
      | (with_reducible exact LeO.none _)
      | (with_reducible refine LeO.ite ?_ ?_)
      | (with_reducible refine LeO.bind ?_ (fun _ => ?_))
      | exact ih0 _ _ _ _
      | exact ih1 _ _ _ _
      | exact tipstafflaw10_awake.mono _
      | exact LeO.none _
      | refine LeO.ite ?_ ?_
      | refine LeO.bind ?_ (fun _ => ?_)
    · intro y0 y1 y2 y3
      unfold tipstafflaw10_BrakeStates.l0
      repeat' first
      | (with_reducible exact ih0 _ _ _ _)
      | (with_reducible exact ih1 _ _ _ _)
      | (with_reducible exact tipstafflaw10_awake.mono _)
      | (with_reducible exact LeO.refl _)
      | (with_reducible exact LeO.none _)
      | (with_reducible refine LeO.ite ?_ ?_)
      | (with_reducible refine LeO.bind ?_ (fun _ => ?_))
      | exact ih0 _ _ _ _
      | exact ih1 _ _ _ _
      | exact tipstafflaw10_awake.mono _
      | exact LeO.none _
      | refine LeO.ite ?_ ?_
      | refine LeO.bind ?_ (fun _ => ?_)
theorem tipstafflaw10_BrakeStates.mono : ∀ a0 a1 k, LeO (tipstafflaw10_BrakeStates.f k a0 a1) (tipstafflaw10_BrakeStates.f (k + 1) a0 a1) := by
  intro a0 a1 k
  obtain ⟨ih0, ih1⟩ := tipstafflaw10_BrakeStates.mono_l k
  unfold tipstafflaw10_BrakeStates.f
  repeat' first
      | (with_reducible exact ih0 _ _ _ _)
      | (with_reducible exact ih1 _ _ _ _)
      | (with_reducible exact tipstafflaw10_awake.mono _)
      | (with_reducible exact LeO.refl _)
      | (with_reducible exact LeO.none _)
      | (with_reducible refine LeO.ite ?_ ?_)
      | (with_reducible refine LeO.bind ?_ (fun _ => ?_))
      | exact ih0 _ _ _ _
      | exact ih1 _ _ _ _
      | exact tipstafflaw10_awake.mono _
      | exact LeO.none _
      | refine LeO.ite ?_ ?_
      | refine LeO.bind ?_ (fun _ => ?_)
set_option maxHeartbeats 8000000 in
set_option maxRecDepth 100000 in
theorem tipstafflaw10_BrakeStates.calls (k : Nat) (a0 : Int) (a1 : Int) (r : Bool) (w : World) (h : tipstafflaw10_BrakeStates.f k a0 a1 = some r) :
    Calls Try.prog 3 #[.int .i64 a0, .int .i64 a1] w fun e w' => e = .returned (.bool r) ∧ Below w.heap.size w w' := by
  have HB := Aside0.mk (Below.refl w.heap.size w)
  have H : ((tipstaffkit_Mod.f a0 6).bind fun t142 => ((tipstaffkit_Mod.f a1 301).bind fun t143 => ((brake_States.f t142 t143).bind fun bt144 => (if bt144.2 = 0 then (tipstafflaw10_BrakeStates.j0 k t142 t143 bt144.1 ((bt144.1.length : Int) != (wrap64 ((wrap64 (2 * t142)) + t143)))) else (tipstafflaw10_BrakeStates.j0 k t142 t143 bt144.1 true))))) = some r := h
  clear h
  replace H := Option.bind_eq_some_iff.mp H
  obtain ⟨t142, A30, H⟩ := H
  replace H : ((tipstaffkit_Mod.f a1 301).bind fun t143 => ((brake_States.f t142 t143).bind fun bt144 => (if bt144.2 = 0 then (tipstafflaw10_BrakeStates.j0 k t142 t143 bt144.1 ((bt144.1.length : Int) != (wrap64 ((wrap64 (2 * t142)) + t143)))) else (tipstafflaw10_BrakeStates.j0 k t142 t143 bt144.1 true)))) = some r := H
  have A3 := Aside0.mk A30
  clear A30
  replace H := Option.bind_eq_some_iff.mp H
  obtain ⟨t143, A40, H⟩ := H
  replace H : ((brake_States.f t142 t143).bind fun bt144 => (if bt144.2 = 0 then (tipstafflaw10_BrakeStates.j0 k t142 t143 bt144.1 ((bt144.1.length : Int) != (wrap64 ((wrap64 (2 * t142)) + t143)))) else (tipstafflaw10_BrakeStates.j0 k t142 t143 bt144.1 true))) = some r := H
  have A4 := Aside0.mk A40
  clear A40
  replace H := Option.bind_eq_some_iff.mp H
  obtain ⟨⟨t144, t145⟩, A50, H⟩ := H
  replace H : (if t145 = 0 then (tipstafflaw10_BrakeStates.j0 k t142 t143 t144 ((t144.length : Int) != (wrap64 ((wrap64 (2 * t142)) + t143)))) else (tipstafflaw10_BrakeStates.j0 k t142 t143 t144 true)) = some r := H
  have A5 := Aside0.mk A50
  clear A50
  have HC6 := Aside0.mk H
  clear H
  go_enter Try.func3, Try.ntmps3
  go_upto_region 3 with (first | ((with_reducible refine gate_callee (f := 10) rfl ?_); refine goesL_ (some 12) rfl rfl Try.func10 (by kernel_rfl) rfl #[.int .i64 a0, .int .i64 6] rfl (by (try simp only [List.map_toArray, List.map_cons, List.map_nil]); first | done | rfl | (simp only [List.length_drop, List.length_take]; rfl)) ?_; (with_reducible refine (tipstaffkit_Mod.calls a0 6 t142 _ A3.out).mono ?_); rintro e w' ⟨rfl, ⟨nd, rfl⟩⟩; refine ⟨_, rfl, ?_⟩) | ((with_reducible refine gate_callee (f := 10) rfl ?_); refine goesL_ (some 14) rfl rfl Try.func10 (by kernel_rfl) rfl #[.int .i64 a1, .int .i64 301] rfl (by (try simp only [List.map_toArray, List.map_cons, List.map_nil]); first | done | rfl | (simp only [List.length_drop, List.length_take]; rfl)) ?_; (with_reducible refine (tipstaffkit_Mod.calls a1 301 t143 _ A4.out).mono ?_); rintro e w' ⟨rfl, ⟨nd, rfl⟩⟩; refine ⟨_, rfl, ?_⟩) | ((with_reducible refine gate_callee (f := 11) rfl ?_); refine goesL_ (some 18) rfl rfl Try.func11 (by kernel_rfl) rfl #[.int .i64 t142, .int .i64 t143] rfl (by (try simp only [List.map_toArray, List.map_cons, List.map_nil]); first | done | rfl | (simp only [List.length_drop, List.length_take]; rfl)) ?_; (with_reducible refine (brake_States.calls t142 t143 t144 t145 _ A5.out).mono ?_); rintro e w7 ⟨v146, rfl, ho0, hb⟩; refine ⟨_, rfl, ?_⟩; have n0_ := Aside0.mk (Kd.R_lower ho0 (below_size (by repeat (first | (with_reducible first | exact HB.out | apply below_alloc | apply pw_below_drewN | apply below_drew1) | exact HB.out)))); have n1_ := Aside0.mk (below_step (by repeat (first | (with_reducible first | exact HB.out | apply below_alloc | apply pw_below_drewN | apply below_drew1) | exact HB.out)) hb); clear HB; have HO147 := n0_; have HB := n1_; clear n0_ n1_; (try clear hb); (try clear hb2); (try clear hk); (try clear hi); (try clear ho0)))
  (try simp only [Act.put, List.setIfInBounds_toArray, List.set_cons_zero, List.set_cons_succ])
  go_cut [31] (fun v31 wc => ∃ (kq : Nat) (x31_5 : Bool), v31 = .bool x31_5 ∧ Aside0 (tipstafflaw10_BrakeStates.j0 kq t142 t143 t144 x31_5 = some r) ∧ Aside0 (kq ≤ k) ∧ Aside0 (Kd.R (Kd.int .i64) 3 wc w.heap.size (fun _ => True) v146 t144) ∧ Aside0 (Below w.heap.size w wc))
  case first =>
    have H := HC6.out
    clear HC6
    by_cases c8 : t145 = 0
    · rw [if_pos c8] at H
      have c8b0 : (t145 == 0) = true := beq_iff_eq.mpr c8
      have c8b1 : (t145 != 0) = false := bne_eq_false_iff_eq.mpr c8
      clear c8
      (first | rw [c8b0] | (simp only [i64_w, i32_w]; rw [c8b0]) | skip)
      have H' := Aside0.mk H
      clear H
      obtain ⟨Ao9, co9, eo9⟩ := Kd.R_slice HO147.out
      subst eo9
      go_wp2
      go_meet
      case rel => exact ⟨_, (((t144.length : Int) != (wrap64 ((wrap64 (2 * t142)) + t143)))), (by first | rfl | (simp; done) | (simp [*]; done)), H', ⟨by first | omega | exact Nat.le_refl _⟩, ⟨by (with_reducible repeat (first | apply Kd.R_alloc | apply Kd.R_drewN | apply Kd.R_drew)); exact HO147.out⟩, ⟨by repeat (first | (with_reducible first | exact HB.out | apply below_alloc | apply pw_below_drewN | apply below_drew1) | exact HB.out)⟩⟩
    · rw [if_neg c8] at H
      have c8b0 : (t145 == 0) = false := beq_eq_false_iff_ne.mpr c8
      have c8b1 : (t145 != 0) = true := bne_iff_ne.mpr c8
      (first | rw [c8b0] | (simp only [i64_w, i32_w]; rw [c8b0]) | skip)
      have H' := Aside0.mk H
      clear H
      go_wp2
      go_meet
      case rel => exact ⟨_, (true), (by first | rfl | (simp; done) | (simp [*]; done)), H', ⟨by first | omega | exact Nat.le_refl _⟩, ⟨by (with_reducible repeat (first | apply Kd.R_alloc | apply Kd.R_drewN | apply Kd.R_drew)); exact HO147.out⟩, ⟨by repeat (first | (with_reducible first | exact HB.out | apply below_alloc | apply pw_below_drewN | apply below_drew1) | exact HB.out)⟩⟩
  case rest =>
    clear HC6
    try clear c1
    try clear p2
    try clear c3
    try clear p6
    try clear c8
    try clear c8b0
    try clear c8b1
    obtain ⟨kq, x31_5, rfl, HA, HJ5, HO_7, HB⟩ := hcut
    cases kq with
    | zero => exact absurd HA.out (by simp [tipstafflaw10_BrakeStates.j0])
    | succ kj5 =>
      have H := HA.out
      clear HA
      simp only [tipstafflaw10_BrakeStates.j0] at H
      by_cases c10 : x31_5 = true
      · subst c10
        have H1 : (none) = some r := by rw [if_pos rfl] at H; exact H
        clear H
        have H := H1
        clear H1
        exact absurd H (by simp)
      · replace c10 := Bool.eq_false_iff.mpr c10
        subst c10
        have H1 : (tipstafflaw10_BrakeStates.l0 kj5 t142 t143 t144 0) = some r := by rw [if_neg (show ¬ (false = true) by decide)] at H; exact H
        clear H
        have H := H1
        clear H1
        have H' := Aside0.mk H
        clear H
        go_wp2
        go_loopg [9] kj5 (fun kq v9 w' => ∃ (x9_2 : Int), v9 = .int .i64 x9_2 ∧ Aside0 (tipstafflaw10_BrakeStates.l0 kq t142 t143 t144 x9_2 = some r) ∧ Aside0 (kq ≤ kj5) ∧ Aside0 (Kd.R (Kd.int .i64) 3 w' w.heap.size (fun _ => True) v146 t144) ∧ Aside0 (Below w.heap.size w w'))
        case atStart => exact ⟨(0), (by first | rfl | (simp; done) | (simp [*]; done)), H', ⟨Nat.le_refl _⟩, ⟨by (with_reducible repeat (first | apply Kd.R_alloc | apply Kd.R_drewN | apply Kd.R_drew)); exact HO_7.out⟩, ⟨by repeat (first | (with_reducible first | exact HB.out | apply below_alloc | apply pw_below_drewN | apply below_drew1) | exact HB.out)⟩⟩
        case round =>
          clear H'
          try clear c1
          try clear p2
          try clear c3
          try clear p6
          try clear c8
          try clear c8b0
          try clear c8b1
          try clear c10
          try clear p2
          try clear p6
          obtain ⟨x9_2, rfl, HA, HK2, HO_7, HB⟩ := hrel
          cases gk with
          | zero => exact absurd HA.out (by simp [tipstafflaw10_BrakeStates.l0])
          | succ k2 =>
            have H := HA.out
            clear HA
            simp only [tipstafflaw10_BrakeStates.l0] at H
            by_cases c11 : x9_2 < (t144.length : Int)
            · rw [if_pos c11] at H
              have c11b0 : decide (x9_2 < (t144.length : Int)) = true := decide_eq_true c11
              clear c11
              obtain ⟨ji12, hji12⟩ : ∃ j_ : Int, (mx 0 (wrap64 (t142 - 1))) = j_ := ⟨_, rfl⟩
              replace H : (if x9_2 ≥ (ji12) then (if 0 ≤ x9_2 then (if (((rd t144 x9_2) == 2) != (decide (x9_2 < (wrap64 (t142 + t143))))) = true then (none) else (if (x9_2 < (wrap64 (t142 + t143))) then (tipstafflaw10_BrakeStates.l0 k2 t142 t143 t144 (wrap64 (x9_2 + 1))) else (if (rd t144 x9_2) = 0 then (if x9_2 = (wrap64 ((t144.length : Int) - 1)) then (tipstafflaw10_BrakeStates.l0 k2 t142 t143 t144 (wrap64 (x9_2 + 1))) else (none)) else (tipstafflaw10_BrakeStates.l0 k2 t142 t143 t144 (wrap64 (x9_2 + 1)))))) else (none)) else (if 0 ≤ x9_2 then (if (((rd t144 x9_2) == 2) != false) = true then (none) else (if (rd t144 x9_2) = 0 then (if x9_2 = (wrap64 ((t144.length : Int) - 1)) then (tipstafflaw10_BrakeStates.l0 k2 t142 t143 t144 (wrap64 (x9_2 + 1))) else (none)) else (tipstafflaw10_BrakeStates.l0 k2 t142 t143 t144 (wrap64 (x9_2 + 1))))) else (none))) = some r := by first | (rw [hji12] at H; exact H) | (simp only [hji12] at H ⊢; exact H)
              have hji12_ : (if 0 < (wrap64 (t142 - 1)) then (wrap64 (t142 - 1)) else 0) = ji12 := hji12
              by_cases c13 : x9_2 ≥ (ji12)
              · rw [if_pos c13] at H
                have c13b0 : decide ((ji12) ≤ x9_2) = true := decide_eq_true c13
                clear c13
                by_cases c14 : 0 ≤ x9_2
                · rw [if_pos c14] at H
                  have c14b0 : decide (0 ≤ x9_2) = true := decide_eq_true c14
                  clear c14
                  by_cases c15 : (((rd t144 x9_2) == 2) != (decide (x9_2 < (wrap64 (t142 + t143))))) = true
                  · rw [if_pos c15] at H
                    exact absurd H (by simp)
                  · rw [if_neg c15] at H
                    have c15b0 : (((rd t144 x9_2) == 2) != (decide (x9_2 < (wrap64 (t142 + t143))))) = false := by simpa using c15
                    (try (have c15b1 : decide (((rd t144 x9_2) == 2) = (decide (x9_2 < (wrap64 (t142 + t143))))) = true := by simpa using c15))
                    (try (have c15b2 : (((rd t144 x9_2) == 2) == (decide (x9_2 < (wrap64 (t142 + t143))))) = true := by simpa using c15))
                    clear c15
                    by_cases c16 : (x9_2 < (wrap64 (t142 + t143)))
                    · rw [if_pos c16] at H
                      have c16b0 : decide (x9_2 < (wrap64 (t142 + t143))) = true := decide_eq_true c16
                      have c15x := c15b0
                      rw [c16b0] at c15x
                      simp at c15x
                      clear c16
                      have H' := Aside0.mk H
                      clear H
                      obtain ⟨Ao17, co17, eo17⟩ := Kd.R_slice HO_7.out
                      subst eo17
                      have p148 : 0 ≤ (x9_2 : Int) := of_decide_eq_true (by first | (with_reducible assumption) | assumption)
                      have q148 : x9_2 < (t144.length : Int) := of_decide_eq_true (by first | (with_reducible assumption) | assumption)
                      obtain ⟨ad148, e148, hx148_0⟩ := Kd.at_int (Kd.R_reads' HO_7.out).2.2 x9_2 p148 q148
                      cases e148
                      replace p148 := eq_true p148
                      replace q148 := eq_true q148
                      go_wp2
                      go_roundg k2
                      case measure => have := HJ5.out; have := HK2.out; omega
                      case rel => exact ⟨(wrap64 (x9_2 + 1)), (by first | rfl | (simp; done) | (simp [*]; done)), H', ⟨by have := HJ5.out; have := HK2.out; omega⟩, ⟨by (with_reducible repeat (first | apply Kd.R_alloc | apply Kd.R_drewN | apply Kd.R_drew)); exact HO_7.out⟩, ⟨by repeat (first | (with_reducible first | exact HB.out | apply below_alloc | apply pw_below_drewN | apply below_drew1) | exact HB.out)⟩⟩
                    · rw [if_neg c16] at H
                      have c16b0 : decide (x9_2 < (wrap64 (t142 + t143))) = false := decide_eq_false c16
                      have c15x := c15b0
                      rw [c16b0] at c15x
                      simp at c15x
                      clear c16
                      by_cases c18 : (rd t144 x9_2) = 0
                      · rw [if_pos c18] at H
                        have c18b0 : ((rd t144 x9_2) == 0) = true := beq_iff_eq.mpr c18
                        have c18b1 : ((rd t144 x9_2) != 0) = false := bne_eq_false_iff_eq.mpr c18
                        clear c18
                        by_cases c19 : x9_2 = (wrap64 ((t144.length : Int) - 1))
                        · rw [if_pos c19] at H
                          have c19b0 : (x9_2 == (wrap64 ((t144.length : Int) - 1))) = true := beq_iff_eq.mpr c19
                          have c19b1 : (x9_2 != (wrap64 ((t144.length : Int) - 1))) = false := bne_eq_false_iff_eq.mpr c19
                          clear c19
                          have H' := Aside0.mk H
                          clear H
                          obtain ⟨Ao20, co20, eo20⟩ := Kd.R_slice HO_7.out
                          subst eo20
                          have p148 : 0 ≤ (x9_2 : Int) := of_decide_eq_true (by first | (with_reducible assumption) | assumption)
                          have q148 : x9_2 < (t144.length : Int) := of_decide_eq_true (by first | (with_reducible assumption) | assumption)
                          obtain ⟨ad148, e148, hx148_0⟩ := Kd.at_int (Kd.R_reads' HO_7.out).2.2 x9_2 p148 q148
                          cases e148
                          replace p148 := eq_true p148
                          replace q148 := eq_true q148
                          have p149 : 0 ≤ (x9_2 : Int) := of_decide_eq_true (by first | (with_reducible assumption) | assumption)
                          have q149 : x9_2 < (t144.length : Int) := of_decide_eq_true (by first | (with_reducible assumption) | assumption)
                          obtain ⟨ad149, e149, hx149_0⟩ := Kd.at_int (Kd.R_reads' HO_7.out).2.2 x9_2 p149 q149
                          obtain rfl : ad148 = ad149 := (by injection e149)
                          replace p149 := eq_true p149
                          replace q149 := eq_true q149
                          go_wp2
                          go_roundg k2
                          case measure => have := HJ5.out; have := HK2.out; omega
                          case rel => exact ⟨(wrap64 (x9_2 + 1)), (by first | rfl | (simp; done) | (simp [*]; done)), H', ⟨by have := HJ5.out; have := HK2.out; omega⟩, ⟨by (with_reducible repeat (first | apply Kd.R_alloc | apply Kd.R_drewN | apply Kd.R_drew)); exact HO_7.out⟩, ⟨by repeat (first | (with_reducible first | exact HB.out | apply below_alloc | apply pw_below_drewN | apply below_drew1) | exact HB.out)⟩⟩
                        · rw [if_neg c19] at H
                          exact absurd H (by simp)
                      · rw [if_neg c18] at H
                        have c18b0 : ((rd t144 x9_2) == 0) = false := beq_eq_false_iff_ne.mpr c18
                        have c18b1 : ((rd t144 x9_2) != 0) = true := bne_iff_ne.mpr c18
                        have H' := Aside0.mk H
                        clear H
                        obtain ⟨Ao21, co21, eo21⟩ := Kd.R_slice HO_7.out
                        subst eo21
                        have p148 : 0 ≤ (x9_2 : Int) := of_decide_eq_true (by first | (with_reducible assumption) | assumption)
                        have q148 : x9_2 < (t144.length : Int) := of_decide_eq_true (by first | (with_reducible assumption) | assumption)
                        obtain ⟨ad148, e148, hx148_0⟩ := Kd.at_int (Kd.R_reads' HO_7.out).2.2 x9_2 p148 q148
                        cases e148
                        replace p148 := eq_true p148
                        replace q148 := eq_true q148
                        have p149 : 0 ≤ (x9_2 : Int) := of_decide_eq_true (by first | (with_reducible assumption) | assumption)
                        have q149 : x9_2 < (t144.length : Int) := of_decide_eq_true (by first | (with_reducible assumption) | assumption)
                        obtain ⟨ad149, e149, hx149_0⟩ := Kd.at_int (Kd.R_reads' HO_7.out).2.2 x9_2 p149 q149
                        obtain rfl : ad148 = ad149 := (by injection e149)
                        replace p149 := eq_true p149
                        replace q149 := eq_true q149
                        go_wp2
                        go_roundg k2
                        case measure => have := HJ5.out; have := HK2.out; omega
                        case rel => exact ⟨(wrap64 (x9_2 + 1)), (by first | rfl | (simp; done) | (simp [*]; done)), H', ⟨by have := HJ5.out; have := HK2.out; omega⟩, ⟨by (with_reducible repeat (first | apply Kd.R_alloc | apply Kd.R_drewN | apply Kd.R_drew)); exact HO_7.out⟩, ⟨by repeat (first | (with_reducible first | exact HB.out | apply below_alloc | apply pw_below_drewN | apply below_drew1) | exact HB.out)⟩⟩
                · rw [if_neg c14] at H
                  exact absurd H (by simp)
              · rw [if_neg c13] at H
                have c13b0 : decide ((ji12) ≤ x9_2) = false := decide_eq_false c13
                clear c13
                by_cases c22 : 0 ≤ x9_2
                · rw [if_pos c22] at H
                  have c22b0 : decide (0 ≤ x9_2) = true := decide_eq_true c22
                  clear c22
                  by_cases c23 : (((rd t144 x9_2) == 2) != false) = true
                  · rw [if_pos c23] at H
                    exact absurd H (by simp)
                  · rw [if_neg c23] at H
                    have c23b0 : (((rd t144 x9_2) == 2) != false) = false := by simpa using c23
                    (try (have c23b1 : decide (((rd t144 x9_2) == 2) = false) = true := by simpa using c23))
                    (try (have c23b2 : (((rd t144 x9_2) == 2) == false) = true := by simpa using c23))
                    clear c23
                    by_cases c24 : (rd t144 x9_2) = 0
                    · rw [if_pos c24] at H
                      have c24b0 : ((rd t144 x9_2) == 0) = true := beq_iff_eq.mpr c24
                      have c24b1 : ((rd t144 x9_2) != 0) = false := bne_eq_false_iff_eq.mpr c24
                      clear c24
                      by_cases c25 : x9_2 = (wrap64 ((t144.length : Int) - 1))
                      · rw [if_pos c25] at H
                        have c25b0 : (x9_2 == (wrap64 ((t144.length : Int) - 1))) = true := beq_iff_eq.mpr c25
                        have c25b1 : (x9_2 != (wrap64 ((t144.length : Int) - 1))) = false := bne_eq_false_iff_eq.mpr c25
                        clear c25
                        have H' := Aside0.mk H
                        clear H
                        obtain ⟨Ao26, co26, eo26⟩ := Kd.R_slice HO_7.out
                        subst eo26
                        have p150 : 0 ≤ (x9_2 : Int) := of_decide_eq_true (by first | (with_reducible assumption) | assumption)
                        have q150 : x9_2 < (t144.length : Int) := of_decide_eq_true (by first | (with_reducible assumption) | assumption)
                        obtain ⟨ad150, e150, hx150_0⟩ := Kd.at_int (Kd.R_reads' HO_7.out).2.2 x9_2 p150 q150
                        cases e150
                        replace p150 := eq_true p150
                        replace q150 := eq_true q150
                        have p151 : 0 ≤ (x9_2 : Int) := of_decide_eq_true (by first | (with_reducible assumption) | assumption)
                        have q151 : x9_2 < (t144.length : Int) := of_decide_eq_true (by first | (with_reducible assumption) | assumption)
                        obtain ⟨ad151, e151, hx151_0⟩ := Kd.at_int (Kd.R_reads' HO_7.out).2.2 x9_2 p151 q151
                        obtain rfl : ad150 = ad151 := (by injection e151)
                        replace p151 := eq_true p151
                        replace q151 := eq_true q151
                        go_wp2
                        go_roundg k2
                        case measure => have := HJ5.out; have := HK2.out; omega
                        case rel => exact ⟨(wrap64 (x9_2 + 1)), (by first | rfl | (simp; done) | (simp [*]; done)), H', ⟨by have := HJ5.out; have := HK2.out; omega⟩, ⟨by (with_reducible repeat (first | apply Kd.R_alloc | apply Kd.R_drewN | apply Kd.R_drew)); exact HO_7.out⟩, ⟨by repeat (first | (with_reducible first | exact HB.out | apply below_alloc | apply pw_below_drewN | apply below_drew1) | exact HB.out)⟩⟩
                      · rw [if_neg c25] at H
                        exact absurd H (by simp)
                    · rw [if_neg c24] at H
                      have c24b0 : ((rd t144 x9_2) == 0) = false := beq_eq_false_iff_ne.mpr c24
                      have c24b1 : ((rd t144 x9_2) != 0) = true := bne_iff_ne.mpr c24
                      have H' := Aside0.mk H
                      clear H
                      obtain ⟨Ao27, co27, eo27⟩ := Kd.R_slice HO_7.out
                      subst eo27
                      have p150 : 0 ≤ (x9_2 : Int) := of_decide_eq_true (by first | (with_reducible assumption) | assumption)
                      have q150 : x9_2 < (t144.length : Int) := of_decide_eq_true (by first | (with_reducible assumption) | assumption)
                      obtain ⟨ad150, e150, hx150_0⟩ := Kd.at_int (Kd.R_reads' HO_7.out).2.2 x9_2 p150 q150
                      cases e150
                      replace p150 := eq_true p150
                      replace q150 := eq_true q150
                      have p151 : 0 ≤ (x9_2 : Int) := of_decide_eq_true (by first | (with_reducible assumption) | assumption)
                      have q151 : x9_2 < (t144.length : Int) := of_decide_eq_true (by first | (with_reducible assumption) | assumption)
                      obtain ⟨ad151, e151, hx151_0⟩ := Kd.at_int (Kd.R_reads' HO_7.out).2.2 x9_2 p151 q151
                      obtain rfl : ad150 = ad151 := (by injection e151)
                      replace p151 := eq_true p151
                      replace q151 := eq_true q151
                      go_wp2
                      go_roundg k2
                      case measure => have := HJ5.out; have := HK2.out; omega
                      case rel => exact ⟨(wrap64 (x9_2 + 1)), (by first | rfl | (simp; done) | (simp [*]; done)), H', ⟨by have := HJ5.out; have := HK2.out; omega⟩, ⟨by (with_reducible repeat (first | apply Kd.R_alloc | apply Kd.R_drewN | apply Kd.R_drew)); exact HO_7.out⟩, ⟨by repeat (first | (with_reducible first | exact HB.out | apply below_alloc | apply pw_below_drewN | apply below_drew1) | exact HB.out)⟩⟩
                · rw [if_neg c22] at H
                  exact absurd H (by simp)
            · rw [if_neg c11] at H
              have c11b0 : decide (x9_2 < (t144.length : Int)) = false := decide_eq_false c11
              clear c11
              replace H := Option.bind_eq_some_iff.mp H
              obtain ⟨t152, A280, H⟩ := H
              replace H : (if t152 = true then (some t152) else (none)) = some r := H
              have A28 := Aside0.mk A280
              clear A280
              by_cases c29 : t152 = true
              · subst c29
                have H1 : (some true) = some r := by rw [if_pos rfl] at H; exact H
                clear H
                have H := H1
                clear H1
                obtain rfl := Option.some.inj H
                obtain ⟨Ao30, co30, eo30⟩ := Kd.R_slice HO_7.out
                subst eo30
                go_wp2_with (first | ((with_reducible refine gate_callee (f := 12) rfl ?_); refine goesL_ (some 75) rfl rfl Try.func12 (by kernel_rfl) rfl #[] rfl (by (try simp only [List.map_toArray, List.map_cons, List.map_nil]); first | done | rfl | (simp only [List.length_drop, List.length_take]; rfl)) ?_; (with_reducible refine (tipstafflaw10_awake.calls k2  true _ A28.out).mono ?_); rintro e w31 ⟨rfl, hb⟩; refine ⟨_, rfl, ?_⟩; have n0_ := Aside0.mk (Kd.R_below (by (with_reducible repeat (first | apply Kd.R_alloc | apply Kd.R_drewN | apply Kd.R_drew)); exact HO_7.out) hb); have n1_ := Aside0.mk (below_step (by repeat (first | (with_reducible first | exact HB.out | apply below_alloc | apply pw_below_drewN | apply below_drew1) | exact HB.out)) hb); clear HO_7; clear HB; have HO_7 := n0_; have HB := n1_; clear n0_ n1_; (try clear hb); (try clear hb2); (try clear hk); (try clear hi)))
                go_ret
                exact ⟨by first | rfl | (simp [errW_none, errW_some] <;> rfl) | (simp [*, errW_none, errW_some] <;> rfl), by repeat (first | (with_reducible first | exact HB.out | apply below_alloc | apply pw_below_drewN | apply below_drew1) | exact HB.out)⟩
              · replace c29 := Bool.eq_false_iff.mpr c29
                subst c29
                have H1 : (none) = some r := by rw [if_neg (show ¬ (false = true) by decide)] at H; exact H
                clear H
                have H := H1
                clear H1
                exact absurd H (by simp)

/-- THE ONE PURE STATEMENT of tipstafflaw10_BrakeStates: yours. -/
def tipstafflaw10_BrakeStates.Pure : Prop := ∀ (a0 : Int) (a1 : Int), (Lit.int .i64 a0).wf = true → (Lit.int .i64 a1).wf = true → ∃ k, tipstafflaw10_BrakeStates.f k a0 a1 = some true
theorem tipstafflaw10_BrakeStates.walk (P : tipstafflaw10_BrakeStates.Pure) (a0 : Int) (a1 : Int) (w : World) (w0 : (Lit.int .i64 a0).wf = true) (w1 : (Lit.int .i64 a1).wf = true) :
    Calls Try.prog 3 #[.int .i64 a0, .int .i64 a1] w fun e w' => e = .returned (.bool true) ∧ Below w.heap.size w w' := by
  obtain ⟨k, h⟩ := P a0 a1 w0 w1
  refine (tipstafflaw10_BrakeStates.calls k a0 a1 true w h).mono ?_
  rintro e w' ⟨rfl, hd⟩
  exact ⟨rfl, hd⟩

end Go.Proofs.Ytfibbdbpclkbgaa.P
