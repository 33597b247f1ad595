-- Printed by wip/myprint.py of this repo (over the kit's printer). Not trusted: Lean checks it.
import Derived.Test.YtiahfabhhkpdpaaP0
import Derived.Test.YtiahfabhhkpdpaaLShaftKnown
import Derived.Test.YtiahfabhhkpdpaaP0tipstaffkit
import Derived.Test.YtiahfabhhkpdpaaP0tipstafflaw07
import Derived.Test.YtiahfabhhkpdpaaP2shaft
namespace Go.Proofs.Ytiahfabhhkpdpaa.P
open Go.RowKit Go.Proofs.YtiahfabhhkpdpaaW.PrintWords Go.Proofs.YtiahfabhhkpdpaaW.PrintLast Go.Proofs.YtiahfabhhkpdpaaW.PrintMore
attribute [local go_sem] max2_int min2_int max_two min_two max_three min_three max_four min_four   -- for this text's walks alone
set_option linter.unusedVariables false
set_option linter.unusedSimpArgs false

/-! ### tipstafflaw07_ShaftParts: function 8 -/
def tipstafflaw07_ShaftParts.j0 : Nat → Int → List Int → Int → Bool → Option (Bool)
  | 0, _, _, _, _ => none
  | k + 1, x1, x6, x7, x29 => if x29 = true then (none) else ((tipstaffkit_Mod.f x1 x7).bind fun t470 => ((shaft_Between.f k x6 0 t470).bind fun bt471 => ((shaft_Between.f k x6 (wrap64 (t470 + 1)) x7).bind fun bt475 => ((shaft_Between.f k x6 0 x7).bind fun bt479 => (if bt471.2 = 0 then (if bt475.2 = 0 then (if bt479.2 = 0 then ((tipstaffkit_OwnInts.f bt471.1).bind fun t483 => (if t483.length + bt475.1.length < 17592186044416 then ((tipstaffkit_SameInts.f k (t483 ++ bt475.1) bt479.1).bind fun t489 => (if t489 = true then (some ((bt479.1.length : Int) == (wrap64 ((x6.length : Int) + 1)))) else (none))) else (none))) else (none)) else (none)) else (none))))))
def tipstafflaw07_ShaftParts.f (k : Nat) (l0 : List Int) (a1 : Int) : Option (Bool) := (tipstafflaw07_ShaftKnown.f k).bind fun t464 => (if t464 = true then ((tipstafflaw07_made.f k l0).bind fun t465 => ((shaft_Height.f t465).bind fun bt468 => (if bt468.2 = 0 then (tipstafflaw07_ShaftParts.j0 k a1 t465 bt468.1 (decide (bt468.1 < 1))) else (tipstafflaw07_ShaftParts.j0 k a1 t465 bt468.1 true)))) else (none))
theorem tipstafflaw07_ShaftParts.mono_l : ∀ k, (∀ y0 y1 y2 y3, LeO (tipstafflaw07_ShaftParts.j0 k y0 y1 y2 y3) (tipstafflaw07_ShaftParts.j0 (k + 1) y0 y1 y2 y3))
  | 0 => fun _ _ _ _ r h => by simp [tipstafflaw07_ShaftParts.j0] at h
  | k + 1 => by
    have ih0 := tipstafflaw07_ShaftParts.mono_l k
    · intro y0 y1 y2 y3
      unfold tipstafflaw07_ShaftParts.j0
      repeat' first
      | (with_reducible exact ih0 _ _ _ _)
      | (with_reducible exact shaft_Between.mono _ _ _ _)
      | (with_reducible exact tipstaffkit_SameInts.mono _ _ _)
      | (with_reducible exact tipstafflaw07_ShaftKnown.mono _)
      | (with_reducible exact tipstafflaw07_made.mono _ _)
      | (with_reducible exact LeO.refl _)
      | (with_reducible exact LeO.none _)
      | (with_reducible refine LeO.ite ?_ ?_)
      | (with_reducible refine LeO.bind ?_ (fun _ => ?_))
      | exact ih0 _ _ _ _
      | exact shaft_Between.mono _ _ _ _
      | exact tipstaffkit_SameInts.mono _ _ _
      | exact tipstafflaw07_ShaftKnown.mono _
      | exact tipstafflaw07_made.mono _ _
      | exact LeO.none _
      | refine LeO.ite ?_ ?_
      | refine LeO.bind ?_ (fun _ => ?_)
theorem tipstafflaw07_ShaftParts.mono : ∀ a0 a1 k, LeO (tipstafflaw07_ShaftParts.f k a0 a1) (tipstafflaw07_ShaftParts.f (k + 1) a0 a1) := by
  intro a0 a1 k
  have ih0 := tipstafflaw07_ShaftParts.mono_l k
  unfold tipstafflaw07_ShaftParts.f
  repeat' first
      | (with_reducible exact ih0 _ _ _ _)
      | (with_reducible exact shaft_Between.mono _ _ _ _)
      | (with_reducible exact tipstaffkit_SameInts.mono _ _ _)
      | (with_reducible exact tipstafflaw07_ShaftKnown.mono _)
      | (with_reducible exact tipstafflaw07_made.mono _ _)
      | (with_reducible exact LeO.refl _)
      | (with_reducible exact LeO.none _)
      | (with_reducible refine LeO.ite ?_ ?_)
      | (with_reducible refine LeO.bind ?_ (fun _ => ?_))
      | exact ih0 _ _ _ _
      | exact shaft_Between.mono _ _ _ _
      | exact tipstaffkit_SameInts.mono _ _ _
      | exact tipstafflaw07_ShaftKnown.mono _
      | exact tipstafflaw07_made.mono _ _
      | exact LeO.none _
      | refine LeO.ite ?_ ?_
      | refine LeO.bind ?_ (fun _ => ?_)
set_option maxHeartbeats 8000000 in
set_option maxRecDepth 100000 in
theorem tipstafflaw07_ShaftParts.calls (k : Nat) (A0 : Option Addr) (c0 : Nat) (l0 : List Int) (a1 : Int) (r : Bool) (w : World) (hr0 : Kd.C (Kd.int .i64) w A0 l0.length l0) (hc0 : l0.length ≤ c0) (h : tipstafflaw07_ShaftParts.f k l0 a1 = some r) :
    Calls Try.prog 8 #[.slice A0 l0.length c0, .int .i64 a1] w fun e w' => e = .returned (.bool r) ∧ Below w.heap.size w w' := by
  have HR0 := Aside0.mk hr0
  have HC0 := Aside0.mk hc0
  clear hr0 hc0
  have HB := Aside0.mk (Below.refl w.heap.size w)
  have H : ((tipstafflaw07_ShaftKnown.f k).bind fun t464 => (if t464 = true then ((tipstafflaw07_made.f k l0).bind fun t465 => ((shaft_Height.f t465).bind fun bt468 => (if bt468.2 = 0 then (tipstafflaw07_ShaftParts.j0 k a1 t465 bt468.1 (decide (bt468.1 < 1))) else (tipstafflaw07_ShaftParts.j0 k a1 t465 bt468.1 true)))) else (none))) = some r := h
  clear h
  replace H := Option.bind_eq_some_iff.mp H
  obtain ⟨t464, A30, H⟩ := H
  replace H : (if t464 = true then ((tipstafflaw07_made.f k l0).bind fun t465 => ((shaft_Height.f t465).bind fun bt468 => (if bt468.2 = 0 then (tipstafflaw07_ShaftParts.j0 k a1 t465 bt468.1 (decide (bt468.1 < 1))) else (tipstafflaw07_ShaftParts.j0 k a1 t465 bt468.1 true)))) else (none)) = some r := H
  have A3 := Aside0.mk A30
  clear A30
  by_cases c4 : t464 = true
  · subst c4
    have H1 : ((tipstafflaw07_made.f k l0).bind fun t465 => ((shaft_Height.f t465).bind fun bt468 => (if bt468.2 = 0 then (tipstafflaw07_ShaftParts.j0 k a1 t465 bt468.1 (decide (bt468.1 < 1))) else (tipstafflaw07_ShaftParts.j0 k a1 t465 bt468.1 true)))) = some r := by rw [if_pos rfl] at H; exact H
    clear H
    have H := H1
    clear H1
    replace H := Option.bind_eq_some_iff.mp H
    obtain ⟨t465, A50, H⟩ := H
    replace H : ((shaft_Height.f t465).bind fun bt468 => (if bt468.2 = 0 then (tipstafflaw07_ShaftParts.j0 k a1 t465 bt468.1 (decide (bt468.1 < 1))) else (tipstafflaw07_ShaftParts.j0 k a1 t465 bt468.1 true))) = some r := H
    have A5 := Aside0.mk A50
    clear A50
    replace H := Option.bind_eq_some_iff.mp H
    obtain ⟨⟨t468, t469⟩, A60, H⟩ := H
    replace H : (if t469 = 0 then (tipstafflaw07_ShaftParts.j0 k a1 t465 t468 (decide (t468 < 1))) else (tipstafflaw07_ShaftParts.j0 k a1 t465 t468 true)) = some r := H
    have A6 := Aside0.mk A60
    clear A60
    have HC7 := Aside0.mk H
    clear H
    go_enter Try.func8, Try.ntmps8
    go_upto_region 4 with (first | ((with_reducible refine gate_callee (f := 5) rfl ?_); refine goesL_ (some 16) rfl rfl Try.func5 (by kernel_rfl) rfl #[] rfl (by (try simp only [List.map_toArray, List.map_cons, List.map_nil]); first | done | rfl | (simp only [List.length_drop, List.length_take]; rfl)) ?_; (with_reducible refine (tipstafflaw07_ShaftKnown.calls k  true _ A3.out).mono ?_); rintro e w8 ⟨rfl, hb⟩; refine ⟨_, rfl, ?_⟩; have n0_ := Aside0.mk (below_step (by repeat (first | (with_reducible first | exact HB.out | apply below_alloc | apply pw_below_drewN | apply below_drew1) | exact HB.out)) hb); clear HB; have HB := n0_; clear n0_; (try clear hb); (try clear hb2); (try clear hk); (try clear hi)) | ((with_reducible refine gate_callee (f := 30) rfl ?_); refine goesL_ (some 18) rfl rfl Try.func30 (by kernel_rfl) rfl #[.slice A0 l0.length c0] rfl (by (try simp only [List.map_toArray, List.map_cons, List.map_nil]); first | done | rfl | (simp only [List.length_drop, List.length_take]; rfl)) ?_; (with_reducible refine (tipstafflaw07_made.calls k _ _ l0 t465 _ ?side1 ?side2 A5.out).mono ?_); (case side1 => repeat (first | exact (Kd.C_below HR0.out HB.out) | (with_reducible refine Kd.C_alloc ?_ _) | (with_reducible refine Kd.C_drewN ?_ _) | (with_reducible refine Kd.C_drew ?_))); (case side2 => exact HC0.out); rintro e w9 ⟨v466, rfl, ho0, hb⟩; refine ⟨_, rfl, ?_⟩; have n0_ := Aside0.mk (Kd.R_lower ho0 (below_size (by repeat (first | (with_reducible first | exact HB.out | apply below_alloc | apply pw_below_drewN | apply below_drew1) | exact HB.out)))); have n1_ := Aside0.mk (below_step (by repeat (first | (with_reducible first | exact HB.out | apply below_alloc | apply pw_below_drewN | apply below_drew1) | exact HB.out)) hb); clear HB; have HO467 := n0_; have HB := n1_; clear n0_ n1_; (try clear hb); (try clear hb2); (try clear hk); (try clear hi); (try clear ho0); obtain ⟨Ao10, co10, eo10⟩ := Kd.R_slice HO467.out; subst eo10) | ((with_reducible refine gate_callee (f := 16) rfl ?_); refine goesL_ (some 21) rfl rfl Try.func16 (by kernel_rfl) rfl #[.slice Ao10 t465.length co10] rfl (by (try simp only [List.map_toArray, List.map_cons, List.map_nil]); first | done | rfl | (simp only [List.length_drop, List.length_take]; rfl)) ?_; (with_reducible refine (shaft_Height.calls _ _ t465 t468 t469 _ ?side1 ?side2 A6.out).mono ?_); (case side1 => repeat (first | exact (Kd.R_reads' HO467.out).2.2 | (with_reducible refine Kd.C_alloc ?_ _) | (with_reducible refine Kd.C_drewN ?_ _) | (with_reducible refine Kd.C_drew ?_))); (case side2 => exact (Kd.R_reads' HO467.out).2.1); rintro e w11 ⟨rfl, hb⟩; refine ⟨_, rfl, ?_⟩; have n0_ := Aside0.mk (Kd.R_below (by (with_reducible repeat (first | apply Kd.R_alloc | apply Kd.R_drewN | apply Kd.R_drew)); exact HO467.out) hb); have n1_ := Aside0.mk (below_step (by repeat (first | (with_reducible first | exact HB.out | apply below_alloc | apply pw_below_drewN | apply below_drew1) | exact HB.out)) hb); clear HO467; clear HB; have HO467 := n0_; have HB := n1_; clear n0_ n1_; (try clear hb); (try clear hb2); (try clear hk); (try clear hi)))
    (try simp only [Act.put, List.setIfInBounds_toArray, List.set_cons_zero, List.set_cons_succ])
    go_cut [29] (fun v29 wc => ∃ (kq : Nat) (x29_6 : Bool), v29 = .bool x29_6 ∧ Aside0 (tipstafflaw07_ShaftParts.j0 kq a1 t465 t468 x29_6 = some r) ∧ Aside0 (kq ≤ k) ∧ Aside0 (Kd.R (Kd.int .i64) 3 wc w.heap.size (fun _ => True) (.slice Ao10 t465.length co10) t465) ∧ Aside0 (Below w.heap.size w wc))
    case first =>
      have H := HC7.out
      clear HC7
      by_cases c12 : t469 = 0
      · rw [if_pos c12] at H
        have c12b0 : (t469 == 0) = true := beq_iff_eq.mpr c12
        have c12b1 : (t469 != 0) = false := bne_eq_false_iff_eq.mpr c12
        clear c12
        (first | rw [c12b0] | (simp only [i64_w, i32_w]; rw [c12b0]) | skip)
        have H' := Aside0.mk H
        clear H
        go_wp2
        go_meet
        case rel => exact ⟨_, (decide (t468 < 1)), (by first | rfl | (simp; done) | (simp [*]; done)), H', ⟨by first | omega | exact Nat.le_refl _⟩, ⟨by (with_reducible repeat (first | apply Kd.R_alloc | apply Kd.R_drewN | apply Kd.R_drew)); exact HO467.out⟩, ⟨by repeat (first | (with_reducible first | exact HB.out | apply below_alloc | apply pw_below_drewN | apply below_drew1) | exact HB.out)⟩⟩
      · rw [if_neg c12] at H
        have c12b0 : (t469 == 0) = false := beq_eq_false_iff_ne.mpr c12
        have c12b1 : (t469 != 0) = true := bne_iff_ne.mpr c12
        (first | rw [c12b0] | (simp only [i64_w, i32_w]; rw [c12b0]) | skip)
        have H' := Aside0.mk H
        clear H
        go_wp2
        go_meet
        case rel => exact ⟨_, (true), (by first | rfl | (simp; done) | (simp [*]; done)), H', ⟨by first | omega | exact Nat.le_refl _⟩, ⟨by (with_reducible repeat (first | apply Kd.R_alloc | apply Kd.R_drewN | apply Kd.R_drew)); exact HO467.out⟩, ⟨by repeat (first | (with_reducible first | exact HB.out | apply below_alloc | apply pw_below_drewN | apply below_drew1) | exact HB.out)⟩⟩
    case rest =>
      clear HC7
      try clear c1
      try clear p2
      try clear c3
      try clear c4
      try clear c5
      try clear c8
      try clear c12
      try clear c12b0
      try clear c12b1
      obtain ⟨kq, x29_6, rfl, HA, HJ6, HO_6, HB⟩ := hcut
      cases kq with
      | zero => exact absurd HA.out (by simp [tipstafflaw07_ShaftParts.j0])
      | succ kj6 =>
        have H := HA.out
        clear HA
        simp only [tipstafflaw07_ShaftParts.j0] at H
        by_cases c13 : x29_6 = true
        · subst c13
          have H1 : (none) = some r := by rw [if_pos rfl] at H; exact H
          clear H
          have H := H1
          clear H1
          exact absurd H (by simp)
        · replace c13 := Bool.eq_false_iff.mpr c13
          subst c13
          have H1 : ((tipstaffkit_Mod.f a1 t468).bind fun t470 => ((shaft_Between.f kj6 t465 0 t470).bind fun bt471 => ((shaft_Between.f kj6 t465 (wrap64 (t470 + 1)) t468).bind fun bt475 => ((shaft_Between.f kj6 t465 0 t468).bind fun bt479 => (if bt471.2 = 0 then (if bt475.2 = 0 then (if bt479.2 = 0 then ((tipstaffkit_OwnInts.f bt471.1).bind fun t483 => (if t483.length + bt475.1.length < 17592186044416 then ((tipstaffkit_SameInts.f kj6 (t483 ++ bt475.1) bt479.1).bind fun t489 => (if t489 = true then (some ((bt479.1.length : Int) == (wrap64 ((t465.length : Int) + 1)))) else (none))) else (none))) else (none)) else (none)) else (none)))))) = some r := by rw [if_neg (show ¬ (false = true) by decide)] at H; exact H
          clear H
          have H := H1
          clear H1
          replace H := Option.bind_eq_some_iff.mp H
          obtain ⟨t470, A140, H⟩ := H
          replace H : ((shaft_Between.f kj6 t465 0 t470).bind fun bt471 => ((shaft_Between.f kj6 t465 (wrap64 (t470 + 1)) t468).bind fun bt475 => ((shaft_Between.f kj6 t465 0 t468).bind fun bt479 => (if bt471.2 = 0 then (if bt475.2 = 0 then (if bt479.2 = 0 then ((tipstaffkit_OwnInts.f bt471.1).bind fun t483 => (if t483.length + bt475.1.length < 17592186044416 then ((tipstaffkit_SameInts.f kj6 (t483 ++ bt475.1) bt479.1).bind fun t489 => (if t489 = true then (some ((bt479.1.length : Int) == (wrap64 ((t465.length : Int) + 1)))) else (none))) else (none))) else (none)) else (none)) else (none))))) = some r := H
          have A14 := Aside0.mk A140
          clear A140
          replace H := Option.bind_eq_some_iff.mp H
          obtain ⟨⟨t471, t472⟩, A150, H⟩ := H
          replace H : ((shaft_Between.f kj6 t465 (wrap64 (t470 + 1)) t468).bind fun bt475 => ((shaft_Between.f kj6 t465 0 t468).bind fun bt479 => (if t472 = 0 then (if bt475.2 = 0 then (if bt479.2 = 0 then ((tipstaffkit_OwnInts.f t471).bind fun t483 => (if t483.length + bt475.1.length < 17592186044416 then ((tipstaffkit_SameInts.f kj6 (t483 ++ bt475.1) bt479.1).bind fun t489 => (if t489 = true then (some ((bt479.1.length : Int) == (wrap64 ((t465.length : Int) + 1)))) else (none))) else (none))) else (none)) else (none)) else (none)))) = some r := H
          have A15 := Aside0.mk A150
          clear A150
          replace H := Option.bind_eq_some_iff.mp H
          obtain ⟨⟨t475, t476⟩, A160, H⟩ := H
          replace H : ((shaft_Between.f kj6 t465 0 t468).bind fun bt479 => (if t472 = 0 then (if t476 = 0 then (if bt479.2 = 0 then ((tipstaffkit_OwnInts.f t471).bind fun t483 => (if t483.length + t475.length < 17592186044416 then ((tipstaffkit_SameInts.f kj6 (t483 ++ t475) bt479.1).bind fun t489 => (if t489 = true then (some ((bt479.1.length : Int) == (wrap64 ((t465.length : Int) + 1)))) else (none))) else (none))) else (none)) else (none)) else (none))) = some r := H
          have A16 := Aside0.mk A160
          clear A160
          replace H := Option.bind_eq_some_iff.mp H
          obtain ⟨⟨t479, t480⟩, A170, H⟩ := H
          replace H : (if t472 = 0 then (if t476 = 0 then (if t480 = 0 then ((tipstaffkit_OwnInts.f t471).bind fun t483 => (if t483.length + t475.length < 17592186044416 then ((tipstaffkit_SameInts.f kj6 (t483 ++ t475) t479).bind fun t489 => (if t489 = true then (some ((t479.length : Int) == (wrap64 ((t465.length : Int) + 1)))) else (none))) else (none))) else (none)) else (none)) else (none)) = some r := H
          have A17 := Aside0.mk A170
          clear A170
          by_cases c18 : t472 = 0
          · rw [if_pos c18] at H
            have c18b0 : (t472 == 0) = true := beq_iff_eq.mpr c18
            have c18b1 : (t472 != 0) = false := bne_eq_false_iff_eq.mpr c18
            clear c18
            by_cases c19 : t476 = 0
            · rw [if_pos c19] at H
              have c19b0 : (t476 == 0) = true := beq_iff_eq.mpr c19
              have c19b1 : (t476 != 0) = false := bne_eq_false_iff_eq.mpr c19
              clear c19
              by_cases c20 : t480 = 0
              · rw [if_pos c20] at H
                have c20b0 : (t480 == 0) = true := beq_iff_eq.mpr c20
                have c20b1 : (t480 != 0) = false := bne_eq_false_iff_eq.mpr c20
                clear c20
                replace H := Option.bind_eq_some_iff.mp H
                obtain ⟨t483, A210, H⟩ := H
                replace H : (if t483.length + t475.length < 17592186044416 then ((tipstaffkit_SameInts.f kj6 (t483 ++ t475) t479).bind fun t489 => (if t489 = true then (some ((t479.length : Int) == (wrap64 ((t465.length : Int) + 1)))) else (none))) else (none)) = some r := H
                have A21 := Aside0.mk A210
                clear A210
                by_cases c22 : t483.length + t475.length < 17592186044416
                · rw [if_pos c22] at H
                  have LMc22 := Aside0.mk c22
                  clear c22
                  obtain ⟨y486, hy486⟩ : ∃ y_ : List Int, y_ = (t483 ++ t475) := ⟨_, rfl⟩
                  replace H : ((tipstaffkit_SameInts.f kj6 y486 t479).bind fun t489 => (if t489 = true then (some ((t479.length : Int) == (wrap64 ((t465.length : Int) + 1)))) else (none))) = some r := by first | (rw [hy486]; with_reducible exact H) | (have H2_ := (Option.bind_some _ _).symm.trans H; rw [hy486]; with_reducible exact H2_) | (have H2_ := (Option.bind_some _ _).symm.trans H; with_reducible exact H2_) | with_reducible exact H | (rw [hy486]; exact H) | exact H
                  have Ny486 := Aside0.mk hy486
                  clear hy486
                  replace H := Option.bind_eq_some_iff.mp H
                  obtain ⟨t489, A230, H⟩ := H
                  replace H : (if t489 = true then (some ((t479.length : Int) == (wrap64 ((t465.length : Int) + 1)))) else (none)) = some r := H
                  have A23 := Aside0.mk A230
                  clear A230
                  by_cases c24 : t489 = true
                  · subst c24
                    have H1 : (some ((t479.length : Int) == (wrap64 ((t465.length : Int) + 1)))) = some r := by rw [if_pos rfl] at H; exact H
                    clear H
                    have H := H1
                    clear H1
                    obtain rfl := Option.some.inj H
                    go_wp2_with (first | ((with_reducible refine gate_callee (f := 31) rfl ?_); refine goesL_ (some 32) rfl rfl Try.func31 (by kernel_rfl) rfl #[.int .i64 a1, .int .i64 t468] rfl (by (try simp only [List.map_toArray, List.map_cons, List.map_nil]); first | done | rfl | (simp only [List.length_drop, List.length_take]; rfl)) ?_; (with_reducible refine (tipstaffkit_Mod.calls a1 t468 t470 _ A14.out).mono ?_); rintro e w' ⟨rfl, ⟨nd, rfl⟩⟩; refine ⟨_, rfl, ?_⟩) | ((with_reducible refine gate_callee (f := 26) rfl ?_); refine goesL_ (some 36) rfl rfl Try.func26 (by kernel_rfl) rfl #[.slice Ao10 t465.length co10, .int .i64 0, .int .i64 t470] rfl (by (try simp only [List.map_toArray, List.map_cons, List.map_nil]); first | done | rfl | (simp only [List.length_drop, List.length_take]; rfl)) ?_; (with_reducible refine (shaft_Between.calls kj6 _ _ t465 0 t470 t471 t472 _ ?side1 ?side2 A15.out).mono ?_); (case side1 => repeat (first | exact (Kd.R_reads' HO_6.out).2.2 | (with_reducible refine Kd.C_alloc ?_ _) | (with_reducible refine Kd.C_drewN ?_ _) | (with_reducible refine Kd.C_drew ?_))); (case side2 => exact (Kd.R_reads' HO_6.out).2.1); rintro e w25 ⟨v473, rfl, ho0, hb⟩; refine ⟨_, rfl, ?_⟩; have n0_ := Aside0.mk (Kd.R_elder' (by (with_reducible repeat (first | apply Kd.R_alloc | apply Kd.R_drewN | apply Kd.R_drew)); exact HO_6.out) (Kd.R_base ho0) hb); have n1_ := Aside0.mk (Kd.R_lower (Kd.R_new' ho0 (Kd.R_lt (by (with_reducible repeat (first | apply Kd.R_alloc | apply Kd.R_drewN | apply Kd.R_drew)); exact HO_6.out))) (below_size (by repeat (first | (with_reducible first | exact HB.out | apply below_alloc | apply pw_below_drewN | apply below_drew1) | exact HB.out)))); have n2_ := Aside0.mk (below_step (by repeat (first | (with_reducible first | exact HB.out | apply below_alloc | apply pw_below_drewN | apply below_drew1) | exact HB.out)) hb); clear HO_6; clear HB; have HO_6 := n0_; have HO474 := n1_; have HB := n2_; clear n0_ n1_ n2_; (try clear hb); (try clear hb2); (try clear hk); (try clear hi); (try clear ho0)) | ((with_reducible refine gate_callee (f := 26) rfl ?_); refine goesL_ (some 44) rfl rfl Try.func26 (by kernel_rfl) rfl #[.slice Ao10 t465.length co10, .int .i64 (wrap64 (t470 + 1)), .int .i64 t468] rfl (by (try simp only [List.map_toArray, List.map_cons, List.map_nil]); first | done | rfl | (simp only [List.length_drop, List.length_take]; rfl)) ?_; (with_reducible refine (shaft_Between.calls kj6 _ _ t465 (wrap64 (t470 + 1)) t468 t475 t476 _ ?side1 ?side2 A16.out).mono ?_); (case side1 => repeat (first | exact (Kd.R_reads' HO_6.out).2.2 | (with_reducible refine Kd.C_alloc ?_ _) | (with_reducible refine Kd.C_drewN ?_ _) | (with_reducible refine Kd.C_drew ?_))); (case side2 => exact (Kd.R_reads' HO_6.out).2.1); rintro e w26 ⟨v477, rfl, ho0, hb⟩; refine ⟨_, rfl, ?_⟩; have n0_ := Aside0.mk (Kd.R_elder' (by (with_reducible repeat (first | apply Kd.R_alloc | apply Kd.R_drewN | apply Kd.R_drew)); exact HO_6.out) (Kd.R_base ho0) hb); have n1_ := Aside0.mk (Kd.R_elder' (by (with_reducible repeat (first | apply Kd.R_alloc | apply Kd.R_drewN | apply Kd.R_drew)); exact HO474.out) (Kd.R_base ho0) hb); have n2_ := Aside0.mk (Kd.R_lower (Kd.R_new' (Kd.R_new' ho0 (Kd.R_lt (by (with_reducible repeat (first | apply Kd.R_alloc | apply Kd.R_drewN | apply Kd.R_drew)); exact HO_6.out))) (Kd.R_lt (by (with_reducible repeat (first | apply Kd.R_alloc | apply Kd.R_drewN | apply Kd.R_drew)); exact HO474.out))) (below_size (by repeat (first | (with_reducible first | exact HB.out | apply below_alloc | apply pw_below_drewN | apply below_drew1) | exact HB.out)))); have n3_ := Aside0.mk (below_step (by repeat (first | (with_reducible first | exact HB.out | apply below_alloc | apply pw_below_drewN | apply below_drew1) | exact HB.out)) hb); clear HO_6; clear HO474; clear HB; have HO_6 := n0_; have HO474 := n1_; have HO478 := n2_; have HB := n3_; clear n0_ n1_ n2_ n3_; (try clear hb); (try clear hb2); (try clear hk); (try clear hi); (try clear ho0)) | ((with_reducible refine gate_callee (f := 26) rfl ?_); refine goesL_ (some 50) rfl rfl Try.func26 (by kernel_rfl) rfl #[.slice Ao10 t465.length co10, .int .i64 0, .int .i64 t468] rfl (by (try simp only [List.map_toArray, List.map_cons, List.map_nil]); first | done | rfl | (simp only [List.length_drop, List.length_take]; rfl)) ?_; (with_reducible refine (shaft_Between.calls kj6 _ _ t465 0 t468 t479 t480 _ ?side1 ?side2 A17.out).mono ?_); (case side1 => repeat (first | exact (Kd.R_reads' HO_6.out).2.2 | (with_reducible refine Kd.C_alloc ?_ _) | (with_reducible refine Kd.C_drewN ?_ _) | (with_reducible refine Kd.C_drew ?_))); (case side2 => exact (Kd.R_reads' HO_6.out).2.1); rintro e w27 ⟨v481, rfl, ho0, hb⟩; refine ⟨_, rfl, ?_⟩; have n0_ := Aside0.mk (Kd.R_elder' (by (with_reducible repeat (first | apply Kd.R_alloc | apply Kd.R_drewN | apply Kd.R_drew)); exact HO_6.out) (Kd.R_base ho0) hb); have n1_ := Aside0.mk (Kd.R_elder' (by (with_reducible repeat (first | apply Kd.R_alloc | apply Kd.R_drewN | apply Kd.R_drew)); exact HO474.out) (Kd.R_base ho0) hb); have n2_ := Aside0.mk (Kd.R_elder' (by (with_reducible repeat (first | apply Kd.R_alloc | apply Kd.R_drewN | apply Kd.R_drew)); exact HO478.out) (Kd.R_base ho0) hb); have n3_ := Aside0.mk (Kd.R_lower (Kd.R_new' (Kd.R_new' (Kd.R_new' ho0 (Kd.R_lt (by (with_reducible repeat (first | apply Kd.R_alloc | apply Kd.R_drewN | apply Kd.R_drew)); exact HO_6.out))) (Kd.R_lt (by (with_reducible repeat (first | apply Kd.R_alloc | apply Kd.R_drewN | apply Kd.R_drew)); exact HO474.out))) (Kd.R_lt (by (with_reducible repeat (first | apply Kd.R_alloc | apply Kd.R_drewN | apply Kd.R_drew)); exact HO478.out))) (below_size (by repeat (first | (with_reducible first | exact HB.out | apply below_alloc | apply pw_below_drewN | apply below_drew1) | exact HB.out)))); have n4_ := Aside0.mk (below_step (by repeat (first | (with_reducible first | exact HB.out | apply below_alloc | apply pw_below_drewN | apply below_drew1) | exact HB.out)) hb); clear HO_6; clear HO474; clear HO478; clear HB; have HO_6 := n0_; have HO474 := n1_; have HO478 := n2_; have HO482 := n3_; have HB := n4_; clear n0_ n1_ n2_ n3_ n4_; (try clear hb); (try clear hb2); (try clear hk); (try clear hi); (try clear ho0); obtain ⟨Ao28, co28, eo28⟩ := Kd.R_slice HO474.out; subst eo28) | (go_at_call 10; (with_reducible refine (tipstaffkit_OwnInts.calls _ _ t471 t483 _ ?side1 ?side2 A21.out).mono ?_); (case side1 => repeat (first | exact (Kd.R_reads' HO474.out).2.2 | (with_reducible refine Kd.C_alloc ?_ _) | (with_reducible refine Kd.C_drewN ?_ _) | (with_reducible refine Kd.C_drew ?_))); (case side2 => exact (Kd.R_reads' HO474.out).2.1); rintro e w29 ⟨v484, rfl, ho0, hb⟩; have n0_ := Aside0.mk (Kd.R_elder' (by (with_reducible repeat (first | apply Kd.R_alloc | apply Kd.R_drewN | apply Kd.R_drew)); exact HO_6.out) (Kd.R_base ho0) hb); have n1_ := Aside0.mk (Kd.R_elder' (by (with_reducible repeat (first | apply Kd.R_alloc | apply Kd.R_drewN | apply Kd.R_drew)); exact HO474.out) (Kd.R_base ho0) hb); have n2_ := Aside0.mk (Kd.R_elder' (by (with_reducible repeat (first | apply Kd.R_alloc | apply Kd.R_drewN | apply Kd.R_drew)); exact HO478.out) (Kd.R_base ho0) hb); have n3_ := Aside0.mk (Kd.R_elder' (by (with_reducible repeat (first | apply Kd.R_alloc | apply Kd.R_drewN | apply Kd.R_drew)); exact HO482.out) (Kd.R_base ho0) hb); have n4_ := Aside0.mk (Kd.R_lower (Kd.R_new' (Kd.R_new' (Kd.R_new' (Kd.R_new' ho0 (Kd.R_lt (by (with_reducible repeat (first | apply Kd.R_alloc | apply Kd.R_drewN | apply Kd.R_drew)); exact HO_6.out))) (Kd.R_lt (by (with_reducible repeat (first | apply Kd.R_alloc | apply Kd.R_drewN | apply Kd.R_drew)); exact HO474.out))) (Kd.R_lt (by (with_reducible repeat (first | apply Kd.R_alloc | apply Kd.R_drewN | apply Kd.R_drew)); exact HO478.out))) (Kd.R_lt (by (with_reducible repeat (first | apply Kd.R_alloc | apply Kd.R_drewN | apply Kd.R_drew)); exact HO482.out))) (below_size (by repeat (first | (with_reducible first | exact HB.out | apply below_alloc | apply pw_below_drewN | apply below_drew1) | exact HB.out)))); have n5_ := Aside0.mk (below_step (by repeat (first | (with_reducible first | exact HB.out | apply below_alloc | apply pw_below_drewN | apply below_drew1) | exact HB.out)) hb); clear HO_6; clear HO474; clear HO478; clear HO482; clear HB; have HO_6 := n0_; have HO474 := n1_; have HO478 := n2_; have HO482 := n3_; have HO485 := n4_; have HB := n5_; clear n0_ n1_ n2_ n3_ n4_ n5_; (try clear hb); (try clear hb2); (try clear hk); (try clear hi); (try clear ho0); obtain ⟨Ao31, co31, eo31⟩ := Kd.R_slice HO478.out; subst eo31) | ((with_reducible refine gate_builtin (b := .append) (xs := #[.tmp 68, .tmp 69]) rfl ?_); (try (refine gate_guard (by rfl) ?_; dsimp only)); at_builtin; refine Kd.R_append_rows (Kd.int .i64) (w0 := w) w.heap.size rfl (.tmp 68) (.tmp 69) 22 3 (.int .i64 0) 8 rfl Try.underlying22 info3 rfl (by decide) (by omega) v484 t483 t475 _ _ _ (fun k_ => some k_ ≠ (.slice Ao10 t465.length co10 : Value).ownBlock ∧ some k_ ≠ (.slice Ao28 t471.length co28 : Value).ownBlock ∧ some k_ ≠ (.slice Ao31 t475.length co31 : Value).ownBlock ∧ some k_ ≠ (v481 : Value).ownBlock) (fun _ => False) rfl rfl ?aO ?aR (fun _ _ h => h) (fun _ h => h.elim) ?aF ?aB ?aS ?aL ?_; (case aR => repeat (first | exact (Kd.R_reads' HO478.out).2.2 | (with_reducible refine Kd.C_alloc ?_ _) | (with_reducible refine Kd.C_drewN ?_ _) | (with_reducible refine Kd.C_drew ?_))); (case aB => exact (by repeat (first | (with_reducible first | exact HB.out | apply below_alloc | apply pw_below_drewN | apply below_drew1) | exact HB.out))); (case aF => exact (fun k_ hk => ⟨Kd.fresh' (Kd.R_lt (by (with_reducible repeat (first | apply Kd.R_alloc | apply Kd.R_drewN | apply Kd.R_drew)); exact HO_6.out)) k_ hk, Kd.fresh' (Kd.R_lt (by (with_reducible repeat (first | apply Kd.R_alloc | apply Kd.R_drewN | apply Kd.R_drew)); exact HO474.out)) k_ hk, Kd.fresh' (Kd.R_lt (by (with_reducible repeat (first | apply Kd.R_alloc | apply Kd.R_drewN | apply Kd.R_drew)); exact HO478.out)) k_ hk, Kd.fresh' (Kd.R_lt (by (with_reducible repeat (first | apply Kd.R_alloc | apply Kd.R_drewN | apply Kd.R_drew)); exact HO482.out)) k_ hk⟩)); (case aO => exact (by (with_reducible repeat (first | apply Kd.R_alloc | apply Kd.R_drewN | apply Kd.R_drew)); exact Kd.R_mono HO485.out (fun _ hk => ⟨hk.1.1.1.2, ⟨hk.1.1.2, ⟨hk.1.2, hk.2⟩⟩⟩))); (case aS => exact (below_size (by repeat (first | (with_reducible first | exact HB.out | apply below_alloc | apply pw_below_drewN | apply below_drew1) | exact HB.out)))); (case aL => have := LMc22.out; omega); intro v487 w30 ho hb hg hat; rw [← Ny486.out] at ho; have n0_ := Aside0.mk (Kd.R_after (ok := (fun k_ => some k_ ≠ (.slice Ao28 t471.length co28 : Value).ownBlock ∧ some k_ ≠ (.slice Ao31 t475.length co31 : Value).ownBlock ∧ some k_ ≠ (v481 : Value).ownBlock)) (by (with_reducible repeat (first | apply Kd.R_alloc | apply Kd.R_drewN | apply Kd.R_drew)); exact Kd.R_mono HO_6.out (fun _ hk => ⟨⟨hk.1.1.1.2, ⟨hk.1.1.2, hk.1.2⟩⟩, hk.2⟩)) hg hat); have n1_ := Aside0.mk (Kd.R_after (ok := (fun k_ => some k_ ≠ (.slice Ao10 t465.length co10 : Value).ownBlock ∧ some k_ ≠ (.slice Ao31 t475.length co31 : Value).ownBlock ∧ some k_ ≠ (v481 : Value).ownBlock)) (by (with_reducible repeat (first | apply Kd.R_alloc | apply Kd.R_drewN | apply Kd.R_drew)); exact Kd.R_mono HO474.out (fun _ hk => ⟨⟨hk.1.1.1.2, ⟨hk.1.1.2, hk.1.2⟩⟩, hk.2⟩)) hg hat); have n2_ := Aside0.mk (Kd.R_after (ok := (fun k_ => some k_ ≠ (.slice Ao10 t465.length co10 : Value).ownBlock ∧ some k_ ≠ (.slice Ao28 t471.length co28 : Value).ownBlock ∧ some k_ ≠ (v481 : Value).ownBlock)) (by (with_reducible repeat (first | apply Kd.R_alloc | apply Kd.R_drewN | apply Kd.R_drew)); exact Kd.R_mono HO478.out (fun _ hk => ⟨⟨hk.1.1.1.2, ⟨hk.1.1.2, hk.1.2⟩⟩, hk.2⟩)) hg hat); have n3_ := Aside0.mk (Kd.R_after (ok := (fun k_ => some k_ ≠ (.slice Ao10 t465.length co10 : Value).ownBlock ∧ some k_ ≠ (.slice Ao28 t471.length co28 : Value).ownBlock ∧ some k_ ≠ (.slice Ao31 t475.length co31 : Value).ownBlock)) (by (with_reducible repeat (first | apply Kd.R_alloc | apply Kd.R_drewN | apply Kd.R_drew)); exact Kd.R_mono HO482.out (fun _ hk => ⟨⟨hk.1.1.1.2, ⟨hk.1.1.2, hk.1.2⟩⟩, hk.2⟩)) hg hat); have n4_ := Aside0.mk (hb); have n5_ := Aside0.mk (ho); clear HO_6; clear HO474; clear HO478; clear HO482; clear HB; clear HO485; have HO_6 := n0_; have HO474 := n1_; have HO478 := n2_; have HO482 := n3_; have HB := n4_; have HO488 := n5_; clear n0_ n1_ n2_ n3_ n4_ n5_; clear ho hb hg hat; obtain ⟨Ao32, co32, eo32⟩ := Kd.R_slice HO488.out; subst eo32; obtain ⟨Ao33, co33, eo33⟩ := Kd.R_slice HO482.out; subst eo33) | (go_at_call 15; (with_reducible refine (tipstaffkit_SameInts.calls kj6 _ _ y486 _ _ t479 true _ ?side1 ?side2 ?side3 ?side4 A23.out).mono ?_); (case side1 => repeat (first | exact (Kd.R_reads' HO488.out).2.2 | (with_reducible refine Kd.C_alloc ?_ _) | (with_reducible refine Kd.C_drewN ?_ _) | (with_reducible refine Kd.C_drew ?_))); (case side2 => exact (Kd.R_reads' HO488.out).2.1); (case side3 => repeat (first | exact (Kd.R_reads' HO482.out).2.2 | (with_reducible refine Kd.C_alloc ?_ _) | (with_reducible refine Kd.C_drewN ?_ _) | (with_reducible refine Kd.C_drew ?_))); (case side4 => exact (Kd.R_reads' HO482.out).2.1); rintro e w' ⟨rfl, ⟨nd, rfl⟩⟩))
                    go_ret
                    exact ⟨by first | rfl | (simp [errW_none, errW_some] <;> rfl) | (simp [*, errW_none, errW_some] <;> rfl), by repeat (first | (with_reducible first | exact HB.out | apply below_alloc | apply pw_below_drewN | apply below_drew1) | exact HB.out)⟩
                  · replace c24 := Bool.eq_false_iff.mpr c24
                    subst c24
                    have H1 : (none) = some r := by rw [if_neg (show ¬ (false = true) by decide)] at H; exact H
                    clear H
                    have H := H1
                    clear H1
                    exact absurd H (by simp)
                · rw [if_neg c22] at H
                  exact absurd H (by simp)
              · rw [if_neg c20] at H
                exact absurd H (by simp)
            · rw [if_neg c19] at H
              exact absurd H (by simp)
          · rw [if_neg c18] at H
            exact absurd H (by simp)
  · replace c4 := Bool.eq_false_iff.mpr c4
    subst c4
    have H1 : (none) = some r := by rw [if_neg (show ¬ (false = true) by decide)] at H; exact H
    clear H
    have H := H1
    clear H1
    exact absurd H (by simp)

/-- THE ONE PURE STATEMENT of tipstafflaw07_ShaftParts: yours. -/
def tipstafflaw07_ShaftParts.Pure : Prop := ∀ (l0 : List Int) (a1 : Int), l0.length ≤ maxLen → l0.length * 8 ≤ 140737488351232 → (∀ x ∈ l0, (Lit.int .i64 x).wf = true) → (Lit.int .i64 a1).wf = true → ∃ k, tipstafflaw07_ShaftParts.f k l0 a1 = some true
theorem tipstafflaw07_ShaftParts.walk (P : tipstafflaw07_ShaftParts.Pure) (a0 : Option Addr) (len0 cap0 : Nat) (z0 : List Int) (a1 : Int) (w : World) (w0 : (a0 = none ∧ len0 = 0 ∧ cap0 = 0 ∧ z0 = []) ∨ ∃ x, a0 = some x ∧ len0 ≤ cap0 ∧ cap0 ≤ maxLen ∧ z0.length = cap0 ∧ (∀ i, i < z0.length → w.cell? (x.add i) = some (.int .i64 (z0.getD i 0))) ∧ ∀ n ∈ z0, (Lit.int .i64 n).wf = true) (y0 : len0 * 8 ≤ 140737488351232) (w1 : (Lit.int .i64 a1).wf = true) :
    Calls Try.prog 8 #[.slice a0 len0 cap0, .int .i64 a1] w fun e w' => e = .returned (.bool true) ∧ Below w.heap.size w w' := by
  obtain ⟨l0, rfl, hr0, hm0, hw0, hc0⟩ := ReadsInt.ofRowC w0
  obtain ⟨k, h⟩ := P l0 a1 hm0 y0 hw0 w1
  refine (tipstafflaw07_ShaftParts.calls k _ _ l0 a1 true w (Kd.C_of_reads (d := (0 : Int)) (h1 := fun _ => rfl) hr0) hc0 h).mono ?_
  rintro e w' ⟨rfl, hd⟩
  exact ⟨rfl, hd⟩

end Go.Proofs.Ytiahfabhhkpdpaa.P
