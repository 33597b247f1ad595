-- Printed by wip/myprint.py of this repo (over the kit's printer). Not trusted: Lean checks it.
import Derived.Test.YtlkphdcfgaolnaaP0
import Derived.Test.YtlkphdcfgaolnaaLSensorKnown
import Derived.Test.YtlkphdcfgaolnaaP0sensor
import Derived.Test.YtlkphdcfgaolnaaP0tipstaffkit
import Derived.Test.YtlkphdcfgaolnaaP0tipstafflaw12
namespace Go.Proofs.Ytlkphdcfgaolnaa.P
open Go.RowKit Go.Proofs.YtlkphdcfgaolnaaW.PrintWords Go.Proofs.YtlkphdcfgaolnaaW.PrintLast Go.Proofs.YtlkphdcfgaolnaaW.PrintMore
attribute [local go_sem] cell_same1 cell_some1
attribute [local go_sem] max2_int min2_int max_two min_two max_three min_three max_four min_four   -- for this text's walks alone
set_option linter.unusedVariables false
set_option linter.unusedSimpArgs false

/-! ### q_SensorJoins: function 9 -/
def q_SensorJoins.f (k : Nat) (l0 : List Int) (l1 : List Int) (a2 : Int) : Option (Bool) := (q_SensorKnown.f k).bind fun t641 => (if t641 = true then ((kit_Mod.f a2 3).bind fun t642 => ((q_entries.f k l0).bind fun t643 => ((q_entries.f k l1).bind fun t646 => ((sensor_Faults.f k t643 (wrap64 (1 + t642))).bind fun bt649 => ((sensor_Faults.f k t646 (wrap64 (1 + t642))).bind fun bt653 => ((some (([] : List (S68)) : List (S68))).bind fun y657 => (if y657.length + t643.length < 2199023255552 then ((some (y657 ++ t643 : List (S68))).bind fun y660 => (if y660.length + t646.length < 2199023255552 then ((sensor_Faults.f k (y660 ++ t646) (wrap64 (1 + t642))).bind fun bt666 => ((sensor_Works.f k t643 (wrap64 (1 + t642))).bind fun bt670 => (if bt649.2 = 0 then (if bt653.2 = 0 then (if bt666.2 = 0 then (if bt670.2 = 0 then ((kit_Has.f k bt649.1 5).bind fun t672 => (if (bt670.1 != t672) = true then ((kit_OwnInts.f bt649.1).bind fun t673 => (if t673.length + bt653.1.length < 17592186044416 then ((kit_SameInts.f k (t673 ++ bt653.1) bt666.1).bind fun t679 => (some t679)) else (none))) else (none))) else (none)) else (none)) else (none)) else (none)))) else (none))) else (none)))))))) else (none))
theorem q_SensorJoins.mono : ∀ a0 a1 a2 k, LeO (q_SensorJoins.f k a0 a1 a2) (q_SensorJoins.f (k + 1) a0 a1 a2) := by
  intro a0 a1 a2 k
  unfold q_SensorJoins.f
  repeat' first
      | (with_reducible exact sensor_Faults.mono _ _ _)
      | (with_reducible exact sensor_Works.mono _ _ _)
      | (with_reducible exact kit_Has.mono _ _ _)
      | (with_reducible exact kit_SameInts.mono _ _ _)
      | (with_reducible exact q_SensorKnown.mono _)
      | (with_reducible exact q_entries.mono _ _)
      | (with_reducible exact LeO.refl _)
      | (with_reducible exact LeO.none _)
      | (with_reducible refine LeO.ite ?_ ?_)
      | (with_reducible refine LeO.bind ?_ (fun _ => ?_))
      | exact sensor_Faults.mono _ _ _
      | exact sensor_Works.mono _ _ _
      | exact kit_Has.mono _ _ _
      | exact kit_SameInts.mono _ _ _
      | exact q_SensorKnown.mono _
      | exact q_entries.mono _ _
      | exact LeO.none _
      | refine LeO.ite ?_ ?_
      | refine LeO.bind ?_ (fun _ => ?_)
set_option maxHeartbeats 8000000 in
set_option maxRecDepth 100000 in
theorem q_SensorJoins.calls (k : Nat) (A0 : Option Addr) (c0 : Nat) (l0 : List Int) (A1 : Option Addr) (c1 : Nat) (l1 : List Int) (a2 : Int) (r : Bool) (w : World) (hr0 : Kd.C (Kd.int .i64) w A0 l0.length l0) (hc0 : l0.length ≤ c0) (hr1 : Kd.C (Kd.int .i64) w A1 l1.length l1) (hc1 : l1.length ≤ c1) (h : q_SensorJoins.f k l0 l1 a2 = some r) :
    Calls Try.prog 9 #[.slice A0 l0.length c0, .slice A1 l1.length c1, .int .i64 a2] w fun e w' => e = .returned (.bool r) ∧ Below w.heap.size w w' := by
  have HR0 := Aside0.mk hr0
  have HC0 := Aside0.mk hc0
  clear hr0 hc0
  have HR1 := Aside0.mk hr1
  have HC1 := Aside0.mk hc1
  clear hr1 hc1
  have HB := Aside0.mk (Below.refl w.heap.size w)
  have H : ((q_SensorKnown.f k).bind fun t641 => (if t641 = true then ((kit_Mod.f a2 3).bind fun t642 => ((q_entries.f k l0).bind fun t643 => ((q_entries.f k l1).bind fun t646 => ((sensor_Faults.f k t643 (wrap64 (1 + t642))).bind fun bt649 => ((sensor_Faults.f k t646 (wrap64 (1 + t642))).bind fun bt653 => ((some (([] : List (S68)) : List (S68))).bind fun y657 => (if y657.length + t643.length < 2199023255552 then ((some (y657 ++ t643 : List (S68))).bind fun y660 => (if y660.length + t646.length < 2199023255552 then ((sensor_Faults.f k (y660 ++ t646) (wrap64 (1 + t642))).bind fun bt666 => ((sensor_Works.f k t643 (wrap64 (1 + t642))).bind fun bt670 => (if bt649.2 = 0 then (if bt653.2 = 0 then (if bt666.2 = 0 then (if bt670.2 = 0 then ((kit_Has.f k bt649.1 5).bind fun t672 => (if (bt670.1 != t672) = true then ((kit_OwnInts.f bt649.1).bind fun t673 => (if t673.length + bt653.1.length < 17592186044416 then ((kit_SameInts.f k (t673 ++ bt653.1) bt666.1).bind fun t679 => (some t679)) else (none))) else (none))) else (none)) else (none)) else (none)) else (none)))) else (none))) else (none)))))))) else (none))) = some r := h
  clear h
  replace H := Option.bind_eq_some_iff.mp H
  obtain ⟨t641, A40, H⟩ := H
  replace H : (if t641 = true then ((kit_Mod.f a2 3).bind fun t642 => ((q_entries.f k l0).bind fun t643 => ((q_entries.f k l1).bind fun t646 => ((sensor_Faults.f k t643 (wrap64 (1 + t642))).bind fun bt649 => ((sensor_Faults.f k t646 (wrap64 (1 + t642))).bind fun bt653 => ((some (([] : List (S68)) : List (S68))).bind fun y657 => (if y657.length + t643.length < 2199023255552 then ((some (y657 ++ t643 : List (S68))).bind fun y660 => (if y660.length + t646.length < 2199023255552 then ((sensor_Faults.f k (y660 ++ t646) (wrap64 (1 + t642))).bind fun bt666 => ((sensor_Works.f k t643 (wrap64 (1 + t642))).bind fun bt670 => (if bt649.2 = 0 then (if bt653.2 = 0 then (if bt666.2 = 0 then (if bt670.2 = 0 then ((kit_Has.f k bt649.1 5).bind fun t672 => (if (bt670.1 != t672) = true then ((kit_OwnInts.f bt649.1).bind fun t673 => (if t673.length + bt653.1.length < 17592186044416 then ((kit_SameInts.f k (t673 ++ bt653.1) bt666.1).bind fun t679 => (some t679)) else (none))) else (none))) else (none)) else (none)) else (none)) else (none)))) else (none))) else (none)))))))) else (none)) = some r := H
  have A4 := Aside0.mk A40
  clear A40
  by_cases c5 : t641 = true
  · subst c5
    have H1 : ((kit_Mod.f a2 3).bind fun t642 => ((q_entries.f k l0).bind fun t643 => ((q_entries.f k l1).bind fun t646 => ((sensor_Faults.f k t643 (wrap64 (1 + t642))).bind fun bt649 => ((sensor_Faults.f k t646 (wrap64 (1 + t642))).bind fun bt653 => ((some (([] : List (S68)) : List (S68))).bind fun y657 => (if y657.length + t643.length < 2199023255552 then ((some (y657 ++ t643 : List (S68))).bind fun y660 => (if y660.length + t646.length < 2199023255552 then ((sensor_Faults.f k (y660 ++ t646) (wrap64 (1 + t642))).bind fun bt666 => ((sensor_Works.f k t643 (wrap64 (1 + t642))).bind fun bt670 => (if bt649.2 = 0 then (if bt653.2 = 0 then (if bt666.2 = 0 then (if bt670.2 = 0 then ((kit_Has.f k bt649.1 5).bind fun t672 => (if (bt670.1 != t672) = true then ((kit_OwnInts.f bt649.1).bind fun t673 => (if t673.length + bt653.1.length < 17592186044416 then ((kit_SameInts.f k (t673 ++ bt653.1) bt666.1).bind fun t679 => (some t679)) else (none))) else (none))) else (none)) else (none)) else (none)) else (none)))) else (none))) else (none)))))))) = some r := by rw [if_pos rfl] at H; exact H
    clear H
    have H := H1
    clear H1
    replace H := Option.bind_eq_some_iff.mp H
    obtain ⟨t642, A60, H⟩ := H
    replace H : ((q_entries.f k l0).bind fun t643 => ((q_entries.f k l1).bind fun t646 => ((sensor_Faults.f k t643 (wrap64 (1 + t642))).bind fun bt649 => ((sensor_Faults.f k t646 (wrap64 (1 + t642))).bind fun bt653 => ((some (([] : List (S68)) : List (S68))).bind fun y657 => (if y657.length + t643.length < 2199023255552 then ((some (y657 ++ t643 : List (S68))).bind fun y660 => (if y660.length + t646.length < 2199023255552 then ((sensor_Faults.f k (y660 ++ t646) (wrap64 (1 + t642))).bind fun bt666 => ((sensor_Works.f k t643 (wrap64 (1 + t642))).bind fun bt670 => (if bt649.2 = 0 then (if bt653.2 = 0 then (if bt666.2 = 0 then (if bt670.2 = 0 then ((kit_Has.f k bt649.1 5).bind fun t672 => (if (bt670.1 != t672) = true then ((kit_OwnInts.f bt649.1).bind fun t673 => (if t673.length + bt653.1.length < 17592186044416 then ((kit_SameInts.f k (t673 ++ bt653.1) bt666.1).bind fun t679 => (some t679)) else (none))) else (none))) else (none)) else (none)) else (none)) else (none)))) else (none))) else (none))))))) = some r := H
    have A6 := Aside0.mk A60
    clear A60
    replace H := Option.bind_eq_some_iff.mp H
    obtain ⟨t643, A70, H⟩ := H
    replace H : ((q_entries.f k l1).bind fun t646 => ((sensor_Faults.f k t643 (wrap64 (1 + t642))).bind fun bt649 => ((sensor_Faults.f k t646 (wrap64 (1 + t642))).bind fun bt653 => ((some (([] : List (S68)) : List (S68))).bind fun y657 => (if y657.length + t643.length < 2199023255552 then ((some (y657 ++ t643 : List (S68))).bind fun y660 => (if y660.length + t646.length < 2199023255552 then ((sensor_Faults.f k (y660 ++ t646) (wrap64 (1 + t642))).bind fun bt666 => ((sensor_Works.f k t643 (wrap64 (1 + t642))).bind fun bt670 => (if bt649.2 = 0 then (if bt653.2 = 0 then (if bt666.2 = 0 then (if bt670.2 = 0 then ((kit_Has.f k bt649.1 5).bind fun t672 => (if (bt670.1 != t672) = true then ((kit_OwnInts.f bt649.1).bind fun t673 => (if t673.length + bt653.1.length < 17592186044416 then ((kit_SameInts.f k (t673 ++ bt653.1) bt666.1).bind fun t679 => (some t679)) else (none))) else (none))) else (none)) else (none)) else (none)) else (none)))) else (none))) else (none)))))) = some r := H
    have A7 := Aside0.mk A70
    clear A70
    replace H := Option.bind_eq_some_iff.mp H
    obtain ⟨t646, A80, H⟩ := H
    replace H : ((sensor_Faults.f k t643 (wrap64 (1 + t642))).bind fun bt649 => ((sensor_Faults.f k t646 (wrap64 (1 + t642))).bind fun bt653 => ((some (([] : List (S68)) : List (S68))).bind fun y657 => (if y657.length + t643.length < 2199023255552 then ((some (y657 ++ t643 : List (S68))).bind fun y660 => (if y660.length + t646.length < 2199023255552 then ((sensor_Faults.f k (y660 ++ t646) (wrap64 (1 + t642))).bind fun bt666 => ((sensor_Works.f k t643 (wrap64 (1 + t642))).bind fun bt670 => (if bt649.2 = 0 then (if bt653.2 = 0 then (if bt666.2 = 0 then (if bt670.2 = 0 then ((kit_Has.f k bt649.1 5).bind fun t672 => (if (bt670.1 != t672) = true then ((kit_OwnInts.f bt649.1).bind fun t673 => (if t673.length + bt653.1.length < 17592186044416 then ((kit_SameInts.f k (t673 ++ bt653.1) bt666.1).bind fun t679 => (some t679)) else (none))) else (none))) else (none)) else (none)) else (none)) else (none)))) else (none))) else (none))))) = some r := H
    have A8 := Aside0.mk A80
    clear A80
    replace H := Option.bind_eq_some_iff.mp H
    obtain ⟨⟨t649, t650⟩, A90, H⟩ := H
    replace H : ((sensor_Faults.f k t646 (wrap64 (1 + t642))).bind fun bt653 => ((some (([] : List (S68)) : List (S68))).bind fun y657 => (if y657.length + t643.length < 2199023255552 then ((some (y657 ++ t643 : List (S68))).bind fun y660 => (if y660.length + t646.length < 2199023255552 then ((sensor_Faults.f k (y660 ++ t646) (wrap64 (1 + t642))).bind fun bt666 => ((sensor_Works.f k t643 (wrap64 (1 + t642))).bind fun bt670 => (if t650 = 0 then (if bt653.2 = 0 then (if bt666.2 = 0 then (if bt670.2 = 0 then ((kit_Has.f k t649 5).bind fun t672 => (if (bt670.1 != t672) = true then ((kit_OwnInts.f t649).bind fun t673 => (if t673.length + bt653.1.length < 17592186044416 then ((kit_SameInts.f k (t673 ++ bt653.1) bt666.1).bind fun t679 => (some t679)) else (none))) else (none))) else (none)) else (none)) else (none)) else (none)))) else (none))) else (none)))) = some r := H
    have A9 := Aside0.mk A90
    clear A90
    replace H := Option.bind_eq_some_iff.mp H
    obtain ⟨⟨t653, t654⟩, A100, H⟩ := H
    replace H : ((some (([] : List (S68)) : List (S68))).bind fun y657 => (if y657.length + t643.length < 2199023255552 then ((some (y657 ++ t643 : List (S68))).bind fun y660 => (if y660.length + t646.length < 2199023255552 then ((sensor_Faults.f k (y660 ++ t646) (wrap64 (1 + t642))).bind fun bt666 => ((sensor_Works.f k t643 (wrap64 (1 + t642))).bind fun bt670 => (if t650 = 0 then (if t654 = 0 then (if bt666.2 = 0 then (if bt670.2 = 0 then ((kit_Has.f k t649 5).bind fun t672 => (if (bt670.1 != t672) = true then ((kit_OwnInts.f t649).bind fun t673 => (if t673.length + t653.length < 17592186044416 then ((kit_SameInts.f k (t673 ++ t653) bt666.1).bind fun t679 => (some t679)) else (none))) else (none))) else (none)) else (none)) else (none)) else (none)))) else (none))) else (none))) = some r := H
    have A10 := Aside0.mk A100
    clear A100
    obtain ⟨y657, hy657⟩ : ∃ y_ : List (S68), y_ = (([] : List (S68))) := ⟨_, rfl⟩
    replace H : (if y657.length + t643.length < 2199023255552 then ((some (y657 ++ t643 : List (S68))).bind fun y660 => (if y660.length + t646.length < 2199023255552 then ((sensor_Faults.f k (y660 ++ t646) (wrap64 (1 + t642))).bind fun bt666 => ((sensor_Works.f k t643 (wrap64 (1 + t642))).bind fun bt670 => (if t650 = 0 then (if t654 = 0 then (if bt666.2 = 0 then (if bt670.2 = 0 then ((kit_Has.f k t649 5).bind fun t672 => (if (bt670.1 != t672) = true then ((kit_OwnInts.f t649).bind fun t673 => (if t673.length + t653.length < 17592186044416 then ((kit_SameInts.f k (t673 ++ t653) bt666.1).bind fun t679 => (some t679)) else (none))) else (none))) else (none)) else (none)) else (none)) else (none)))) else (none))) else (none)) = some r := by first | (rw [hy657]; with_reducible exact H) | (have H2_ := (Option.bind_some _ _).symm.trans H; rw [hy657]; with_reducible exact H2_) | (have H2_ := (Option.bind_some _ _).symm.trans H; with_reducible exact H2_) | with_reducible exact H | (rw [hy657]; exact H) | exact H
    have Ny657 := Aside0.mk hy657
    clear hy657
    by_cases c11 : y657.length + t643.length < 2199023255552
    · rw [if_pos c11] at H
      have LMc11 := Aside0.mk c11
      clear c11
      obtain ⟨y660, hy660⟩ : ∃ y_ : List (S68), y_ = (y657 ++ t643) := ⟨_, rfl⟩
      replace H : (if y660.length + t646.length < 2199023255552 then ((sensor_Faults.f k (y660 ++ t646) (wrap64 (1 + t642))).bind fun bt666 => ((sensor_Works.f k t643 (wrap64 (1 + t642))).bind fun bt670 => (if t650 = 0 then (if t654 = 0 then (if bt666.2 = 0 then (if bt670.2 = 0 then ((kit_Has.f k t649 5).bind fun t672 => (if (bt670.1 != t672) = true then ((kit_OwnInts.f t649).bind fun t673 => (if t673.length + t653.length < 17592186044416 then ((kit_SameInts.f k (t673 ++ t653) bt666.1).bind fun t679 => (some t679)) else (none))) else (none))) else (none)) else (none)) else (none)) else (none)))) else (none)) = some r := by first | (rw [hy660]; with_reducible exact H) | (have H2_ := (Option.bind_some _ _).symm.trans H; rw [hy660]; with_reducible exact H2_) | (have H2_ := (Option.bind_some _ _).symm.trans H; with_reducible exact H2_) | with_reducible exact H | (rw [hy660]; exact H) | exact H
      have Ny660 := Aside0.mk hy660
      clear hy660
      by_cases c12 : y660.length + t646.length < 2199023255552
      · rw [if_pos c12] at H
        have LMc12 := Aside0.mk c12
        clear c12
        obtain ⟨y663, hy663⟩ : ∃ y_ : List (S68), y_ = (y660 ++ t646) := ⟨_, rfl⟩
        replace H : ((sensor_Faults.f k y663 (wrap64 (1 + t642))).bind fun bt666 => ((sensor_Works.f k t643 (wrap64 (1 + t642))).bind fun bt670 => (if t650 = 0 then (if t654 = 0 then (if bt666.2 = 0 then (if bt670.2 = 0 then ((kit_Has.f k t649 5).bind fun t672 => (if (bt670.1 != t672) = true then ((kit_OwnInts.f t649).bind fun t673 => (if t673.length + t653.length < 17592186044416 then ((kit_SameInts.f k (t673 ++ t653) bt666.1).bind fun t679 => (some t679)) else (none))) else (none))) else (none)) else (none)) else (none)) else (none)))) = some r := by first | (rw [hy663]; with_reducible exact H) | (have H2_ := (Option.bind_some _ _).symm.trans H; rw [hy663]; with_reducible exact H2_) | (have H2_ := (Option.bind_some _ _).symm.trans H; with_reducible exact H2_) | with_reducible exact H | (rw [hy663]; exact H) | exact H
        have Ny663 := Aside0.mk hy663
        clear hy663
        replace H := Option.bind_eq_some_iff.mp H
        obtain ⟨⟨t666, t667⟩, A130, H⟩ := H
        replace H : ((sensor_Works.f k t643 (wrap64 (1 + t642))).bind fun bt670 => (if t650 = 0 then (if t654 = 0 then (if t667 = 0 then (if bt670.2 = 0 then ((kit_Has.f k t649 5).bind fun t672 => (if (bt670.1 != t672) = true then ((kit_OwnInts.f t649).bind fun t673 => (if t673.length + t653.length < 17592186044416 then ((kit_SameInts.f k (t673 ++ t653) t666).bind fun t679 => (some t679)) else (none))) else (none))) else (none)) else (none)) else (none)) else (none))) = some r := H
        have A13 := Aside0.mk A130
        clear A130
        replace H := Option.bind_eq_some_iff.mp H
        obtain ⟨⟨t670, t671⟩, A140, H⟩ := H
        replace H : (if t650 = 0 then (if t654 = 0 then (if t667 = 0 then (if t671 = 0 then ((kit_Has.f k t649 5).bind fun t672 => (if (t670 != t672) = true then ((kit_OwnInts.f t649).bind fun t673 => (if t673.length + t653.length < 17592186044416 then ((kit_SameInts.f k (t673 ++ t653) t666).bind fun t679 => (some t679)) else (none))) else (none))) else (none)) else (none)) else (none)) else (none)) = some r := H
        have A14 := Aside0.mk A140
        clear A140
        by_cases c15 : t650 = 0
        · rw [if_pos c15] at H
          have c15b0 : (t650 == 0) = true := beq_iff_eq.mpr c15
          have c15b1 : (t650 != 0) = false := bne_eq_false_iff_eq.mpr c15
          clear c15
          by_cases c16 : t654 = 0
          · rw [if_pos c16] at H
            have c16b0 : (t654 == 0) = true := beq_iff_eq.mpr c16
            have c16b1 : (t654 != 0) = false := bne_eq_false_iff_eq.mpr c16
            clear c16
            by_cases c17 : t667 = 0
            · rw [if_pos c17] at H
              have c17b0 : (t667 == 0) = true := beq_iff_eq.mpr c17
              have c17b1 : (t667 != 0) = false := bne_eq_false_iff_eq.mpr c17
              clear c17
              by_cases c18 : t671 = 0
              · rw [if_pos c18] at H
                have c18b0 : (t671 == 0) = true := beq_iff_eq.mpr c18
                have c18b1 : (t671 != 0) = false := bne_eq_false_iff_eq.mpr c18
                clear c18
                replace H := Option.bind_eq_some_iff.mp H
                obtain ⟨t672, A190, H⟩ := H
                replace H : (if (t670 != t672) = true then ((kit_OwnInts.f t649).bind fun t673 => (if t673.length + t653.length < 17592186044416 then ((kit_SameInts.f k (t673 ++ t653) t666).bind fun t679 => (some t679)) else (none))) else (none)) = some r := H
                have A19 := Aside0.mk A190
                clear A190
                by_cases c20 : (t670 != t672) = true
                · rw [if_pos c20] at H
                  have c20b0 : (t670 != t672) = true := c20
                  (try (have c20b1 : decide (t670 = t672) = false := by simpa using c20))
                  (try (have c20b2 : (t670 == t672) = false := by simpa using c20))
                  (try (have c20b3 : ¬ (t670 = t672) := by simpa using c20))
                  clear c20
                  replace H := Option.bind_eq_some_iff.mp H
                  obtain ⟨t673, A210, H⟩ := H
                  replace H : (if t673.length + t653.length < 17592186044416 then ((kit_SameInts.f k (t673 ++ t653) t666).bind fun t679 => (some t679)) else (none)) = some r := H
                  have A21 := Aside0.mk A210
                  clear A210
                  by_cases c22 : t673.length + t653.length < 17592186044416
                  · rw [if_pos c22] at H
                    have LMc22 := Aside0.mk c22
                    clear c22
                    obtain ⟨y676, hy676⟩ : ∃ y_ : List Int, y_ = (t673 ++ t653) := ⟨_, rfl⟩
                    replace H : ((kit_SameInts.f k y676 t666).bind fun t679 => (some t679)) = some r := by first | (rw [hy676]; with_reducible exact H) | (have H2_ := (Option.bind_some _ _).symm.trans H; rw [hy676]; with_reducible exact H2_) | (have H2_ := (Option.bind_some _ _).symm.trans H; with_reducible exact H2_) | with_reducible exact H | (rw [hy676]; exact H) | exact H
                    have Ny676 := Aside0.mk hy676
                    clear hy676
                    replace H := Option.bind_eq_some_iff.mp H
                    obtain ⟨t679, A230, H⟩ := H
                    replace H : (some t679) = some r := H
                    have A23 := Aside0.mk A230
                    clear A230
                    obtain rfl := Option.some.inj H
                    go_enter Try.func9, Try.ntmps9
                    go_wp2_with (first | ((with_reducible refine gate_callee (f := 6) rfl ?_); refine gsl (some 18) Try.func6 #[] ?_; (with_reducible refine (q_SensorKnown.calls k  true _ A4.out).mono ?_); rintro e w24 ⟨rfl, hb⟩; refine ⟨_, rfl, ?_⟩; replace HB := Aside0.mk (bst HB.out hb); (try clear hb); (try clear hb2); (try clear hk); (try clear hi)) | ((with_reducible refine gate_callee (f := 33) rfl ?_); refine gsl (some 20) Try.func33 #[.int .i64 a2, .int .i64 3] ?_; (with_reducible refine (kit_Mod.calls a2 3 t642 _ A6.out).mono ?_); rintro e w' ⟨rfl, ⟨nd, rfl⟩⟩; refine ⟨_, rfl, ?_⟩) | ((with_reducible refine gate_callee (f := 35) rfl ?_); refine gsl (some 23) Try.func35 #[.slice A0 l0.length c0] ?_; (with_reducible refine (q_entries.calls k _ _ l0 t643 _ ?side1 ?side2 A7.out).mono ?_); (case side1 => repeat (first | exact (Kd.C_below HR0.out (bel HB.out)) | (with_reducible refine Kd.C_alloc ?_ _) | (with_reducible refine Kd.C_drewN ?_ _) | (with_reducible refine Kd.C_drew ?_))); (case side2 => exact HC0.out); rintro e w25 ⟨v644, rfl, ho0, hb⟩; refine ⟨_, rfl, ?_⟩; have HO645 := Aside0.mk (Kd.R_lower ho0 (bsz HB.out)); replace HB := Aside0.mk (bst HB.out hb); (try clear hb); (try clear hb2); (try clear hk); (try clear hi); (try clear ho0)) | ((with_reducible refine gate_callee (f := 35) rfl ?_); refine gsl (some 25) Try.func35 #[.slice A1 l1.length c1] ?_; (with_reducible refine (q_entries.calls k _ _ l1 t646 _ ?side1 ?side2 A8.out).mono ?_); (case side1 => repeat (first | exact (Kd.C_below HR1.out HB.out) | (with_reducible refine Kd.C_alloc ?_ _) | (with_reducible refine Kd.C_drewN ?_ _) | (with_reducible refine Kd.C_drew ?_))); (case side2 => exact HC1.out); rintro e w26 ⟨v647, rfl, ho0, hb⟩; refine ⟨_, rfl, ?_⟩; have HO648 := Aside0.mk (Kd.R_lower (Kd.R_new' ho0 (Kd.R_lt (kdt HO645.out))) (bsz HB.out)); replace HO645 := Aside0.mk (Kd.R_elder' (kdt HO645.out) (Kd.R_base ho0) hb); replace HB := Aside0.mk (bst HB.out hb); (try clear hb); (try clear hb2); (try clear hk); (try clear hi); (try clear ho0); obtain ⟨Ao27, co27, eo27⟩ := Kd.R_slice HO645.out; subst eo27) | ((with_reducible refine gate_callee (f := 21) rfl ?_); refine gsl (some 29) Try.func21 #[.slice Ao27 t643.length co27, .int .i64 (wrap64 (1 + t642))] ?_; (with_reducible refine (sensor_Faults.calls k _ _ t643 (wrap64 (1 + t642)) t649 t650 _ ?side1 ?side2 A9.out).mono ?_); (case side1 => repeat (first | exact (Kd.R_reads' HO645.out).2.2 | (with_reducible refine Kd.C_alloc ?_ _) | (with_reducible refine Kd.C_drewN ?_ _) | (with_reducible refine Kd.C_drew ?_))); (case side2 => exact (Kd.R_reads' HO645.out).2.1); rintro e w28 ⟨v651, rfl, ho0, hb⟩; refine ⟨_, rfl, ?_⟩; have HO652 := Aside0.mk (Kd.R_lower ho0 (bsz HB.out)); replace HO645 := Aside0.mk (Kd.R_below (kdt HO645.out) hb); replace HO648 := Aside0.mk (Kd.R_below (kdt HO648.out) hb); replace HB := Aside0.mk (bst HB.out hb); (try clear hb); (try clear hb2); (try clear hk); (try clear hi); (try clear ho0); obtain ⟨Ao29, co29, eo29⟩ := Kd.R_slice HO648.out; subst eo29) | ((with_reducible refine gate_callee (f := 21) rfl ?_); refine gsl (some 35) Try.func21 #[.slice Ao29 t646.length co29, .int .i64 (wrap64 (1 + t642))] ?_; (with_reducible refine (sensor_Faults.calls k _ _ t646 (wrap64 (1 + t642)) t653 t654 _ ?side1 ?side2 A10.out).mono ?_); (case side1 => repeat (first | exact (Kd.R_reads' HO648.out).2.2 | (with_reducible refine Kd.C_alloc ?_ _) | (with_reducible refine Kd.C_drewN ?_ _) | (with_reducible refine Kd.C_drew ?_))); (case side2 => exact (Kd.R_reads' HO648.out).2.1); rintro e w30 ⟨v655, rfl, ho0, hb⟩; refine ⟨_, rfl, ?_⟩; have HO656 := Aside0.mk (Kd.R_lower (Kd.R_new' ho0 (Kd.R_lt (kdt HO652.out))) (bsz HB.out)); replace HO645 := Aside0.mk (Kd.R_below (kdt HO645.out) hb); replace HO648 := Aside0.mk (Kd.R_below (kdt HO648.out) hb); replace HO652 := Aside0.mk (Kd.R_elder' (kdt HO652.out) (Kd.R_base ho0) hb); replace HB := Aside0.mk (bst HB.out hb); (try clear hb); (try clear hb2); (try clear hk); (try clear hi); (try clear ho0)) | ((with_reducible refine gate_dst (N := 39) rfl ?_); (try (refine gate_guard (by rfl) ?_; dsimp only)); refine Kd.R_lit k68 _ 68 ?hg (N := 39) ?hd (xs := ([] : List (S68))) (inner := []) (ok := fun _ => True) (okp := fun _ => True) ?hr ?hp (fun _ hk => hk) trivial (Below.refl _ _) (Nat.le_refl _) (by simp) ?_; (case hd => rfl); (case hg => rfl); (case hr => first | (go_simp; done) | (go_simp; rfl)); (case hp => exact (Reps.none _ _)); intro v658 w31 ho32 hb hg_ hnew_; clear hg_ hnew_; (first | rw [← Ny657.out] at ho32 | (simp only [Int.reduceToNat] at ho32; rw [← Ny657.out] at ho32)); have HO659 := Aside0.mk (Kd.R_lower (Kd.R_new' (Kd.R_new' ho32 (Kd.R_lt (kdt HO645.out))) (Kd.R_lt (kdt HO648.out))) (bsz HB.out)); replace HO645 := Aside0.mk (Kd.R_elder' (kdt HO645.out) (Kd.R_base ho32) hb); replace HO648 := Aside0.mk (Kd.R_elder' (kdt HO648.out) (Kd.R_base ho32) hb); replace HO652 := Aside0.mk (Kd.R_below (kdt HO652.out) hb); replace HO656 := Aside0.mk (Kd.R_below (kdt HO656.out) hb); replace HB := Aside0.mk (bst HB.out hb); clear hb ho32) | ((with_reducible refine gate_builtin (b := .append) (xs := #[.tmp 39, .tmp 40]) rfl ?_); (try (refine gate_guard (by rfl) ?_; dsimp only)); at_builtin; refine Kd.R_append_rows k68 (w0 := w) w.heap.size rfl (.tmp 39) (.tmp 40) 37 68 (.agg #[(.int .i64 0), (.int .i64 0), (.int .i64 0), (.string ⟨#[]⟩), (.int .i64 0), (.int .i64 0), (.int .i64 0)]) 64 rfl Try.underlying37 info68 rfl (by decide) (by omega) v658 y657 t643 _ _ _ (fun k_ => some k_ ≠ (.slice Ao27 t643.length co27 : Value).ownBlock ∧ some k_ ≠ (.slice Ao29 t646.length co29 : Value).ownBlock) (fun _ => False) rfl rfl ?aO ?aR (fun _ _ h => h) (fun _ h => h.elim) ?aF ?aB ?aS ?aL ?_; (case aR => repeat (first | exact (Kd.R_reads' HO645.out).2.2 | (with_reducible refine Kd.C_alloc ?_ _) | (with_reducible refine Kd.C_drewN ?_ _) | (with_reducible refine Kd.C_drew ?_))); (case aB => exact (bel HB.out)); (case aF => exact (fun k_ hk => ⟨Kd.fresh' (Kd.R_lt (kdt HO645.out)) k_ hk, Kd.fresh' (Kd.R_lt (kdt HO648.out)) k_ hk⟩)); (case aO => exact (by (with_reducible repeat (first | apply Kd.R_alloc | apply Kd.R_drewN | apply Kd.R_drew)); exact Kd.R_mono HO659.out (fun _ hk => ⟨hk.1.2, hk.2⟩))); (case aS => exact (bsz HB.out)); (case aL => have := LMc11.out; omega); intro v661 w33 ho hb hg hat; rw [← Ny660.out] at ho; have n0_ := Aside0.mk (Kd.R_after (ok := (fun k_ => some k_ ≠ (.slice Ao29 t646.length co29 : Value).ownBlock)) (by (with_reducible repeat (first | apply Kd.R_alloc | apply Kd.R_drewN | apply Kd.R_drew)); exact Kd.R_mono HO645.out (fun _ hk => ⟨hk.1.2, hk.2⟩)) hg hat); have n1_ := Aside0.mk (Kd.R_after (ok := (fun k_ => some k_ ≠ (.slice Ao27 t643.length co27 : Value).ownBlock)) (by (with_reducible repeat (first | apply Kd.R_alloc | apply Kd.R_drewN | apply Kd.R_drew)); exact Kd.R_mono HO648.out (fun _ hk => ⟨hk.1.2, hk.2⟩)) hg hat); have n2_ := Aside0.mk (Kd.R_over' (kdt HO652.out) (Kd.R_typed (kdt HO659.out)) (by decide) hg); have n3_ := Aside0.mk (Kd.R_over' (kdt HO656.out) (Kd.R_typed (kdt HO659.out)) (by decide) hg); have n4_ := Aside0.mk (hb); have n5_ := Aside0.mk (ho); clear HO645; clear HO648; clear HO652; clear HO656; clear HB; clear HO659; have HO645 := n0_; have HO648 := n1_; have HO652 := n2_; have HO656 := n3_; have HB := n4_; have HO662 := n5_; clear n0_ n1_ n2_ n3_ n4_ n5_; clear ho hb hg hat) | ((with_reducible refine gate_builtin (b := .append) (xs := #[.tmp 41, .tmp 42]) rfl ?_); (try (refine gate_guard (by rfl) ?_; dsimp only)); at_builtin; refine Kd.R_append_rows k68 (w0 := w) w.heap.size rfl (.tmp 41) (.tmp 42) 37 68 (.agg #[(.int .i64 0), (.int .i64 0), (.int .i64 0), (.string ⟨#[]⟩), (.int .i64 0), (.int .i64 0), (.int .i64 0)]) 64 rfl Try.underlying37 info68 rfl (by decide) (by omega) v661 y660 t646 _ _ _ (fun k_ => some k_ ≠ (.slice Ao27 t643.length co27 : Value).ownBlock ∧ some k_ ≠ (.slice Ao29 t646.length co29 : Value).ownBlock) (fun _ => False) rfl rfl ?aO ?aR (fun _ _ h => h) (fun _ h => h.elim) ?aF ?aB ?aS ?aL ?_; (case aR => repeat (first | exact (Kd.R_reads' HO648.out).2.2 | (with_reducible refine Kd.C_alloc ?_ _) | (with_reducible refine Kd.C_drewN ?_ _) | (with_reducible refine Kd.C_drew ?_))); (case aB => exact (bel HB.out)); (case aF => exact (fun k_ hk => ⟨Kd.fresh' (Kd.R_lt (kdt HO645.out)) k_ hk, Kd.fresh' (Kd.R_lt (kdt HO648.out)) k_ hk⟩)); (case aO => exact (kdt HO662.out)); (case aS => exact (bsz HB.out)); (case aL => have := LMc12.out; omega); intro v664 w34 ho hb hg hat; rw [← Ny663.out] at ho; have n0_ := Aside0.mk (Kd.R_after (ok := (fun k_ => some k_ ≠ (.slice Ao29 t646.length co29 : Value).ownBlock)) (kdt HO645.out) hg hat); have n1_ := Aside0.mk (Kd.R_after (ok := (fun k_ => some k_ ≠ (.slice Ao27 t643.length co27 : Value).ownBlock)) (kdt HO648.out) hg hat); have n2_ := Aside0.mk (Kd.R_over' (kdt HO652.out) (Kd.R_typed (kdt HO662.out)) (by decide) hg); have n3_ := Aside0.mk (Kd.R_over' (kdt HO656.out) (Kd.R_typed (kdt HO662.out)) (by decide) hg); have n4_ := Aside0.mk (hb); have n5_ := Aside0.mk (ho); clear HO645; clear HO648; clear HO652; clear HO656; clear HB; clear HO662; have HO645 := n0_; have HO648 := n1_; have HO652 := n2_; have HO656 := n3_; have HB := n4_; have HO665 := n5_; clear n0_ n1_ n2_ n3_ n4_ n5_; clear ho hb hg hat; obtain ⟨Ao35, co35, eo35⟩ := Kd.R_slice HO665.out; subst eo35) | ((with_reducible refine gate_callee (f := 21) rfl ?_); refine gsl (some 45) Try.func21 #[.slice Ao35 y663.length co35, .int .i64 (wrap64 (1 + t642))] ?_; (with_reducible refine (sensor_Faults.calls k _ _ y663 (wrap64 (1 + t642)) t666 t667 _ ?side1 ?side2 A13.out).mono ?_); (case side1 => repeat (first | exact (Kd.R_reads' HO665.out).2.2 | (with_reducible refine Kd.C_alloc ?_ _) | (with_reducible refine Kd.C_drewN ?_ _) | (with_reducible refine Kd.C_drew ?_))); (case side2 => exact (Kd.R_reads' HO665.out).2.1); rintro e w36 ⟨v668, rfl, ho0, hb⟩; refine ⟨_, rfl, ?_⟩; have HO669 := Aside0.mk (Kd.R_lower (Kd.R_new' (Kd.R_new' ho0 (Kd.R_lt (kdt HO652.out))) (Kd.R_lt (kdt HO656.out))) (bsz HB.out)); replace HO645 := Aside0.mk (Kd.R_below (kdt HO645.out) hb); replace HO648 := Aside0.mk (Kd.R_below (kdt HO648.out) hb); replace HO652 := Aside0.mk (Kd.R_elder' (kdt HO652.out) (Kd.R_base ho0) hb); replace HO656 := Aside0.mk (Kd.R_elder' (kdt HO656.out) (Kd.R_base ho0) hb); replace HO665 := Aside0.mk (Kd.R_below (kdt HO665.out) hb); replace HB := Aside0.mk (bst HB.out hb); (try clear hb); (try clear hb2); (try clear hk); (try clear hi); (try clear ho0)) | ((with_reducible refine gate_callee (f := 23) rfl ?_); refine gsl (some 51) Try.func23 #[.slice Ao27 t643.length co27, .int .i64 (wrap64 (1 + t642))] ?_; (with_reducible refine (sensor_Works.calls k _ _ t643 (wrap64 (1 + t642)) t670 t671 _ ?side1 ?side2 A14.out).mono ?_); (case side1 => repeat (first | exact (Kd.R_reads' HO645.out).2.2 | (with_reducible refine Kd.C_alloc ?_ _) | (with_reducible refine Kd.C_drewN ?_ _) | (with_reducible refine Kd.C_drew ?_))); (case side2 => exact (Kd.R_reads' HO645.out).2.1); rintro e w37 ⟨rfl, hb⟩; refine ⟨_, rfl, ?_⟩; replace HO645 := Aside0.mk (Kd.R_below (kdt HO645.out) hb); replace HO648 := Aside0.mk (Kd.R_below (kdt HO648.out) hb); replace HO652 := Aside0.mk (Kd.R_below (kdt HO652.out) hb); replace HO656 := Aside0.mk (Kd.R_below (kdt HO656.out) hb); replace HO665 := Aside0.mk (Kd.R_below (kdt HO665.out) hb); replace HO669 := Aside0.mk (Kd.R_below (kdt HO669.out) hb); replace HB := Aside0.mk (bst HB.out hb); (try clear hb); (try clear hb2); (try clear hk); (try clear hi); obtain ⟨Ao38, co38, eo38⟩ := Kd.R_slice HO652.out; subst eo38) | (go_at_call 36; (with_reducible refine (kit_Has.calls k _ _ t649 5 t672 _ ?side1 ?side2 A19.out).mono ?_); (case side1 => repeat (first | exact (Kd.R_reads' HO652.out).2.2 | (with_reducible refine Kd.C_alloc ?_ _) | (with_reducible refine Kd.C_drewN ?_ _) | (with_reducible refine Kd.C_drew ?_))); (case side2 => exact (Kd.R_reads' HO652.out).2.1); rintro e w' ⟨rfl, ⟨nd, rfl⟩⟩) | (go_at_call 11; (with_reducible refine (kit_OwnInts.calls _ _ t649 t673 _ ?side1 ?side2 A21.out).mono ?_); (case side1 => repeat (first | exact (Kd.R_reads' HO652.out).2.2 | (with_reducible refine Kd.C_alloc ?_ _) | (with_reducible refine Kd.C_drewN ?_ _) | (with_reducible refine Kd.C_drew ?_))); (case side2 => exact (Kd.R_reads' HO652.out).2.1); rintro e w39 ⟨v674, rfl, ho0, hb⟩; have HO675 := Aside0.mk (Kd.R_lower (Kd.R_new' (Kd.R_new' (Kd.R_new' ho0 (Kd.R_lt (kdt HO652.out))) (Kd.R_lt (kdt HO656.out))) (Kd.R_lt (kdt HO669.out))) (bsz HB.out)); replace HO645 := Aside0.mk (Kd.R_below (kdt HO645.out) hb); replace HO648 := Aside0.mk (Kd.R_below (kdt HO648.out) hb); replace HO652 := Aside0.mk (Kd.R_elder' (kdt HO652.out) (Kd.R_base ho0) hb); replace HO656 := Aside0.mk (Kd.R_elder' (kdt HO656.out) (Kd.R_base ho0) hb); replace HO665 := Aside0.mk (Kd.R_below (kdt HO665.out) hb); replace HO669 := Aside0.mk (Kd.R_elder' (kdt HO669.out) (Kd.R_base ho0) hb); replace HB := Aside0.mk (bst HB.out hb); (try clear hb); (try clear hb2); (try clear hk); (try clear hi); (try clear ho0); obtain ⟨Ao41, co41, eo41⟩ := Kd.R_slice HO656.out; subst eo41) | ((with_reducible refine gate_builtin (b := .append) (xs := #[.tmp 79, .tmp 80]) rfl ?_); (try (refine gate_guard (by rfl) ?_; dsimp only)); at_builtin; refine Kd.R_append_rows (Kd.int .i64) (w0 := w) w.heap.size rfl (.tmp 79) (.tmp 80) 24 3 (.int .i64 0) 8 rfl Try.underlying24 info3 rfl (by decide) (by omega) v674 t673 t653 _ _ _ (fun k_ => some k_ ≠ (.slice Ao38 t649.length co38 : Value).ownBlock ∧ some k_ ≠ (.slice Ao41 t653.length co41 : Value).ownBlock ∧ some k_ ≠ (v668 : Value).ownBlock) (fun _ => False) rfl rfl ?aO ?aR (fun _ _ h => h) (fun _ h => h.elim) ?aF ?aB ?aS ?aL ?_; (case aR => repeat (first | exact (Kd.R_reads' HO656.out).2.2 | (with_reducible refine Kd.C_alloc ?_ _) | (with_reducible refine Kd.C_drewN ?_ _) | (with_reducible refine Kd.C_drew ?_))); (case aB => exact (bel HB.out)); (case aF => exact (fun k_ hk => ⟨Kd.fresh' (Kd.R_lt (kdt HO652.out)) k_ hk, Kd.fresh' (Kd.R_lt (kdt HO656.out)) k_ hk, Kd.fresh' (Kd.R_lt (kdt HO669.out)) k_ hk⟩)); (case aO => exact (by (with_reducible repeat (first | apply Kd.R_alloc | apply Kd.R_drewN | apply Kd.R_drew)); exact Kd.R_mono HO675.out (fun _ hk => ⟨hk.1.1.2, ⟨hk.1.2, hk.2⟩⟩))); (case aS => exact (bsz HB.out)); (case aL => have := LMc22.out; omega); intro v677 w40 ho hb hg hat; rw [← Ny676.out] at ho; have n0_ := Aside0.mk (Kd.R_over' (kdt HO645.out) (Kd.R_typed (kdt HO675.out)) (by decide) hg); have n1_ := Aside0.mk (Kd.R_over' (kdt HO648.out) (Kd.R_typed (kdt HO675.out)) (by decide) hg); have n2_ := Aside0.mk (Kd.R_after (ok := (fun k_ => some k_ ≠ (.slice Ao41 t653.length co41 : Value).ownBlock ∧ some k_ ≠ (v668 : Value).ownBlock)) (by (with_reducible repeat (first | apply Kd.R_alloc | apply Kd.R_drewN | apply Kd.R_drew)); exact Kd.R_mono HO652.out (fun _ hk => ⟨⟨hk.1.1.2, hk.1.2⟩, hk.2⟩)) hg hat); have n3_ := Aside0.mk (Kd.R_after (ok := (fun k_ => some k_ ≠ (.slice Ao38 t649.length co38 : Value).ownBlock ∧ some k_ ≠ (v668 : Value).ownBlock)) (by (with_reducible repeat (first | apply Kd.R_alloc | apply Kd.R_drewN | apply Kd.R_drew)); exact Kd.R_mono HO656.out (fun _ hk => ⟨⟨hk.1.1.2, hk.1.2⟩, hk.2⟩)) hg hat); have n4_ := Aside0.mk (Kd.R_over' (kdt HO665.out) (Kd.R_typed (kdt HO675.out)) (by decide) hg); have n5_ := Aside0.mk (Kd.R_after (ok := (fun k_ => some k_ ≠ (.slice Ao38 t649.length co38 : Value).ownBlock ∧ some k_ ≠ (.slice Ao41 t653.length co41 : Value).ownBlock)) (by (with_reducible repeat (first | apply Kd.R_alloc | apply Kd.R_drewN | apply Kd.R_drew)); exact Kd.R_mono HO669.out (fun _ hk => ⟨⟨hk.1.1.2, hk.1.2⟩, hk.2⟩)) hg hat); have n6_ := Aside0.mk (hb); have n7_ := Aside0.mk (ho); clear HO645; clear HO648; clear HO652; clear HO656; clear HO665; clear HO669; clear HB; clear HO675; have HO645 := n0_; have HO648 := n1_; have HO652 := n2_; have HO656 := n3_; have HO665 := n4_; have HO669 := n5_; have HB := n6_; have HO678 := n7_; clear n0_ n1_ n2_ n3_ n4_ n5_ n6_ n7_; clear ho hb hg hat; obtain ⟨Ao42, co42, eo42⟩ := Kd.R_slice HO678.out; subst eo42; obtain ⟨Ao43, co43, eo43⟩ := Kd.R_slice HO669.out; subst eo43) | (go_at_call 16; (with_reducible refine (kit_SameInts.calls k _ _ y676 _ _ t666 t679 _ ?side1 ?side2 ?side3 ?side4 A23.out).mono ?_); (case side1 => repeat (first | exact (Kd.R_reads' HO678.out).2.2 | (with_reducible refine Kd.C_alloc ?_ _) | (with_reducible refine Kd.C_drewN ?_ _) | (with_reducible refine Kd.C_drew ?_))); (case side2 => exact (Kd.R_reads' HO678.out).2.1); (case side3 => repeat (first | exact (Kd.R_reads' HO669.out).2.2 | (with_reducible refine Kd.C_alloc ?_ _) | (with_reducible refine Kd.C_drewN ?_ _) | (with_reducible refine Kd.C_drew ?_))); (case side4 => exact (Kd.R_reads' HO669.out).2.1); rintro e w' ⟨rfl, ⟨nd, rfl⟩⟩))
                    go_ret
                    exact bfin (bel HB.out)
                  · rw [if_neg c22] at H
                    exact absurd H (by simp)
                · rw [if_neg c20] at H
                  exact absurd H (by simp)
              · rw [if_neg c18] at H
                exact absurd H (by simp)
            · rw [if_neg c17] at H
              exact absurd H (by simp)
          · rw [if_neg c16] at H
            exact absurd H (by simp)
        · rw [if_neg c15] at H
          exact absurd H (by simp)
      · rw [if_neg c12] at H
        exact absurd H (by simp)
    · rw [if_neg c11] at H
      exact absurd H (by simp)
  · replace c5 := Bool.eq_false_iff.mpr c5
    subst c5
    have H1 : (none) = some r := by rw [if_neg (show ¬ (false = true) by decide)] at H; exact H
    clear H
    have H := H1
    clear H1
    exact absurd H (by simp)

/-- THE ONE PURE STATEMENT of q_SensorJoins: yours. -/
def q_SensorJoins.Pure : Prop := ∀ (l0 : List Int) (l1 : List Int) (a2 : Int), l0.length ≤ maxLen → l0.length * 8 ≤ 140737488351232 → (∀ x ∈ l0, (Lit.int .i64 x).wf = true) → l1.length ≤ maxLen → l1.length * 8 ≤ 140737488351232 → (∀ x ∈ l1, (Lit.int .i64 x).wf = true) → (Lit.int .i64 a2).wf = true → ∃ k, q_SensorJoins.f k l0 l1 a2 = some true
theorem q_SensorJoins.walk (P : q_SensorJoins.Pure) (a0 : Option Addr) (len0 cap0 : Nat) (z0 : List Int) (a1 : Option Addr) (len1 cap1 : Nat) (z1 : List Int) (a2 : Int) (w : World) (w0 : (a0 = none ∧ len0 = 0 ∧ cap0 = 0 ∧ z0 = []) ∨ ∃ x, a0 = some x ∧ len0 ≤ cap0 ∧ cap0 ≤ maxLen ∧ z0.length = cap0 ∧ (∀ i, i < z0.length → w.cell? (x.add i) = some (.int .i64 (z0.getD i 0))) ∧ ∀ n ∈ z0, (Lit.int .i64 n).wf = true) (y0 : len0 * 8 ≤ 140737488351232) (w1 : (a1 = none ∧ len1 = 0 ∧ cap1 = 0 ∧ z1 = []) ∨ ∃ x, a1 = some x ∧ len1 ≤ cap1 ∧ cap1 ≤ maxLen ∧ z1.length = cap1 ∧ (∀ i, i < z1.length → w.cell? (x.add i) = some (.int .i64 (z1.getD i 0))) ∧ ∀ n ∈ z1, (Lit.int .i64 n).wf = true) (y1 : len1 * 8 ≤ 140737488351232) (w2 : (Lit.int .i64 a2).wf = true) :
    Calls Try.prog 9 #[.slice a0 len0 cap0, .slice a1 len1 cap1, .int .i64 a2] w fun e w' => e = .returned (.bool true) ∧ Below w.heap.size w w' := by
  obtain ⟨l0, rfl, hr0, hm0, hw0, hc0⟩ := ReadsInt.ofRowC w0
  obtain ⟨l1, rfl, hr1, hm1, hw1, hc1⟩ := ReadsInt.ofRowC w1
  obtain ⟨k, h⟩ := P l0 l1 a2 hm0 y0 hw0 hm1 y1 hw1 w2
  refine (q_SensorJoins.calls k _ _ l0 _ _ l1 a2 true w (Kd.C_of_reads (d := (0 : Int)) (h1 := fun _ => rfl) hr0) hc0 (Kd.C_of_reads (d := (0 : Int)) (h1 := fun _ => rfl) hr1) hc1 h).mono ?_
  rintro e w' ⟨rfl, hd⟩
  exact ⟨rfl, hd⟩

end Go.Proofs.Ytlkphdcfgaolnaa.P
