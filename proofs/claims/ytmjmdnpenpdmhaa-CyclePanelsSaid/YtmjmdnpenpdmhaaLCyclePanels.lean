-- Printed by wip/myprint.py of this repo (over the kit's printer). Not trusted: Lean checks it.
import Derived.Test.YtmjmdnpenpdmhaaP0
import Derived.Test.YtmjmdnpenpdmhaaP0tipstaffkit
import Derived.Test.YtmjmdnpenpdmhaaP0tipstaffref19d
import Derived.Test.YtmjmdnpenpdmhaaP2cycle
import Derived.Test.YtmjmdnpenpdmhaaP2tipstafflaw19
namespace Go.Proofs.Ytmjmdnpenpdmhaa.P
open Go.RowKit Go.Proofs.YtmjmdnpenpdmhaaW.PrintWords Go.Proofs.YtmjmdnpenpdmhaaW.PrintLast Go.Proofs.YtmjmdnpenpdmhaaW.PrintMore
attribute [local go_sem] cell_same1 cell_some1
attribute [local go_sem] max2_int min2_int max_two min_two max_three min_three max_four min_four   -- for this text's walks alone
set_option linter.unusedVariables false
set_option linter.unusedSimpArgs false

/-! ### q_CyclePanels: function 3 -/
def q_CyclePanels.f (k : Nat) (a0_0 : Int) (a0_1 : Int) (a0_2 : Int) (l1 : List Bool) (a2 : Int) : Option (Bool) := if (l1.length : Int) > 600 then ((q_awake.f k).bind fun t452 => (if t452 = true then (some true) else (none))) else ((kit_OwnBools.f l1).bind fun t453 => ((cycle_Panels.f a0_0 a0_1 a0_2 t453).bind fun bt456 => ((ref_Panels.f k a0_0 a0_1 a0_2 l1).bind fun bt460 => ((cycle_Forced.f a0_0 a0_1 a0_2 t453 a2).bind fun bt464 => ((ref_Forced.f k a0_0 a0_1 a0_2 l1 a2).bind fun bt468 => ((kit_SameInts.f k bt456.1 bt460.1).bind fun t472 => (if t472 = true then (if bt456.2 = bt460.2 then ((kit_SameInts.f k bt464.1 bt468.1).bind fun t473 => (if t473 = true then (if bt464.2 = bt468.2 then ((kit_SameBools.f k t453 l1).bind fun t474 => (if t474 = true then ((q_awake.f k).bind fun t475 => (if t475 = true then (some true) else (none))) else (none))) else (none)) else (none))) else (none)) else (none))))))))
theorem q_CyclePanels.mono : ∀ a0 a1 a2 a3 a4 k, LeO (q_CyclePanels.f k a0 a1 a2 a3 a4) (q_CyclePanels.f (k + 1) a0 a1 a2 a3 a4) := by
  intro a0 a1 a2 a3 a4 k
  unfold q_CyclePanels.f
  repeat' first
      | (with_reducible exact kit_SameBools.mono _ _ _)
      | (with_reducible exact kit_SameInts.mono _ _ _)
      | (with_reducible exact q_awake.mono _)
      | (with_reducible exact ref_Forced.mono _ _ _ _ _ _)
      | (with_reducible exact ref_Panels.mono _ _ _ _ _)
      | (with_reducible exact LeO.refl _)
      | (with_reducible exact LeO.none _)
      | (with_reducible refine LeO.ite ?_ ?_)
      | (with_reducible refine LeO.bind ?_ (fun _ => ?_))
      | exact kit_SameBools.mono _ _ _
      | exact kit_SameInts.mono _ _ _
      | exact q_awake.mono _
      | exact ref_Forced.mono _ _ _ _ _ _
      | exact ref_Panels.mono _ _ _ _ _
      | exact LeO.none _
      | refine LeO.ite ?_ ?_
      | refine LeO.bind ?_ (fun _ => ?_)
set_option maxHeartbeats 8000000 in
set_option maxRecDepth 100000 in
theorem q_CyclePanels.calls (k : Nat) (a0_0 : Int) (a0_1 : Int) (a0_2 : Int) (A1 : Option Addr) (c1 : Nat) (l1 : List Bool) (a2 : Int) (r : Bool) (w : World) (hr1 : Kd.C Kd.bool w A1 l1.length l1) (hc1 : l1.length ≤ c1) (h : q_CyclePanels.f k a0_0 a0_1 a0_2 l1 a2 = some r) :
    Calls Try.prog 3 #[.agg #[.int .i64 a0_0, .int .i64 a0_1, .int .i64 a0_2], .slice A1 l1.length c1, .int .i64 a2] w fun e w' => e = .returned (.bool r) ∧ Below w.heap.size w w' := by
  have hu23 := Try.underlying23
  have HR1 := Aside0.mk hr1
  have HC1 := Aside0.mk hc1
  clear hr1 hc1
  have HB := Aside0.mk (Below.refl w.heap.size w)
  have H : (if (l1.length : Int) > 600 then ((q_awake.f k).bind fun t452 => (if t452 = true then (some true) else (none))) else ((kit_OwnBools.f l1).bind fun t453 => ((cycle_Panels.f a0_0 a0_1 a0_2 t453).bind fun bt456 => ((ref_Panels.f k a0_0 a0_1 a0_2 l1).bind fun bt460 => ((cycle_Forced.f a0_0 a0_1 a0_2 t453 a2).bind fun bt464 => ((ref_Forced.f k a0_0 a0_1 a0_2 l1 a2).bind fun bt468 => ((kit_SameInts.f k bt456.1 bt460.1).bind fun t472 => (if t472 = true then (if bt456.2 = bt460.2 then ((kit_SameInts.f k bt464.1 bt468.1).bind fun t473 => (if t473 = true then (if bt464.2 = bt468.2 then ((kit_SameBools.f k t453 l1).bind fun t474 => (if t474 = true then ((q_awake.f k).bind fun t475 => (if t475 = true then (some true) else (none))) else (none))) else (none)) else (none))) else (none)) else (none))))))))) = some r := h
  clear h
  by_cases c4 : (l1.length : Int) > 600
  · rw [if_pos c4] at H
    have c4b0 : decide (600 < (l1.length : Int)) = true := decide_eq_true c4
    have c4b1 : decide (600 < l1.length) = true := decide_eq_true (by omega)
    clear c4
    replace H := Option.bind_eq_some_iff.mp H
    obtain ⟨t452, A50, H⟩ := H
    replace H : (if t452 = true then (some true) else (none)) = some r := H
    have A5 := Aside0.mk A50
    clear A50
    by_cases c6 : t452 = true
    · subst c6
      have H1 : (some true) = some r := by rw [if_pos rfl] at H; exact H
      clear H
      have H := H1
      clear H1
      obtain rfl := Option.some.inj H
      go_enter Try.func3, Try.ntmps3
      go_wp2_with (first | ((with_reducible refine gate_dst (N := 3) rfl ?_); refine bxe (cs := #[.int .i64 a0_0, .int .i64 a0_1, .int .i64 a0_2]) (t := 23) ?_; intro gb451 hg w7 hbox hb; have BK451 := Aside0.mk (hbox); have GW451 := Aside0.mk (bge hg HB.out); have GE451 := Aside0.mk (bge hg HB.out); replace HB := Aside0.mk (bst HB.out hb); clear hb hbox hg) | ((with_reducible refine gate_callee (f := 9) rfl ?_); refine gsl (some 19) Try.func9 #[] ?_; (with_reducible refine (q_awake.calls k  true _ A5.out).mono ?_); rintro e w8 ⟨rfl, hb⟩; refine ⟨_, rfl, ?_⟩; replace BK451 := Aside0.mk (bkb BK451.out hb); replace HB := Aside0.mk (bst HB.out hb); (try clear hb); (try clear hb2); (try clear hk); (try clear hi)))
      go_ret
      exact bfin (bel HB.out)
    · replace c6 := Bool.eq_false_iff.mpr c6
      subst c6
      have H1 : (none) = some r := by rw [if_neg (show ¬ (false = true) by decide)] at H; exact H
      clear H
      have H := H1
      clear H1
      exact absurd H (by simp)
  · rw [if_neg c4] at H
    have c4b0 : decide (600 < (l1.length : Int)) = false := decide_eq_false c4
    have c4b1 : decide (600 < l1.length) = false := decide_eq_false (by omega)
    clear c4
    replace H := Option.bind_eq_some_iff.mp H
    obtain ⟨t453, A90, H⟩ := H
    replace H : ((cycle_Panels.f a0_0 a0_1 a0_2 t453).bind fun bt456 => ((ref_Panels.f k a0_0 a0_1 a0_2 l1).bind fun bt460 => ((cycle_Forced.f a0_0 a0_1 a0_2 t453 a2).bind fun bt464 => ((ref_Forced.f k a0_0 a0_1 a0_2 l1 a2).bind fun bt468 => ((kit_SameInts.f k bt456.1 bt460.1).bind fun t472 => (if t472 = true then (if bt456.2 = bt460.2 then ((kit_SameInts.f k bt464.1 bt468.1).bind fun t473 => (if t473 = true then (if bt464.2 = bt468.2 then ((kit_SameBools.f k t453 l1).bind fun t474 => (if t474 = true then ((q_awake.f k).bind fun t475 => (if t475 = true then (some true) else (none))) else (none))) else (none)) else (none))) else (none)) else (none))))))) = some r := H
    have A9 := Aside0.mk A90
    clear A90
    replace H := Option.bind_eq_some_iff.mp H
    obtain ⟨⟨t456, t459⟩, A100, H⟩ := H
    replace H : ((ref_Panels.f k a0_0 a0_1 a0_2 l1).bind fun bt460 => ((cycle_Forced.f a0_0 a0_1 a0_2 t453 a2).bind fun bt464 => ((ref_Forced.f k a0_0 a0_1 a0_2 l1 a2).bind fun bt468 => ((kit_SameInts.f k t456 bt460.1).bind fun t472 => (if t472 = true then (if t459 = bt460.2 then ((kit_SameInts.f k bt464.1 bt468.1).bind fun t473 => (if t473 = true then (if bt464.2 = bt468.2 then ((kit_SameBools.f k t453 l1).bind fun t474 => (if t474 = true then ((q_awake.f k).bind fun t475 => (if t475 = true then (some true) else (none))) else (none))) else (none)) else (none))) else (none)) else (none)))))) = some r := H
    have A10 := Aside0.mk A100
    clear A100
    replace H := Option.bind_eq_some_iff.mp H
    obtain ⟨⟨t460, t463⟩, A110, H⟩ := H
    replace H : ((cycle_Forced.f a0_0 a0_1 a0_2 t453 a2).bind fun bt464 => ((ref_Forced.f k a0_0 a0_1 a0_2 l1 a2).bind fun bt468 => ((kit_SameInts.f k t456 t460).bind fun t472 => (if t472 = true then (if t459 = t463 then ((kit_SameInts.f k bt464.1 bt468.1).bind fun t473 => (if t473 = true then (if bt464.2 = bt468.2 then ((kit_SameBools.f k t453 l1).bind fun t474 => (if t474 = true then ((q_awake.f k).bind fun t475 => (if t475 = true then (some true) else (none))) else (none))) else (none)) else (none))) else (none)) else (none))))) = some r := H
    have A11 := Aside0.mk A110
    clear A110
    replace H := Option.bind_eq_some_iff.mp H
    obtain ⟨⟨t464, t467⟩, A120, H⟩ := H
    replace H : ((ref_Forced.f k a0_0 a0_1 a0_2 l1 a2).bind fun bt468 => ((kit_SameInts.f k t456 t460).bind fun t472 => (if t472 = true then (if t459 = t463 then ((kit_SameInts.f k t464 bt468.1).bind fun t473 => (if t473 = true then (if t467 = bt468.2 then ((kit_SameBools.f k t453 l1).bind fun t474 => (if t474 = true then ((q_awake.f k).bind fun t475 => (if t475 = true then (some true) else (none))) else (none))) else (none)) else (none))) else (none)) else (none)))) = some r := H
    have A12 := Aside0.mk A120
    clear A120
    replace H := Option.bind_eq_some_iff.mp H
    obtain ⟨⟨t468, t471⟩, A130, H⟩ := H
    replace H : ((kit_SameInts.f k t456 t460).bind fun t472 => (if t472 = true then (if t459 = t463 then ((kit_SameInts.f k t464 t468).bind fun t473 => (if t473 = true then (if t467 = t471 then ((kit_SameBools.f k t453 l1).bind fun t474 => (if t474 = true then ((q_awake.f k).bind fun t475 => (if t475 = true then (some true) else (none))) else (none))) else (none)) else (none))) else (none)) else (none))) = some r := H
    have A13 := Aside0.mk A130
    clear A130
    replace H := Option.bind_eq_some_iff.mp H
    obtain ⟨t472, A140, H⟩ := H
    replace H : (if t472 = true then (if t459 = t463 then ((kit_SameInts.f k t464 t468).bind fun t473 => (if t473 = true then (if t467 = t471 then ((kit_SameBools.f k t453 l1).bind fun t474 => (if t474 = true then ((q_awake.f k).bind fun t475 => (if t475 = true then (some true) else (none))) else (none))) else (none)) else (none))) else (none)) else (none)) = some r := H
    have A14 := Aside0.mk A140
    clear A140
    by_cases c15 : t472 = true
    · subst c15
      have H1 : (if t459 = t463 then ((kit_SameInts.f k t464 t468).bind fun t473 => (if t473 = true then (if t467 = t471 then ((kit_SameBools.f k t453 l1).bind fun t474 => (if t474 = true then ((q_awake.f k).bind fun t475 => (if t475 = true then (some true) else (none))) else (none))) else (none)) else (none))) else (none)) = some r := by rw [if_pos rfl] at H; exact H
      clear H
      have H := H1
      clear H1
      by_cases c16 : t459 = t463
      · rw [if_pos c16] at H
        have c16b0 : (t459 == t463) = true := beq_iff_eq.mpr c16
        have c16b1 : (t459 != t463) = false := bne_eq_false_iff_eq.mpr c16
        clear c16
        replace H := Option.bind_eq_some_iff.mp H
        obtain ⟨t473, A170, H⟩ := H
        replace H : (if t473 = true then (if t467 = t471 then ((kit_SameBools.f k t453 l1).bind fun t474 => (if t474 = true then ((q_awake.f k).bind fun t475 => (if t475 = true then (some true) else (none))) else (none))) else (none)) else (none)) = some r := H
        have A17 := Aside0.mk A170
        clear A170
        by_cases c18 : t473 = true
        · subst c18
          have H1 : (if t467 = t471 then ((kit_SameBools.f k t453 l1).bind fun t474 => (if t474 = true then ((q_awake.f k).bind fun t475 => (if t475 = true then (some true) else (none))) else (none))) else (none)) = some r := by rw [if_pos rfl] at H; exact H
          clear H
          have H := H1
          clear H1
          by_cases c19 : t467 = t471
          · rw [if_pos c19] at H
            have c19b0 : (t467 == t471) = true := beq_iff_eq.mpr c19
            have c19b1 : (t467 != t471) = false := bne_eq_false_iff_eq.mpr c19
            clear c19
            replace H := Option.bind_eq_some_iff.mp H
            obtain ⟨t474, A200, H⟩ := H
            replace H : (if t474 = true then ((q_awake.f k).bind fun t475 => (if t475 = true then (some true) else (none))) else (none)) = some r := H
            have A20 := Aside0.mk A200
            clear A200
            by_cases c21 : t474 = true
            · subst c21
              have H1 : ((q_awake.f k).bind fun t475 => (if t475 = true then (some true) else (none))) = some r := by rw [if_pos rfl] at H; exact H
              clear H
              have H := H1
              clear H1
              replace H := Option.bind_eq_some_iff.mp H
              obtain ⟨t475, A220, H⟩ := H
              replace H : (if t475 = true then (some true) else (none)) = some r := H
              have A22 := Aside0.mk A220
              clear A220
              by_cases c23 : t475 = true
              · subst c23
                have H1 : (some true) = some r := by rw [if_pos rfl] at H; exact H
                clear H
                have H := H1
                clear H1
                obtain rfl := Option.some.inj H
                go_enter Try.func3, Try.ntmps3
                go_wp2_with (first | ((with_reducible refine gate_dst (N := 3) rfl ?_); refine bxe (cs := #[.int .i64 a0_0, .int .i64 a0_1, .int .i64 a0_2]) (t := 23) ?_; intro gb451 hg w24 hbox hb; have BK451 := Aside0.mk (hbox); have GW451 := Aside0.mk (bge hg HB.out); have GE451 := Aside0.mk (bge hg HB.out); replace HB := Aside0.mk (bst HB.out hb); clear hb hbox hg) | ((with_reducible refine gate_callee (f := 10) rfl ?_); refine gsl (some 21) Try.func10 #[.slice A1 l1.length c1] ?_; (with_reducible refine (kit_OwnBools.calls _ _ l1 t453 _ ?side1 ?side2 A9.out).mono ?_); (case side1 => repeat (first | exact (Kd.C_below HR1.out HB.out) | (with_reducible refine Kd.C_alloc ?_ _) | (with_reducible refine Kd.C_drewN ?_ _) | (with_reducible refine Kd.C_drew ?_))); (case side2 => exact HC1.out); rintro e w25 ⟨v454, rfl, ho0, hb⟩; refine ⟨_, rfl, ?_⟩; have HO455 := Aside0.mk (Kd.R_lower ho0 (bsz HB.out)); replace BK451 := Aside0.mk (bkb BK451.out hb); replace HB := Aside0.mk (bst HB.out hb); (try clear hb); (try clear hb2); (try clear hk); (try clear hi); (try clear ho0); have hcz26_0 := cz3 BK451.out; have hfz26_0 := blk_frozen BK451.out; obtain ⟨Ao27, co27, eo27⟩ := Kd.R_slice HO455.out; subst eo27) | ((with_reducible refine gate_callee (f := 11) rfl ?_); refine gsl (some 25) Try.func11 #[.agg #[.int .i64 a0_0, .int .i64 a0_1, .int .i64 a0_2], .slice Ao27 t453.length co27] ?_; (with_reducible refine (cycle_Panels.calls a0_0 a0_1 a0_2 _ _ t453 t456 t459 _ ?side1 ?side2 A10.out).mono ?_); (case side1 => repeat (first | exact (Kd.R_reads' HO455.out).2.2 | (with_reducible refine Kd.C_alloc ?_ _) | (with_reducible refine Kd.C_drewN ?_ _) | (with_reducible refine Kd.C_drew ?_))); (case side2 => exact (Kd.R_reads' HO455.out).2.1); rintro e w28 ⟨v457, rfl, ho0, hb⟩; refine ⟨_, rfl, ?_⟩; have HO458 := Aside0.mk (Kd.R_lower ho0 (bsz HB.out)); replace HO455 := Aside0.mk (Kd.R_below (kdt HO455.out) hb); replace BK451 := Aside0.mk (bkb BK451.out hb); replace HB := Aside0.mk (bst HB.out hb); (try clear hb); (try clear hb2); (try clear hk); (try clear hi); (try clear ho0); have hcz29_0 := cz3 BK451.out; have hfz29_0 := blk_frozen BK451.out) | ((with_reducible refine gate_callee (f := 12) rfl ?_); refine gsl (some 31) Try.func12 #[.agg #[.int .i64 a0_0, .int .i64 a0_1, .int .i64 a0_2], .slice A1 l1.length c1] ?_; (with_reducible refine (ref_Panels.calls k a0_0 a0_1 a0_2 _ _ l1 t460 t463 _ ?side1 ?side2 A11.out).mono ?_); (case side1 => repeat (first | exact (Kd.C_below HR1.out HB.out) | (with_reducible refine Kd.C_alloc ?_ _) | (with_reducible refine Kd.C_drewN ?_ _) | (with_reducible refine Kd.C_drew ?_))); (case side2 => exact HC1.out); rintro e w30 ⟨v461, rfl, ho0, hb⟩; refine ⟨_, rfl, ?_⟩; have HO462 := Aside0.mk (Kd.R_lower (Kd.R_new' ho0 (Kd.R_lt (kdt HO458.out))) (bsz HB.out)); replace HO455 := Aside0.mk (Kd.R_below (kdt HO455.out) hb); replace HO458 := Aside0.mk (Kd.R_elder' (kdt HO458.out) (Kd.R_base ho0) hb); replace BK451 := Aside0.mk (bkb BK451.out hb); replace HB := Aside0.mk (bst HB.out hb); (try clear hb); (try clear hb2); (try clear hk); (try clear hi); (try clear ho0); have hcz31_0 := cz3 BK451.out; have hfz31_0 := blk_frozen BK451.out) | ((with_reducible refine gate_callee (f := 13) rfl ?_); refine gsl (some 38) Try.func13 #[.agg #[.int .i64 a0_0, .int .i64 a0_1, .int .i64 a0_2], .slice Ao27 t453.length co27, .int .i64 a2] ?_; (with_reducible refine (cycle_Forced.calls a0_0 a0_1 a0_2 _ _ t453 a2 t464 t467 _ ?side1 ?side2 A12.out).mono ?_); (case side1 => repeat (first | exact (Kd.R_reads' HO455.out).2.2 | (with_reducible refine Kd.C_alloc ?_ _) | (with_reducible refine Kd.C_drewN ?_ _) | (with_reducible refine Kd.C_drew ?_))); (case side2 => exact (Kd.R_reads' HO455.out).2.1); rintro e w32 ⟨v465, rfl, ho0, hb⟩; refine ⟨_, rfl, ?_⟩; have HO466 := Aside0.mk (Kd.R_lower (Kd.R_new' (Kd.R_new' ho0 (Kd.R_lt (kdt HO458.out))) (Kd.R_lt (kdt HO462.out))) (bsz HB.out)); replace HO455 := Aside0.mk (Kd.R_below (kdt HO455.out) hb); replace HO458 := Aside0.mk (Kd.R_elder' (kdt HO458.out) (Kd.R_base ho0) hb); replace HO462 := Aside0.mk (Kd.R_elder' (kdt HO462.out) (Kd.R_base ho0) hb); replace BK451 := Aside0.mk (bkb BK451.out hb); replace HB := Aside0.mk (bst HB.out hb); (try clear hb); (try clear hb2); (try clear hk); (try clear hi); (try clear ho0); have hcz33_0 := cz3 BK451.out; have hfz33_0 := blk_frozen BK451.out) | ((with_reducible refine gate_callee (f := 14) rfl ?_); refine gsl (some 45) Try.func14 #[.agg #[.int .i64 a0_0, .int .i64 a0_1, .int .i64 a0_2], .slice A1 l1.length c1, .int .i64 a2] ?_; (with_reducible refine (ref_Forced.calls k a0_0 a0_1 a0_2 _ _ l1 a2 t468 t471 _ ?side1 ?side2 A13.out).mono ?_); (case side1 => repeat (first | exact (Kd.C_below HR1.out HB.out) | (with_reducible refine Kd.C_alloc ?_ _) | (with_reducible refine Kd.C_drewN ?_ _) | (with_reducible refine Kd.C_drew ?_))); (case side2 => exact HC1.out); rintro e w34 ⟨v469, rfl, ho0, hb⟩; refine ⟨_, rfl, ?_⟩; have HO470 := Aside0.mk (Kd.R_lower (Kd.R_new' (Kd.R_new' (Kd.R_new' ho0 (Kd.R_lt (kdt HO458.out))) (Kd.R_lt (kdt HO462.out))) (Kd.R_lt (kdt HO466.out))) (bsz HB.out)); replace HO455 := Aside0.mk (Kd.R_below (kdt HO455.out) hb); replace HO458 := Aside0.mk (Kd.R_elder' (kdt HO458.out) (Kd.R_base ho0) hb); replace HO462 := Aside0.mk (Kd.R_elder' (kdt HO462.out) (Kd.R_base ho0) hb); replace HO466 := Aside0.mk (Kd.R_elder' (kdt HO466.out) (Kd.R_base ho0) hb); replace BK451 := Aside0.mk (bkb BK451.out hb); replace HB := Aside0.mk (bst HB.out hb); (try clear hb); (try clear hb2); (try clear hk); (try clear hi); (try clear ho0); obtain ⟨Ao35, co35, eo35⟩ := Kd.R_slice HO458.out; subst eo35; obtain ⟨Ao36, co36, eo36⟩ := Kd.R_slice HO462.out; subst eo36) | ((with_reducible refine gate_callee (f := 15) rfl ?_); refine gsl (some 50) Try.func15 #[.slice Ao35 t456.length co35, .slice Ao36 t460.length co36] ?_; (with_reducible refine (kit_SameInts.calls k _ _ t456 _ _ t460 true _ ?side1 ?side2 ?side3 ?side4 A14.out).mono ?_); (case side1 => repeat (first | exact (Kd.R_reads' HO458.out).2.2 | (with_reducible refine Kd.C_alloc ?_ _) | (with_reducible refine Kd.C_drewN ?_ _) | (with_reducible refine Kd.C_drew ?_))); (case side2 => exact (Kd.R_reads' HO458.out).2.1); (case side3 => repeat (first | exact (Kd.R_reads' HO462.out).2.2 | (with_reducible refine Kd.C_alloc ?_ _) | (with_reducible refine Kd.C_drewN ?_ _) | (with_reducible refine Kd.C_drew ?_))); (case side4 => exact (Kd.R_reads' HO462.out).2.1); rintro e w' ⟨rfl, ⟨nd, rfl⟩⟩; refine ⟨_, rfl, ?_⟩; obtain ⟨Ao37, co37, eo37⟩ := Kd.R_slice HO466.out; subst eo37; obtain ⟨Ao38, co38, eo38⟩ := Kd.R_slice HO470.out; subst eo38) | (go_at_call 15; (with_reducible refine (kit_SameInts.calls k _ _ t464 _ _ t468 true _ ?side1 ?side2 ?side3 ?side4 A17.out).mono ?_); (case side1 => repeat (first | exact (Kd.R_reads' HO466.out).2.2 | (with_reducible refine Kd.C_alloc ?_ _) | (with_reducible refine Kd.C_drewN ?_ _) | (with_reducible refine Kd.C_drew ?_))); (case side2 => exact (Kd.R_reads' HO466.out).2.1); (case side3 => repeat (first | exact (Kd.R_reads' HO470.out).2.2 | (with_reducible refine Kd.C_alloc ?_ _) | (with_reducible refine Kd.C_drewN ?_ _) | (with_reducible refine Kd.C_drew ?_))); (case side4 => exact (Kd.R_reads' HO470.out).2.1); rintro e w' ⟨rfl, ⟨nd, rfl⟩⟩) | (go_at_call 16; (with_reducible refine (kit_SameBools.calls k _ _ t453 _ _ l1 true _ ?side1 ?side2 ?side3 ?side4 A20.out).mono ?_); (case side1 => repeat (first | exact (Kd.R_reads' HO455.out).2.2 | (with_reducible refine Kd.C_alloc ?_ _) | (with_reducible refine Kd.C_drewN ?_ _) | (with_reducible refine Kd.C_drew ?_))); (case side2 => exact (Kd.R_reads' HO455.out).2.1); (case side3 => repeat (first | exact (Kd.C_below HR1.out (bel HB.out)) | (with_reducible refine Kd.C_alloc ?_ _) | (with_reducible refine Kd.C_drewN ?_ _) | (with_reducible refine Kd.C_drew ?_))); (case side4 => exact HC1.out); rintro e w' ⟨rfl, ⟨nd, rfl⟩⟩) | (go_at_call 9; (with_reducible refine (q_awake.calls k  true _ A22.out).mono ?_); rintro e w39 ⟨rfl, hb⟩; replace HO455 := Aside0.mk (Kd.R_below (kdt HO455.out) hb); replace HO458 := Aside0.mk (Kd.R_below (kdt HO458.out) hb); replace HO462 := Aside0.mk (Kd.R_below (kdt HO462.out) hb); replace HO466 := Aside0.mk (Kd.R_below (kdt HO466.out) hb); replace HO470 := Aside0.mk (Kd.R_below (kdt HO470.out) hb); replace BK451 := Aside0.mk (bkb BK451.out hb); replace HB := Aside0.mk (bst HB.out hb); (try clear hb); (try clear hb2); (try clear hk); (try clear hi)))
                go_ret
                exact bfin (bel HB.out)
              · replace c23 := Bool.eq_false_iff.mpr c23
                subst c23
                have H1 : (none) = some r := by rw [if_neg (show ¬ (false = true) by decide)] at H; exact H
                clear H
                have H := H1
                clear H1
                exact absurd H (by simp)
            · replace c21 := Bool.eq_false_iff.mpr c21
              subst c21
              have H1 : (none) = some r := by rw [if_neg (show ¬ (false = true) by decide)] at H; exact H
              clear H
              have H := H1
              clear H1
              exact absurd H (by simp)
          · rw [if_neg c19] at H
            exact absurd H (by simp)
        · replace c18 := Bool.eq_false_iff.mpr c18
          subst c18
          have H1 : (none) = some r := by rw [if_neg (show ¬ (false = true) by decide)] at H; exact H
          clear H
          have H := H1
          clear H1
          exact absurd H (by simp)
      · rw [if_neg c16] at H
        exact absurd H (by simp)
    · replace c15 := Bool.eq_false_iff.mpr c15
      subst c15
      have H1 : (none) = some r := by rw [if_neg (show ¬ (false = true) by decide)] at H; exact H
      clear H
      have H := H1
      clear H1
      exact absurd H (by simp)

/-- THE ONE PURE STATEMENT of q_CyclePanels: yours. -/
def q_CyclePanels.Pure : Prop := ∀ (a0_0 : Int) (a0_1 : Int) (a0_2 : Int) (l1 : List Bool) (a2 : Int), (Lit.int .i64 a0_0).wf = true → (Lit.int .i64 a0_1).wf = true → (Lit.int .i64 a0_2).wf = true → l1.length ≤ maxLen → l1.length * 1 ≤ 140737488351232 → (Lit.int .i64 a2).wf = true → ∃ k, q_CyclePanels.f k a0_0 a0_1 a0_2 l1 a2 = some true
theorem q_CyclePanels.walk (P : q_CyclePanels.Pure) (a0_0 : Int) (a0_1 : Int) (a0_2 : Int) (A1 : Option Addr) (c1 : Nat) (l1 : List Bool) (a2 : Int) (w : World) (w0_0 : (Lit.int .i64 a0_0).wf = true) (w0_1 : (Lit.int .i64 a0_1).wf = true) (w0_2 : (Lit.int .i64 a0_2).wf = true) (hr1 : Kd.C Kd.bool w A1 l1.length l1) (hc1 : l1.length ≤ c1) (hm1 : l1.length ≤ maxLen) (y1 : l1.length * 1 ≤ 140737488351232) (w2 : (Lit.int .i64 a2).wf = true) :
    Calls Try.prog 3 #[.agg #[.int .i64 a0_0, .int .i64 a0_1, .int .i64 a0_2], .slice A1 l1.length c1, .int .i64 a2] w fun e w' => e = .returned (.bool true) ∧ Below w.heap.size w w' := by
  obtain ⟨k, h⟩ := P a0_0 a0_1 a0_2 l1 a2 w0_0 w0_1 w0_2 hm1 y1 w2
  refine (q_CyclePanels.calls k a0_0 a0_1 a0_2 _ _ l1 a2 true w hr1 hc1 h).mono ?_
  rintro e w' ⟨rfl, hd⟩
  exact ⟨rfl, hd⟩

end Go.Proofs.Ytmjmdnpenpdmhaa.P
