import Derived.Test.YtmdcjmackhjchaaZad
import Derived.Test.YtmdcjmackhjchaaZaq
import Derived.Test.YtmdcjmackhjchaaZar
import Derived.Test.YtmdcjmackhjchaaZan
import Derived.Test.YtmdcjmackhjchaaZak
section
-- Printed by wip/myprint.py of this repo (over the kit's printer). Not trusted: Lean checks it.
namespace Go.Proofs.Ytmdcjmackhjchaa.P
open Go.RowKit Go.Proofs.YtmdcjmackhjchaaW.PrintWords Go.Proofs.YtmdcjmackhjchaaW.PrintLast Go.Proofs.YtmdcjmackhjchaaW.PrintMore
attribute [local go_sem] cell_same1 cell_some1 ix27_0 ix27_1 ix27_2
attribute [local go_sem] max2_int min2_int max_two min_two max_three min_three max_four min_four   -- for this text's walks alone
set_option linter.unusedVariables false
set_option linter.unusedSimpArgs false

/-! ### r18_Rule: function 49 -/
def r18_Rule.f (a0_0 : Int) (a0_1 : Int) (a0_2 : Int) : Option (Int) := if a0_0 < 1 then (some 2) else (if a0_0 > 20 then (some 2) else (if a0_1 < 1 then (some 2) else (if a0_1 > 50 then (some 2) else (if a0_2 < 0 then (some 2) else (if a0_2 > 5 then (some 2) else (some 0))))))
set_option maxHeartbeats 8000000 in
set_option maxRecDepth 100000 in
theorem r18_Rule.calls (a0_0 : Int) (a0_1 : Int) (a0_2 : Int) (r : Int) (w : World) (h : r18_Rule.f a0_0 a0_1 a0_2 = some r) :
    Calls Try.prog 49 #[.agg #[.int .i64 a0_0, .int .i64 a0_1, .int .i64 a0_2]] w fun e w' => e = .returned (.int .i64 r) ∧ Below w.heap.size w w' := by
  have hu60 := Try.underlying60
  have HB := Aside0.mk (Below.refl w.heap.size w)
  have H : (if a0_0 < 1 then (some 2) else (if a0_0 > 20 then (some 2) else (if a0_1 < 1 then (some 2) else (if a0_1 > 50 then (some 2) else (if a0_2 < 0 then (some 2) else (if a0_2 > 5 then (some 2) else (some 0))))))) = some r := h
  clear h
  by_cases c2 : a0_0 < 1
  · as_aux_lemma =>
    rw [if_pos c2] at H
    have c2b0 : decide (a0_0 < 1) = true := decide_eq_true c2
    clear c2
    obtain rfl := Option.some.inj H
    go_enter Try.func49, Try.ntmps49
    go_wp2_with (first | ((with_reducible refine gate_dst (N := 1) rfl ?_); refine bxe (cs := #[.int .i64 a0_0, .int .i64 a0_1, .int .i64 a0_2]) (t := 60) ?_; intro gb247 hg w3 hbox hb; have BK247 := Aside0.mk (hbox); have GW247 := Aside0.mk (bge hg HB.out); have GE247 := Aside0.mk (bge hg HB.out); replace HB := Aside0.mk (bst HB.out hb); clear hb hbox hg; have hcz4_0 := cz3 BK247.out; have hfz4_0 := blk_frozen BK247.out))
    go_ret
    exact bfin (bel HB.out)
  · as_aux_lemma =>
    rw [if_neg c2] at H
    have c2b0 : decide (a0_0 < 1) = false := decide_eq_false c2
    clear c2
    by_cases c5 : a0_0 > 20
    · as_aux_lemma =>
      rw [if_pos c5] at H
      have c5b0 : decide (20 < a0_0) = true := decide_eq_true c5
      clear c5
      obtain rfl := Option.some.inj H
      go_enter Try.func49, Try.ntmps49
      go_wp2_with (first | ((with_reducible refine gate_dst (N := 1) rfl ?_); refine bxe (cs := #[.int .i64 a0_0, .int .i64 a0_1, .int .i64 a0_2]) (t := 60) ?_; intro gb247 hg w6 hbox hb; have BK247 := Aside0.mk (hbox); have GW247 := Aside0.mk (bge hg HB.out); have GE247 := Aside0.mk (bge hg HB.out); replace HB := Aside0.mk (bst HB.out hb); clear hb hbox hg; have hcz7_0 := cz3 BK247.out; have hfz7_0 := blk_frozen BK247.out))
      go_ret
      exact bfin (bel HB.out)
    · as_aux_lemma =>
      rw [if_neg c5] at H
      have c5b0 : decide (20 < a0_0) = false := decide_eq_false c5
      clear c5
      by_cases c8 : a0_1 < 1
      · as_aux_lemma =>
        rw [if_pos c8] at H
        have c8b0 : decide (a0_1 < 1) = true := decide_eq_true c8
        clear c8
        obtain rfl := Option.some.inj H
        go_enter Try.func49, Try.ntmps49
        go_wp2_with (first | ((with_reducible refine gate_dst (N := 1) rfl ?_); refine bxe (cs := #[.int .i64 a0_0, .int .i64 a0_1, .int .i64 a0_2]) (t := 60) ?_; intro gb247 hg w9 hbox hb; have BK247 := Aside0.mk (hbox); have GW247 := Aside0.mk (bge hg HB.out); have GE247 := Aside0.mk (bge hg HB.out); replace HB := Aside0.mk (bst HB.out hb); clear hb hbox hg; have hcz10_0 := cz3 BK247.out; have hfz10_0 := blk_frozen BK247.out))
        go_ret
        exact bfin (bel HB.out)
      · as_aux_lemma =>
        rw [if_neg c8] at H
        have c8b0 : decide (a0_1 < 1) = false := decide_eq_false c8
        clear c8
        by_cases c11 : a0_1 > 50
        · as_aux_lemma =>
          rw [if_pos c11] at H
          have c11b0 : decide (50 < a0_1) = true := decide_eq_true c11
          clear c11
          obtain rfl := Option.some.inj H
          go_enter Try.func49, Try.ntmps49
          go_wp2_with (first | ((with_reducible refine gate_dst (N := 1) rfl ?_); refine bxe (cs := #[.int .i64 a0_0, .int .i64 a0_1, .int .i64 a0_2]) (t := 60) ?_; intro gb247 hg w12 hbox hb; have BK247 := Aside0.mk (hbox); have GW247 := Aside0.mk (bge hg HB.out); have GE247 := Aside0.mk (bge hg HB.out); replace HB := Aside0.mk (bst HB.out hb); clear hb hbox hg; have hcz13_0 := cz3 BK247.out; have hfz13_0 := blk_frozen BK247.out))
          go_ret
          exact bfin (bel HB.out)
        · as_aux_lemma =>
          rw [if_neg c11] at H
          have c11b0 : decide (50 < a0_1) = false := decide_eq_false c11
          clear c11
          by_cases c14 : a0_2 < 0
          · as_aux_lemma =>
            rw [if_pos c14] at H
            have c14b0 : decide (a0_2 < 0) = true := decide_eq_true c14
            clear c14
            obtain rfl := Option.some.inj H
            go_enter Try.func49, Try.ntmps49
            go_wp2_with (first | ((with_reducible refine gate_dst (N := 1) rfl ?_); refine bxe (cs := #[.int .i64 a0_0, .int .i64 a0_1, .int .i64 a0_2]) (t := 60) ?_; intro gb247 hg w15 hbox hb; have BK247 := Aside0.mk (hbox); have GW247 := Aside0.mk (bge hg HB.out); have GE247 := Aside0.mk (bge hg HB.out); replace HB := Aside0.mk (bst HB.out hb); clear hb hbox hg; have hcz16_0 := cz3 BK247.out; have hfz16_0 := blk_frozen BK247.out))
            go_ret
            exact bfin (bel HB.out)
          · as_aux_lemma =>
            rw [if_neg c14] at H
            have c14b0 : decide (a0_2 < 0) = false := decide_eq_false c14
            clear c14
            by_cases c17 : a0_2 > 5
            · as_aux_lemma =>
              rw [if_pos c17] at H
              have c17b0 : decide (5 < a0_2) = true := decide_eq_true c17
              clear c17
              obtain rfl := Option.some.inj H
              go_enter Try.func49, Try.ntmps49
              go_wp2_with (first | ((with_reducible refine gate_dst (N := 1) rfl ?_); refine bxe (cs := #[.int .i64 a0_0, .int .i64 a0_1, .int .i64 a0_2]) (t := 60) ?_; intro gb247 hg w18 hbox hb; have BK247 := Aside0.mk (hbox); have GW247 := Aside0.mk (bge hg HB.out); have GE247 := Aside0.mk (bge hg HB.out); replace HB := Aside0.mk (bst HB.out hb); clear hb hbox hg; have hcz19_0 := cz3 BK247.out; have hfz19_0 := blk_frozen BK247.out))
              go_ret
              exact bfin (bel HB.out)
            · as_aux_lemma =>
              rw [if_neg c17] at H
              have c17b0 : decide (5 < a0_2) = false := decide_eq_false c17
              clear c17
              obtain rfl := Option.some.inj H
              go_enter Try.func49, Try.ntmps49
              go_wp2_with (first | ((with_reducible refine gate_dst (N := 1) rfl ?_); refine bxe (cs := #[.int .i64 a0_0, .int .i64 a0_1, .int .i64 a0_2]) (t := 60) ?_; intro gb247 hg w20 hbox hb; have BK247 := Aside0.mk (hbox); have GW247 := Aside0.mk (bge hg HB.out); have GE247 := Aside0.mk (bge hg HB.out); replace HB := Aside0.mk (bst HB.out hb); clear hb hbox hg; have hcz21_0 := cz3 BK247.out; have hfz21_0 := blk_frozen BK247.out))
              go_ret
              exact bfin (bel HB.out)

/-! ### r18_Worst: function 40 -/
def r18_Worst.f (a0_0 : Int) (a0_1 : Int) (a0_2 : Int) : Option (Int × Int) := (r18_Rule.f a0_0 a0_1 a0_2).bind fun t249 => (if t249 = 0 then (some (wrap64 ((wrap64 ((wrap64 (2 * a0_0)) + a0_1)) + (wrap64 (a0_2 * (wrap64 ((wrap64 ((wrap64 (2 * a0_0)) - 1)) + a0_1))))), 0)) else (some (0, t249)))
set_option maxHeartbeats 8000000 in
set_option maxRecDepth 100000 in
theorem r18_Worst.calls (a0_0 : Int) (a0_1 : Int) (a0_2 : Int) (r1 : Int) (r2 : Int) (w : World) (h : r18_Worst.f a0_0 a0_1 a0_2 = some (r1, r2)) :
    Calls Try.prog 40 #[.agg #[.int .i64 a0_0, .int .i64 a0_1, .int .i64 a0_2]] w fun e w' => e = .returned (.tuple #[.int .i64 r1, .int .i64 r2]) ∧ Below w.heap.size w w' := by
  have hu60 := Try.underlying60
  have HB := Aside0.mk (Below.refl w.heap.size w)
  have H : ((r18_Rule.f a0_0 a0_1 a0_2).bind fun t249 => (if t249 = 0 then (some (wrap64 ((wrap64 ((wrap64 (2 * a0_0)) + a0_1)) + (wrap64 (a0_2 * (wrap64 ((wrap64 ((wrap64 (2 * a0_0)) - 1)) + a0_1))))), 0)) else (some (0, t249)))) = some (r1, r2) := h
  clear h
  replace H := Option.bind_eq_some_iff.mp H
  obtain ⟨t249, A20, H⟩ := H
  replace H : (if t249 = 0 then (some (wrap64 ((wrap64 ((wrap64 (2 * a0_0)) + a0_1)) + (wrap64 (a0_2 * (wrap64 ((wrap64 ((wrap64 (2 * a0_0)) - 1)) + a0_1))))), 0)) else (some (0, t249))) = some (r1, r2) := H
  have A2 := Aside0.mk A20
  clear A20
  by_cases c3 : t249 = 0
  · as_aux_lemma =>
    rw [if_pos c3] at H
    have c3b0 : (t249 == 0) = true := beq_iff_eq.mpr c3
    have c3b1 : (t249 != 0) = false := bne_eq_false_iff_eq.mpr c3
    clear c3
    simp only [Option.some.injEq, Prod.mk.injEq] at H
    obtain ⟨rfl, rfl⟩ := H
    go_enter Try.func40, Try.ntmps40
    go_wp2_with (first | ((with_reducible refine gate_dst (N := 1) rfl ?_); refine bxe (cs := #[.int .i64 a0_0, .int .i64 a0_1, .int .i64 a0_2]) (t := 60) ?_; intro gb248 hg w4 hbox hb; have BK248 := Aside0.mk (hbox); have GW248 := Aside0.mk (bge hg HB.out); have GE248 := Aside0.mk (bge hg HB.out); replace HB := Aside0.mk (bst HB.out hb); clear hb hbox hg; have hcz5_0 := cz3 BK248.out; have hfz5_0 := blk_frozen BK248.out) | ((with_reducible refine gate_callee (f := 49) rfl ?_); refine gsl (some 6) Try.func49 #[.agg #[.int .i64 a0_0, .int .i64 a0_1, .int .i64 a0_2]] ?_; (with_reducible refine (r18_Rule.calls a0_0 a0_1 a0_2 t249 _ A2.out).mono ?_); rintro e w6 ⟨rfl, hb⟩; refine ⟨_, rfl, ?_⟩; replace BK248 := Aside0.mk (bkb BK248.out hb); replace HB := Aside0.mk (bst HB.out hb); (try clear hb); (try clear hb2); (try clear hk); (try clear hi); have hcz7_0 := cz3 BK248.out; have hfz7_0 := blk_frozen BK248.out))
    go_ret2
    exact bfin (bel HB.out)
  · as_aux_lemma =>
    rw [if_neg c3] at H
    have c3b0 : (t249 == 0) = false := beq_eq_false_iff_ne.mpr c3
    have c3b1 : (t249 != 0) = true := bne_iff_ne.mpr c3
    simp only [Option.some.injEq, Prod.mk.injEq] at H
    obtain ⟨rfl, rfl⟩ := H
    go_enter Try.func40, Try.ntmps40
    go_wp2_with (first | ((with_reducible refine gate_dst (N := 1) rfl ?_); refine bxe (cs := #[.int .i64 a0_0, .int .i64 a0_1, .int .i64 a0_2]) (t := 60) ?_; intro gb248 hg w8 hbox hb; have BK248 := Aside0.mk (hbox); have GW248 := Aside0.mk (bge hg HB.out); have GE248 := Aside0.mk (bge hg HB.out); replace HB := Aside0.mk (bst HB.out hb); clear hb hbox hg; have hcz9_0 := cz3 BK248.out; have hfz9_0 := blk_frozen BK248.out) | ((with_reducible refine gate_callee (f := 49) rfl ?_); refine gsl (some 6) Try.func49 #[.agg #[.int .i64 a0_0, .int .i64 a0_1, .int .i64 a0_2]] ?_; (with_reducible refine (r18_Rule.calls a0_0 a0_1 a0_2 t249 _ A2.out).mono ?_); rintro e w10 ⟨rfl, hb⟩; refine ⟨_, rfl, ?_⟩; replace BK248 := Aside0.mk (bkb BK248.out hb); replace HB := Aside0.mk (bst HB.out hb); (try clear hb); (try clear hb2); (try clear hk); (try clear hi)))
    go_ret2
    exact bfin (bel HB.out)

end Go.Proofs.Ytmdcjmackhjchaa.P
end

section
-- Printed by wip/myprint.py of this repo (over the kit's printer). Not trusted: Lean checks it.
namespace Go.Proofs.Ytmdcjmackhjchaa.P
open Go.RowKit Go.Proofs.YtmdcjmackhjchaaW.PrintWords Go.Proofs.YtmdcjmackhjchaaW.PrintLast Go.Proofs.YtmdcjmackhjchaaW.PrintMore
attribute [local go_sem] cell_same1 cell_some1 ix27_0 ix27_1 ix27_2
attribute [local go_sem] max2_int min2_int max_two min_two max_three min_three max_four min_four   -- for this text's walks alone
set_option linter.unusedVariables false
set_option linter.unusedSimpArgs false

/-! ### door_Rule: function 44 -/
def door_Rule.f (a0_0 : Int) (a0_1 : Int) (a0_2 : Int) : Option (Int) := if a0_0 < 1 then (some 2) else (if a0_0 > 20 then (some 2) else (if a0_1 < 1 then (some 2) else (if a0_1 > 50 then (some 2) else (if a0_2 < 0 then (some 2) else (if a0_2 > 5 then (some 2) else (some 0))))))
set_option maxHeartbeats 8000000 in
set_option maxRecDepth 100000 in
theorem door_Rule.calls (a0_0 : Int) (a0_1 : Int) (a0_2 : Int) (r : Int) (w : World) (h : door_Rule.f a0_0 a0_1 a0_2 = some r) :
    Calls Try.prog 44 #[.agg #[.int .i64 a0_0, .int .i64 a0_1, .int .i64 a0_2]] w fun e w' => e = .returned (.int .i64 r) ∧ Below w.heap.size w w' := by
  have hu60 := Try.underlying60
  have HB := Aside0.mk (Below.refl w.heap.size w)
  have H : (if a0_0 < 1 then (some 2) else (if a0_0 > 20 then (some 2) else (if a0_1 < 1 then (some 2) else (if a0_1 > 50 then (some 2) else (if a0_2 < 0 then (some 2) else (if a0_2 > 5 then (some 2) else (some 0))))))) = some r := h
  clear h
  by_cases c2 : a0_0 < 1
  · as_aux_lemma =>
    rw [if_pos c2] at H
    have c2b0 : decide (a0_0 < 1) = true := decide_eq_true c2
    clear c2
    obtain rfl := Option.some.inj H
    go_enter Try.func44, Try.ntmps44
    go_wp2_with (first | ((with_reducible refine gate_dst (N := 1) rfl ?_); refine bxe (cs := #[.int .i64 a0_0, .int .i64 a0_1, .int .i64 a0_2]) (t := 60) ?_; intro gb141 hg w3 hbox hb; have BK141 := Aside0.mk (hbox); have GW141 := Aside0.mk (bge hg HB.out); have GE141 := Aside0.mk (bge hg HB.out); replace HB := Aside0.mk (bst HB.out hb); clear hb hbox hg; have hcz4_0 := cz3 BK141.out; have hfz4_0 := blk_frozen BK141.out))
    go_ret
    exact bfin (bel HB.out)
  · as_aux_lemma =>
    rw [if_neg c2] at H
    have c2b0 : decide (a0_0 < 1) = false := decide_eq_false c2
    clear c2
    by_cases c5 : a0_0 > 20
    · as_aux_lemma =>
      rw [if_pos c5] at H
      have c5b0 : decide (20 < a0_0) = true := decide_eq_true c5
      clear c5
      obtain rfl := Option.some.inj H
      go_enter Try.func44, Try.ntmps44
      go_wp2_with (first | ((with_reducible refine gate_dst (N := 1) rfl ?_); refine bxe (cs := #[.int .i64 a0_0, .int .i64 a0_1, .int .i64 a0_2]) (t := 60) ?_; intro gb141 hg w6 hbox hb; have BK141 := Aside0.mk (hbox); have GW141 := Aside0.mk (bge hg HB.out); have GE141 := Aside0.mk (bge hg HB.out); replace HB := Aside0.mk (bst HB.out hb); clear hb hbox hg; have hcz7_0 := cz3 BK141.out; have hfz7_0 := blk_frozen BK141.out))
      go_ret
      exact bfin (bel HB.out)
    · as_aux_lemma =>
      rw [if_neg c5] at H
      have c5b0 : decide (20 < a0_0) = false := decide_eq_false c5
      clear c5
      by_cases c8 : a0_1 < 1
      · as_aux_lemma =>
        rw [if_pos c8] at H
        have c8b0 : decide (a0_1 < 1) = true := decide_eq_true c8
        clear c8
        obtain rfl := Option.some.inj H
        go_enter Try.func44, Try.ntmps44
        go_wp2_with (first | ((with_reducible refine gate_dst (N := 1) rfl ?_); refine bxe (cs := #[.int .i64 a0_0, .int .i64 a0_1, .int .i64 a0_2]) (t := 60) ?_; intro gb141 hg w9 hbox hb; have BK141 := Aside0.mk (hbox); have GW141 := Aside0.mk (bge hg HB.out); have GE141 := Aside0.mk (bge hg HB.out); replace HB := Aside0.mk (bst HB.out hb); clear hb hbox hg; have hcz10_0 := cz3 BK141.out; have hfz10_0 := blk_frozen BK141.out))
        go_ret
        exact bfin (bel HB.out)
      · as_aux_lemma =>
        rw [if_neg c8] at H
        have c8b0 : decide (a0_1 < 1) = false := decide_eq_false c8
        clear c8
        by_cases c11 : a0_1 > 50
        · as_aux_lemma =>
          rw [if_pos c11] at H
          have c11b0 : decide (50 < a0_1) = true := decide_eq_true c11
          clear c11
          obtain rfl := Option.some.inj H
          go_enter Try.func44, Try.ntmps44
          go_wp2_with (first | ((with_reducible refine gate_dst (N := 1) rfl ?_); refine bxe (cs := #[.int .i64 a0_0, .int .i64 a0_1, .int .i64 a0_2]) (t := 60) ?_; intro gb141 hg w12 hbox hb; have BK141 := Aside0.mk (hbox); have GW141 := Aside0.mk (bge hg HB.out); have GE141 := Aside0.mk (bge hg HB.out); replace HB := Aside0.mk (bst HB.out hb); clear hb hbox hg; have hcz13_0 := cz3 BK141.out; have hfz13_0 := blk_frozen BK141.out))
          go_ret
          exact bfin (bel HB.out)
        · as_aux_lemma =>
          rw [if_neg c11] at H
          have c11b0 : decide (50 < a0_1) = false := decide_eq_false c11
          clear c11
          by_cases c14 : a0_2 < 0
          · as_aux_lemma =>
            rw [if_pos c14] at H
            have c14b0 : decide (a0_2 < 0) = true := decide_eq_true c14
            clear c14
            obtain rfl := Option.some.inj H
            go_enter Try.func44, Try.ntmps44
            go_wp2_with (first | ((with_reducible refine gate_dst (N := 1) rfl ?_); refine bxe (cs := #[.int .i64 a0_0, .int .i64 a0_1, .int .i64 a0_2]) (t := 60) ?_; intro gb141 hg w15 hbox hb; have BK141 := Aside0.mk (hbox); have GW141 := Aside0.mk (bge hg HB.out); have GE141 := Aside0.mk (bge hg HB.out); replace HB := Aside0.mk (bst HB.out hb); clear hb hbox hg; have hcz16_0 := cz3 BK141.out; have hfz16_0 := blk_frozen BK141.out))
            go_ret
            exact bfin (bel HB.out)
          · as_aux_lemma =>
            rw [if_neg c14] at H
            have c14b0 : decide (a0_2 < 0) = false := decide_eq_false c14
            clear c14
            by_cases c17 : a0_2 > 5
            · as_aux_lemma =>
              rw [if_pos c17] at H
              have c17b0 : decide (5 < a0_2) = true := decide_eq_true c17
              clear c17
              obtain rfl := Option.some.inj H
              go_enter Try.func44, Try.ntmps44
              go_wp2_with (first | ((with_reducible refine gate_dst (N := 1) rfl ?_); refine bxe (cs := #[.int .i64 a0_0, .int .i64 a0_1, .int .i64 a0_2]) (t := 60) ?_; intro gb141 hg w18 hbox hb; have BK141 := Aside0.mk (hbox); have GW141 := Aside0.mk (bge hg HB.out); have GE141 := Aside0.mk (bge hg HB.out); replace HB := Aside0.mk (bst HB.out hb); clear hb hbox hg; have hcz19_0 := cz3 BK141.out; have hfz19_0 := blk_frozen BK141.out))
              go_ret
              exact bfin (bel HB.out)
            · as_aux_lemma =>
              rw [if_neg c17] at H
              have c17b0 : decide (5 < a0_2) = false := decide_eq_false c17
              clear c17
              obtain rfl := Option.some.inj H
              go_enter Try.func44, Try.ntmps44
              go_wp2_with (first | ((with_reducible refine gate_dst (N := 1) rfl ?_); refine bxe (cs := #[.int .i64 a0_0, .int .i64 a0_1, .int .i64 a0_2]) (t := 60) ?_; intro gb141 hg w20 hbox hb; have BK141 := Aside0.mk (hbox); have GW141 := Aside0.mk (bge hg HB.out); have GE141 := Aside0.mk (bge hg HB.out); replace HB := Aside0.mk (bst HB.out hb); clear hb hbox hg; have hcz21_0 := cz3 BK141.out; have hfz21_0 := blk_frozen BK141.out))
              go_ret
              exact bfin (bel HB.out)

/-! ### door_Worst: function 29 -/
def door_Worst.f (a0_0 : Int) (a0_1 : Int) (a0_2 : Int) : Option (Int × Int) := (door_Rule.f a0_0 a0_1 a0_2).bind fun t143 => (if t143 = 0 then (some (wrap64 ((wrap64 ((wrap64 (2 * a0_0)) + a0_1)) + (wrap64 (a0_2 * (wrap64 ((wrap64 ((wrap64 (2 * a0_0)) - 1)) + a0_1))))), 0)) else (some (0, t143)))
set_option maxHeartbeats 8000000 in
set_option maxRecDepth 100000 in
theorem door_Worst.calls (a0_0 : Int) (a0_1 : Int) (a0_2 : Int) (r1 : Int) (r2 : Int) (w : World) (h : door_Worst.f a0_0 a0_1 a0_2 = some (r1, r2)) :
    Calls Try.prog 29 #[.agg #[.int .i64 a0_0, .int .i64 a0_1, .int .i64 a0_2]] w fun e w' => e = .returned (.tuple #[.int .i64 r1, .int .i64 r2]) ∧ Below w.heap.size w w' := by
  have hu60 := Try.underlying60
  have HB := Aside0.mk (Below.refl w.heap.size w)
  have H : ((door_Rule.f a0_0 a0_1 a0_2).bind fun t143 => (if t143 = 0 then (some (wrap64 ((wrap64 ((wrap64 (2 * a0_0)) + a0_1)) + (wrap64 (a0_2 * (wrap64 ((wrap64 ((wrap64 (2 * a0_0)) - 1)) + a0_1))))), 0)) else (some (0, t143)))) = some (r1, r2) := h
  clear h
  replace H := Option.bind_eq_some_iff.mp H
  obtain ⟨t143, A20, H⟩ := H
  replace H : (if t143 = 0 then (some (wrap64 ((wrap64 ((wrap64 (2 * a0_0)) + a0_1)) + (wrap64 (a0_2 * (wrap64 ((wrap64 ((wrap64 (2 * a0_0)) - 1)) + a0_1))))), 0)) else (some (0, t143))) = some (r1, r2) := H
  have A2 := Aside0.mk A20
  clear A20
  by_cases c3 : t143 = 0
  · as_aux_lemma =>
    rw [if_pos c3] at H
    have c3b0 : (t143 == 0) = true := beq_iff_eq.mpr c3
    have c3b1 : (t143 != 0) = false := bne_eq_false_iff_eq.mpr c3
    clear c3
    simp only [Option.some.injEq, Prod.mk.injEq] at H
    obtain ⟨rfl, rfl⟩ := H
    go_enter Try.func29, Try.ntmps29
    go_wp2_with (first | ((with_reducible refine gate_dst (N := 1) rfl ?_); refine bxe (cs := #[.int .i64 a0_0, .int .i64 a0_1, .int .i64 a0_2]) (t := 60) ?_; intro gb142 hg w4 hbox hb; have BK142 := Aside0.mk (hbox); have GW142 := Aside0.mk (bge hg HB.out); have GE142 := Aside0.mk (bge hg HB.out); replace HB := Aside0.mk (bst HB.out hb); clear hb hbox hg; have hcz5_0 := cz3 BK142.out; have hfz5_0 := blk_frozen BK142.out) | ((with_reducible refine gate_callee (f := 44) rfl ?_); refine gsl (some 6) Try.func44 #[.agg #[.int .i64 a0_0, .int .i64 a0_1, .int .i64 a0_2]] ?_; (with_reducible refine (door_Rule.calls a0_0 a0_1 a0_2 t143 _ A2.out).mono ?_); rintro e w6 ⟨rfl, hb⟩; refine ⟨_, rfl, ?_⟩; replace BK142 := Aside0.mk (bkb BK142.out hb); replace HB := Aside0.mk (bst HB.out hb); (try clear hb); (try clear hb2); (try clear hk); (try clear hi); have hcz7_0 := cz3 BK142.out; have hfz7_0 := blk_frozen BK142.out))
    go_ret2
    exact bfin (bel HB.out)
  · as_aux_lemma =>
    rw [if_neg c3] at H
    have c3b0 : (t143 == 0) = false := beq_eq_false_iff_ne.mpr c3
    have c3b1 : (t143 != 0) = true := bne_iff_ne.mpr c3
    simp only [Option.some.injEq, Prod.mk.injEq] at H
    obtain ⟨rfl, rfl⟩ := H
    go_enter Try.func29, Try.ntmps29
    go_wp2_with (first | ((with_reducible refine gate_dst (N := 1) rfl ?_); refine bxe (cs := #[.int .i64 a0_0, .int .i64 a0_1, .int .i64 a0_2]) (t := 60) ?_; intro gb142 hg w8 hbox hb; have BK142 := Aside0.mk (hbox); have GW142 := Aside0.mk (bge hg HB.out); have GE142 := Aside0.mk (bge hg HB.out); replace HB := Aside0.mk (bst HB.out hb); clear hb hbox hg; have hcz9_0 := cz3 BK142.out; have hfz9_0 := blk_frozen BK142.out) | ((with_reducible refine gate_callee (f := 44) rfl ?_); refine gsl (some 6) Try.func44 #[.agg #[.int .i64 a0_0, .int .i64 a0_1, .int .i64 a0_2]] ?_; (with_reducible refine (door_Rule.calls a0_0 a0_1 a0_2 t143 _ A2.out).mono ?_); rintro e w10 ⟨rfl, hb⟩; refine ⟨_, rfl, ?_⟩; replace BK142 := Aside0.mk (bkb BK142.out hb); replace HB := Aside0.mk (bst HB.out hb); (try clear hb); (try clear hb2); (try clear hk); (try clear hi)))
    go_ret2
    exact bfin (bel HB.out)

end Go.Proofs.Ytmdcjmackhjchaa.P
end

section
/- Rides, heights and worst cases of doors: the program answers as the references do. Plain Lean. -/
namespace Go.Proofs.Ytmdcjmackhjchaa.P
open Go.RowKit Go.Proofs.YtmdcjmackhjchaaW.PrintWords Go.Proofs.YtmdcjmackhjchaaW.PrintLast Go.Proofs.YtmdcjmackhjchaaW.PrintMore
set_option linter.unusedVariables false
set_option linter.unusedSimpArgs false

theorem ptri_succ (v : Int) : ptri (v + 1) = ptri v + (v + 1) := by
  unfold ptri
  rw [show (v + 1) * (v + 1 + 1) = v * (v + 1) + (v + 1) * 2 from by rw [Int.mul_add (v + 1) (v + 1) 1, Int.mul_one, Int.mul_comm v (v + 1), Int.mul_add (v + 1) v 1, Int.mul_one]; omega, Int.add_mul_ediv_right _ _ (by decide)]
theorem ptri_nn (v : Int) (h : -1 ≤ v) : 0 ≤ ptri v := by
  unfold ptri
  by_cases h0 : v = -1
  · subst h0; decide
  · exact Int.ediv_nonneg (Int.mul_nonneg (by omega) (by omega)) (by decide)
/-- The next speed of a drive that can stop. -/
theorem pnext_ok {s L sp : Int} (h0 : 0 ≤ s) (h1 : s ≤ sp) (h2 : 1 ≤ sp) (hL : 1 ≤ L) (ht : ptri (s - 1) ≤ L) :
    ∃ v, pnext s L sp = (v, true) ∧ 1 ≤ v ∧ v ≤ sp ∧ v ≤ L ∧ ptri (v - 1) ≤ L - v ∧ s - 1 ≤ v ∧ v ≤ s + 1 ∧ ptri v ≤ L ∧
      ((v = s + 1) ∨ (v = s ∧ ¬ pok (s + 1) L sp) ∨ (v = s - 1 ∧ ¬ pok (s + 1) L sp ∧ ¬ pok s L sp)) := by
  have fin : ∀ v, 1 ≤ v → ptri v ≤ L → v ≤ L ∧ ptri (v - 1) ≤ L - v := by
    intro v hv hp
    have e := ptri_succ (v - 1)
    rw [show v - 1 + 1 = v from by omega] at e
    have := ptri_nn (v - 1) (by omega)
    omega
  have h11 : ptri 1 = 1 := by decide
  by_cases c1 : pok (s + 1) L sp
  · refine ⟨s + 1, by unfold pnext; rw [if_pos c1], ?_⟩
    obtain ⟨g1, g2, g3⟩ := c1
    have := fin (s + 1) (by omega) g3
    exact ⟨by omega, by omega, this.1, this.2, by omega, by omega, g3, .inl rfl⟩
  · by_cases c2 : pok s L sp
    · have hs : 1 ≤ s := by
        by_cases hs : s = 0
        · subst hs; exact absurd ⟨by omega, by omega, by rw [show (0 : Int) + 1 = 1 from rfl, h11]; exact hL⟩ c1
        · omega
      refine ⟨s, by unfold pnext; rw [if_neg c1, if_pos c2], ?_⟩
      obtain ⟨g1, g2, g3⟩ := c2
      have := fin s hs g3
      exact ⟨by omega, by omega, this.1, this.2, by omega, by omega, g3, .inr (.inl ⟨rfl, c1⟩)⟩
    · have hs : 2 ≤ s := by
        by_cases hs : s = 0
        · subst hs; exact absurd ⟨by omega, by omega, by show ptri 0 ≤ L; rw [show ptri 0 = 0 from by decide]; omega⟩ c2
        · by_cases hs1 : s = 1
          · subst hs1; exact absurd ⟨by omega, by omega, by rw [h11]; exact hL⟩ c2
          · omega
      refine ⟨s - 1, by unfold pnext; rw [if_neg c1, if_neg c2, if_pos ⟨by omega, by omega, ht⟩], ?_⟩
      have := fin (s - 1) (by omega) ht
      exact ⟨by omega, by omega, this.1, this.2, by omega, by omega, ht, .inr (.inr ⟨rfl, c1, c2⟩)⟩

theorem limits_ok (L sp : Int) (h : 0 ≤ L ∧ L ≤ 63000) (h2 : 1 ≤ sp ∧ sp ≤ 20) : profile_limits.f L sp = some true := by
  unfold profile_limits.f
  rw [if_pos (by omega), if_pos (by omega), if_pos (by omega), decide_eq_true (by omega)]
theorem pcnt_ex (lim : Int) (h1 : 1 ≤ lim) (h2 : lim ≤ 20) : ∀ (K : Nat) (s L : Int), 0 ≤ s → s ≤ lim → ptri (s - 1) ≤ L → 0 ≤ L → L < K → L ≤ 70000 → ∃ T, pcnt lim K (s, L) = some T ∧ (T : Int) ≤ L := by
  intro K
  induction K with
  | zero => intro s L _ _ _ h h'; omega
  | succ K ih =>
    intro s L h0 hs ht hL hK h7
    rw [pcnt]
    dsimp only
    by_cases c : L > 0
    · obtain ⟨v, e, v1, v2, v3, v4, v5, v6, v7, v8⟩ := pnext_ok h0 hs h1 (show 1 ≤ L by omega) ht
      obtain ⟨T, hT, hl⟩ := ih v (L - v) (by omega) v2 v4 (by omega) (by omega) (by omega)
      refine ⟨T + 1, ?_, by omega⟩
      rw [if_pos c, if_pos ⟨h0, by omega, by omega⟩]
      unfold pnx
      dsimp only
      rw [e]
      dsimp only
      rw [hT]
      rfl
    · rw [if_neg c]
      exact ⟨0, rfl, by omega⟩

theorem rtri_eq (v : Int) (h : 0 ≤ v) (h2 : v ≤ 100) : r08_tri.f v = some (ptri v) := by
  unfold r08_tri.f ptri
  have h3 : 0 ≤ v * (v + 1) := Int.mul_nonneg h (by omega)
  have h4 : v * (v + 1) ≤ 100 * 101 := Int.mul_le_mul h2 (by omega) (by omega) (by omega)
  rw [wsm (v + 1) (by omega) (by omega), wsm (v * (v + 1)) (by omega) (by omega), Int.tdiv_eq_ediv_of_nonneg h3, wsm _ (by omega) (by omega)]
theorem rnext_eq (k : Nat) {s L sp : Int} (h0 : 0 ≤ s) (h1 : s ≤ sp) (h2 : 1 ≤ sp) (h3 : sp ≤ 20) (hL : 1 ≤ L) (ht : ptri (s - 1) ≤ L) : r08_next.f (k + 4) s L sp = some (pnext s L sp).1 := by
  obtain ⟨v, e, v1, v2, v3, v4, v5, v6, v7, v8⟩ := pnext_ok h0 h1 h2 hL ht
  rw [e]
  unfold r08_next.f
  rw [wsm (s + 1) (by omega) (by omega)]
  have step : ∀ (j : Nat) (x : Int), 0 ≤ x → s - 1 ≤ x → x ≤ 30 → r08_next.l0 (j + 1) s L sp x = (if pok x L sp then some x else r08_next.l0 j s L sp (x - 1)) := by
    intro j x hx hx2 hx3
    rw [r08_next.l0, wsm (s - 1) (by omega) (by omega), if_pos (by omega), if_pos (by omega), wsm (x - 1) (by omega) (by omega)]
    by_cases c : x ≤ sp
    · rw [if_pos c, rtri_eq x hx (by omega), Option.bind_some]
      by_cases c2 : ptri x ≤ L
      · rw [if_pos c2, if_pos ⟨hx, c, c2⟩]
      · rw [if_neg c2, if_neg (fun q => c2 q.2.2)]
    · rw [if_neg c, if_neg (fun q => c q.2.1)]
  rw [show k + 4 = (k + 3) + 1 from rfl, step (k + 3) (s + 1) (by omega) (by omega) (by omega)]
  rcases v8 with v8 | ⟨v8, w1⟩ | ⟨v8, w1, w2⟩
  · rw [if_pos (by rw [← v8]; exact ⟨by omega, v2, v7⟩), v8]
  · rw [if_neg w1, show s + 1 - 1 = s by omega, show k + 3 = (k + 2) + 1 from rfl, step (k + 2) s h0 (by omega) (by omega), if_pos (by rw [← v8]; exact ⟨by omega, v2, v7⟩), v8]
  · rw [if_neg w1, show s + 1 - 1 = s by omega, show k + 3 = (k + 2) + 1 from rfl, step (k + 2) s h0 (by omega) (by omega), if_neg w2, show k + 2 = (k + 1) + 1 from rfl, step (k + 1) (s - 1) (by omega) (by omega) (by omega), if_pos (by rw [← v8]; exact ⟨by omega, v2, v7⟩), v8]
theorem rride_eq (sp : Int) (h2 : 1 ≤ sp) (h3 : sp ≤ 20) : ∀ (K : Nat) (s L t p : Int) (T : Nat) (k : Nat), 0 ≤ s → s ≤ sp → ptri (s - 1) ≤ L → 0 ≤ L → L ≤ 70000 → 0 ≤ t → t + T ≤ 1000000 → pcnt sp K (s, L) = some T → ∃ p', r08_ride.l0 (k + T + 5) sp t p s L = some (t + T, p') := by
  intro K
  induction K with
  | zero => intro s L t p T k _ _ _ _ _ _ _ h; cases h
  | succ K ih =>
    intro s L t p T k hs0 hs1 ht hL0 hL1 h0 h1 h
    rw [pcnt] at h
    dsimp only at h
    by_cases c : L > 0
    · rw [if_pos c, if_pos (by omega)] at h
      obtain ⟨m, hm, rfl⟩ := Option.map_eq_some_iff.mp h
      obtain ⟨v, e, v1, v2, v3, v4, v5, v6, v7, v8⟩ := pnext_ok hs0 hs1 h2 (show 1 ≤ L by omega) ht
      unfold pnx at hm
      dsimp only at hm
      rw [e] at hm
      dsimp only at hm
      obtain ⟨p', hp⟩ := ih v (L - v) (t + 1) (mx p v) m k (by omega) v2 v4 (by omega) (by omega) (by omega) (by omega) hm
      refine ⟨p', ?_⟩
      rw [show k + (m + 1) + 5 = (k + m + 5) + 1 by omega, r08_ride.l0, if_pos c, show k + m + 5 = (k + m + 1) + 4 by omega, rnext_eq _ hs0 hs1 h2 h3 (by omega) ht, e, Option.bind_some, show (k + m + 1) + 4 = k + m + 5 by omega, wsm (t + 1) (by omega) (by omega), wsm (L - v) (by omega) (by omega), hp]
      congr 2
      omega
    · rw [if_neg c] at h
      have hT := Option.some.inj h
      subst hT
      exact ⟨p, by rw [show k + 0 + 5 = (k + 4) + 1 by omega, r08_ride.l0, if_neg c]; congr 2; omega⟩
theorem pcnt_way (L sp : Int) (h : 0 ≤ L) (h1 : L ≤ 63000) (h2 : 1 ≤ sp) (h3 : sp ≤ 20) : ∃ T : Nat, pcnt sp 70000 (0, L) = some T ∧ (T : Int) ≤ L :=
  pcnt_ex sp h2 h3 70000 0 L (by omega) (by omega) (by rw [show ptri (0 - 1) = 0 from by decide]; exact h) h (by omega) (by omega)
theorem travel_eq (L sp : Int) (h : 0 ≤ L) (h1 : L ≤ 63000) (h2 : 1 ≤ sp) (h3 : sp ≤ 20) {T : Nat} (hT : pcnt sp 70000 (0, L) = some T) : profile_Travel.f L sp = some ((T : Int), 0) := by
  unfold profile_Travel.f profile_travel.f
  rw [limits_ok L sp ⟨h, h1⟩ ⟨h2, h3⟩, Option.bind_some, if_pos rfl, hT]
  rfl
theorem rtravel_eq (L sp : Int) (h : 0 ≤ L) (h1 : L ≤ 63000) (h2 : 1 ≤ sp) (h3 : sp ≤ 20) {T : Nat} (hT : pcnt sp 70000 (0, L) = some T) (hl : (T : Int) ≤ L) (k : Nat) : r08_Travel.f (k + T + 5) L sp = some ((T : Int), 0) := by
  unfold r08_Travel.f r08_asks.f r08_ride.f
  rw [if_neg (by omega), if_neg (by omega), if_neg (by omega), if_neg (by omega), Option.bind_some, if_pos rfl]
  obtain ⟨p, hp⟩ := rride_eq sp h2 h3 70000 0 L 0 0 T k (by omega) (by omega) (by rw [show ptri (0 - 1) = 0 from by decide]; exact h) h (by omega) (by omega) (by omega) hT
  rw [hp, Option.bind_some]
  congr 2
  omega
theorem worst_same (w dw rt : Int) : r18_Worst.f w dw rt = door_Worst.f w dw rt := rfl
end Go.Proofs.Ytmdcjmackhjchaa.P
end

section
-- Printed by wip/myprint.py of this repo (over the kit's printer). Not trusted: Lean checks it.
namespace Go.Proofs.Ytmdcjmackhjchaa.P
open Go.RowKit Go.Proofs.YtmdcjmackhjchaaW.PrintWords Go.Proofs.YtmdcjmackhjchaaW.PrintLast Go.Proofs.YtmdcjmackhjchaaW.PrintMore
attribute [local go_sem] cell_same1 cell_some1 ix27_0 ix27_1 ix27_2
attribute [local go_sem] max2_int min2_int max_two min_two max_three min_three max_four min_four   -- for this text's walks alone
set_option linter.unusedVariables false
set_option linter.unusedSimpArgs false

/-! ### bound_Share: function 8 -/
def bound_Share.f (a0_0 : Int) (l0_1 : List Int) (a0_2 : Int) (a0_3 : Int) (a0_4 : Int) (a0_5 : Int) (a0_6 : Int) (a0_7 : Int) (a0_8 : Int) (a0_9 : Int) (a0_10 : Int) (a0_11 : Int) (a0_12 : Int) (l0_13 : List (List Int)) (a0_14 : Int) (a0_15 : Int) (a0_16 : Int) (a0_17 : Int) (a0_18 : Int) (a0_19 : Int) (a0_20 : Int) (a0_21 : Int) (a0_22 : Int) (l0_23 : List Int) (a0_24 : Int) : Option (Int × Int) := (config_Check.f a0_0 l0_1 a0_2 a0_3 a0_4 a0_5 a0_6 a0_7 a0_8 a0_9 a0_10 a0_11 a0_12 l0_13 a0_14 a0_15 a0_16 a0_17 a0_18 a0_19 a0_20 a0_21 a0_22 l0_23 a0_24).bind fun t129 => (if t129 = 0 then (some (wrap64 (Int.tdiv (wrap64 (a0_11 + 1)) 2), 0)) else (some (0, t129)))
set_option maxHeartbeats 8000000 in
set_option maxRecDepth 100000 in
theorem bound_Share.calls (a0_0 : Int) (A0_1 : Option Addr) (c0_1 : Nat) (l0_1 : List Int) (a0_2 : Int) (a0_3 : Int) (a0_4 : Int) (a0_5 : Int) (a0_6 : Int) (a0_7 : Int) (a0_8 : Int) (a0_9 : Int) (a0_10 : Int) (a0_11 : Int) (a0_12 : Int) (A0_13 : Option Addr) (c0_13 : Nat) (l0_13 : List (List Int)) (a0_14 : Int) (a0_15 : Int) (a0_16 : Int) (a0_17 : Int) (a0_18 : Int) (a0_19 : Int) (a0_20 : Int) (a0_21 : Int) (a0_22 : Int) (A0_23 : Option Addr) (c0_23 : Nat) (l0_23 : List Int) (a0_24 : Int) (r1 : Int) (r2 : Int) (w : World) (hr0_1 : Kd.C (Kd.int .i64) w A0_1 l0_1.length l0_1) (hc0_1 : l0_1.length ≤ c0_1) (hr0_13 : Kd.C (Kd.slice 3 (Kd.int .i64)) w A0_13 l0_13.length l0_13) (hc0_13 : l0_13.length ≤ c0_13) (hr0_23 : Kd.C (Kd.int .i64) w A0_23 l0_23.length l0_23) (hc0_23 : l0_23.length ≤ c0_23) (h : bound_Share.f a0_0 l0_1 a0_2 a0_3 a0_4 a0_5 a0_6 a0_7 a0_8 a0_9 a0_10 a0_11 a0_12 l0_13 a0_14 a0_15 a0_16 a0_17 a0_18 a0_19 a0_20 a0_21 a0_22 l0_23 a0_24 = some (r1, r2)) :
    Calls Try.prog 8 #[.agg #[.int .i64 a0_0, .slice A0_1 l0_1.length c0_1, .int .i64 a0_2, .int .i64 a0_3, .int .i64 a0_4, .int .i64 a0_5, .int .i64 a0_6, .int .i64 a0_7, .int .i64 a0_8, .int .i64 a0_9, .int .i64 a0_10, .int .i64 a0_11, .int .i64 a0_12, .slice A0_13 l0_13.length c0_13, .int .u64 a0_14, .int .i64 a0_15, .int .i64 a0_16, .int .u64 a0_17, .int .i64 a0_18, .int .i64 a0_19, .int .u64 a0_20, .int .i64 a0_21, .int .i64 a0_22, .slice A0_23 l0_23.length c0_23, .int .i64 a0_24]] w fun e w' => e = .returned (.tuple #[.int .i64 r1, .int .i64 r2]) ∧ Below w.heap.size w w' := by
  have hu29 := Try.underlying29
  have HR0_1 := Aside0.mk hr0_1
  have HC0_1 := Aside0.mk hc0_1
  clear hr0_1 hc0_1
  have HR0_13 := Aside0.mk hr0_13
  have HC0_13 := Aside0.mk hc0_13
  clear hr0_13 hc0_13
  have HR0_23 := Aside0.mk hr0_23
  have HC0_23 := Aside0.mk hc0_23
  clear hr0_23 hc0_23
  have HB := Aside0.mk (Below.refl w.heap.size w)
  have H : ((config_Check.f a0_0 l0_1 a0_2 a0_3 a0_4 a0_5 a0_6 a0_7 a0_8 a0_9 a0_10 a0_11 a0_12 l0_13 a0_14 a0_15 a0_16 a0_17 a0_18 a0_19 a0_20 a0_21 a0_22 l0_23 a0_24).bind fun t129 => (if t129 = 0 then (some (wrap64 (Int.tdiv (wrap64 (a0_11 + 1)) 2), 0)) else (some (0, t129)))) = some (r1, r2) := h
  clear h
  replace H := Option.bind_eq_some_iff.mp H
  obtain ⟨t129, A20, H⟩ := H
  replace H : (if t129 = 0 then (some (wrap64 (Int.tdiv (wrap64 (a0_11 + 1)) 2), 0)) else (some (0, t129))) = some (r1, r2) := H
  have A2 := Aside0.mk A20
  clear A20
  by_cases c3 : t129 = 0
  · as_aux_lemma =>
    rw [if_pos c3] at H
    have c3b0 : (t129 == 0) = true := beq_iff_eq.mpr c3
    have c3b1 : (t129 != 0) = false := bne_eq_false_iff_eq.mpr c3
    clear c3
    simp only [Option.some.injEq, Prod.mk.injEq] at H
    obtain ⟨rfl, rfl⟩ := H
    go_enter Try.func8, Try.ntmps8
    go_wp2_with (first | ((with_reducible refine gate_dst (N := 5) rfl ?_); (first | refine lwx (g := gb128) (cs := [.int .i64 a0_0, .slice A0_1 l0_1.length c0_1, .int .i64 a0_2, .int .i64 a0_3, .int .i64 a0_4, .int .i64 a0_5, .int .i64 a0_6, .int .i64 a0_7, .int .i64 a0_8, .int .i64 a0_9, .int .i64 a0_10, .int .i64 a0_11, .int .i64 a0_12, .slice A0_13 l0_13.length c0_13, .int .u64 a0_14, .int .i64 a0_15, .int .i64 a0_16, .int .u64 a0_17, .int .i64 a0_18, .int .i64 a0_19, .int .u64 a0_20, .int .i64 a0_21, .int .i64 a0_22, .slice A0_23 l0_23.length c0_23, .int .i64 a0_24]) (bkt BK128.out) ?_ | refine lwx (g := gb128) BK128.out ?_ | refine lwx2 (g := gb128) (blk_set (bkt BK128.out) _ _) ?_)) | ((with_reducible refine gate_dst (N := 1) rfl ?_); refine bxe (cs := #[.int .i64 a0_0, .slice A0_1 l0_1.length c0_1, .int .i64 a0_2, .int .i64 a0_3, .int .i64 a0_4, .int .i64 a0_5, .int .i64 a0_6, .int .i64 a0_7, .int .i64 a0_8, .int .i64 a0_9, .int .i64 a0_10, .int .i64 a0_11, .int .i64 a0_12, .slice A0_13 l0_13.length c0_13, .int .u64 a0_14, .int .i64 a0_15, .int .i64 a0_16, .int .u64 a0_17, .int .i64 a0_18, .int .i64 a0_19, .int .u64 a0_20, .int .i64 a0_21, .int .i64 a0_22, .slice A0_23 l0_23.length c0_23, .int .i64 a0_24]) (t := 29) ?_; intro gb128 hg w4 hbox hb; have BK128 := Aside0.mk (hbox); have GW128 := Aside0.mk (bge hg HB.out); have GE128 := Aside0.mk (bge hg HB.out); replace HB := Aside0.mk (bst HB.out hb); clear hb hbox hg; have hcz5_0 := cz25 BK128.out; have hfz5_0 := blk_frozen BK128.out) | ((with_reducible refine gate_callee (f := 18) rfl ?_); refine gsl (some 6) Try.func18 #[.agg #[.int .i64 a0_0, .slice A0_1 l0_1.length c0_1, .int .i64 a0_2, .int .i64 a0_3, .int .i64 a0_4, .int .i64 a0_5, .int .i64 a0_6, .int .i64 a0_7, .int .i64 a0_8, .int .i64 a0_9, .int .i64 a0_10, .int .i64 a0_11, .int .i64 a0_12, .slice A0_13 l0_13.length c0_13, .int .u64 a0_14, .int .i64 a0_15, .int .i64 a0_16, .int .u64 a0_17, .int .i64 a0_18, .int .i64 a0_19, .int .u64 a0_20, .int .i64 a0_21, .int .i64 a0_22, .slice A0_23 l0_23.length c0_23, .int .i64 a0_24]] ?_; (with_reducible refine (config_Check.calls a0_0 _ _ l0_1 a0_2 a0_3 a0_4 a0_5 a0_6 a0_7 a0_8 a0_9 a0_10 a0_11 a0_12 _ _ l0_13 a0_14 a0_15 a0_16 a0_17 a0_18 a0_19 a0_20 a0_21 a0_22 _ _ l0_23 a0_24 t129 _ ?side1 ?side2 ?side3 ?side4 ?side5 ?side6 A2.out).mono ?_); (case side1 => repeat (first | exact (Kd.C_below HR0_1.out HB.out) | (with_reducible refine Kd.C_alloc ?_ _) | (with_reducible refine Kd.C_drewN ?_ _) | (with_reducible refine Kd.C_drew ?_))); (case side2 => exact HC0_1.out); (case side3 => repeat (first | exact (Kd.C_below HR0_13.out HB.out) | (with_reducible refine Kd.C_alloc ?_ _) | (with_reducible refine Kd.C_drewN ?_ _) | (with_reducible refine Kd.C_drew ?_))); (case side4 => exact HC0_13.out); (case side5 => repeat (first | exact (Kd.C_below HR0_23.out HB.out) | (with_reducible refine Kd.C_alloc ?_ _) | (with_reducible refine Kd.C_drewN ?_ _) | (with_reducible refine Kd.C_drew ?_))); (case side6 => exact HC0_23.out); rintro e w6 ⟨rfl, hb⟩; refine ⟨_, rfl, ?_⟩; replace BK128 := Aside0.mk (bkb BK128.out hb); replace HB := Aside0.mk (bst HB.out hb); (try clear hb); (try clear hb2); (try clear hk); (try clear hi); have hcz7_0 := cz25 BK128.out; have hfz7_0 := blk_frozen BK128.out))
    go_ret2
    exact bfin (bel HB.out)
  · as_aux_lemma =>
    rw [if_neg c3] at H
    have c3b0 : (t129 == 0) = false := beq_eq_false_iff_ne.mpr c3
    have c3b1 : (t129 != 0) = true := bne_iff_ne.mpr c3
    simp only [Option.some.injEq, Prod.mk.injEq] at H
    obtain ⟨rfl, rfl⟩ := H
    go_enter Try.func8, Try.ntmps8
    go_wp2_with (first | ((with_reducible refine gate_dst (N := 5) rfl ?_); (first | refine lwx (g := gb128) (cs := [.int .i64 a0_0, .slice A0_1 l0_1.length c0_1, .int .i64 a0_2, .int .i64 a0_3, .int .i64 a0_4, .int .i64 a0_5, .int .i64 a0_6, .int .i64 a0_7, .int .i64 a0_8, .int .i64 a0_9, .int .i64 a0_10, .int .i64 a0_11, .int .i64 a0_12, .slice A0_13 l0_13.length c0_13, .int .u64 a0_14, .int .i64 a0_15, .int .i64 a0_16, .int .u64 a0_17, .int .i64 a0_18, .int .i64 a0_19, .int .u64 a0_20, .int .i64 a0_21, .int .i64 a0_22, .slice A0_23 l0_23.length c0_23, .int .i64 a0_24]) (bkt BK128.out) ?_ | refine lwx (g := gb128) BK128.out ?_ | refine lwx2 (g := gb128) (blk_set (bkt BK128.out) _ _) ?_)) | ((with_reducible refine gate_dst (N := 1) rfl ?_); refine bxe (cs := #[.int .i64 a0_0, .slice A0_1 l0_1.length c0_1, .int .i64 a0_2, .int .i64 a0_3, .int .i64 a0_4, .int .i64 a0_5, .int .i64 a0_6, .int .i64 a0_7, .int .i64 a0_8, .int .i64 a0_9, .int .i64 a0_10, .int .i64 a0_11, .int .i64 a0_12, .slice A0_13 l0_13.length c0_13, .int .u64 a0_14, .int .i64 a0_15, .int .i64 a0_16, .int .u64 a0_17, .int .i64 a0_18, .int .i64 a0_19, .int .u64 a0_20, .int .i64 a0_21, .int .i64 a0_22, .slice A0_23 l0_23.length c0_23, .int .i64 a0_24]) (t := 29) ?_; intro gb128 hg w8 hbox hb; have BK128 := Aside0.mk (hbox); have GW128 := Aside0.mk (bge hg HB.out); have GE128 := Aside0.mk (bge hg HB.out); replace HB := Aside0.mk (bst HB.out hb); clear hb hbox hg; have hcz9_0 := cz25 BK128.out; have hfz9_0 := blk_frozen BK128.out) | ((with_reducible refine gate_callee (f := 18) rfl ?_); refine gsl (some 6) Try.func18 #[.agg #[.int .i64 a0_0, .slice A0_1 l0_1.length c0_1, .int .i64 a0_2, .int .i64 a0_3, .int .i64 a0_4, .int .i64 a0_5, .int .i64 a0_6, .int .i64 a0_7, .int .i64 a0_8, .int .i64 a0_9, .int .i64 a0_10, .int .i64 a0_11, .int .i64 a0_12, .slice A0_13 l0_13.length c0_13, .int .u64 a0_14, .int .i64 a0_15, .int .i64 a0_16, .int .u64 a0_17, .int .i64 a0_18, .int .i64 a0_19, .int .u64 a0_20, .int .i64 a0_21, .int .i64 a0_22, .slice A0_23 l0_23.length c0_23, .int .i64 a0_24]] ?_; (with_reducible refine (config_Check.calls a0_0 _ _ l0_1 a0_2 a0_3 a0_4 a0_5 a0_6 a0_7 a0_8 a0_9 a0_10 a0_11 a0_12 _ _ l0_13 a0_14 a0_15 a0_16 a0_17 a0_18 a0_19 a0_20 a0_21 a0_22 _ _ l0_23 a0_24 t129 _ ?side1 ?side2 ?side3 ?side4 ?side5 ?side6 A2.out).mono ?_); (case side1 => repeat (first | exact (Kd.C_below HR0_1.out HB.out) | (with_reducible refine Kd.C_alloc ?_ _) | (with_reducible refine Kd.C_drewN ?_ _) | (with_reducible refine Kd.C_drew ?_))); (case side2 => exact HC0_1.out); (case side3 => repeat (first | exact (Kd.C_below HR0_13.out HB.out) | (with_reducible refine Kd.C_alloc ?_ _) | (with_reducible refine Kd.C_drewN ?_ _) | (with_reducible refine Kd.C_drew ?_))); (case side4 => exact HC0_13.out); (case side5 => repeat (first | exact (Kd.C_below HR0_23.out HB.out) | (with_reducible refine Kd.C_alloc ?_ _) | (with_reducible refine Kd.C_drewN ?_ _) | (with_reducible refine Kd.C_drew ?_))); (case side6 => exact HC0_23.out); rintro e w10 ⟨rfl, hb⟩; refine ⟨_, rfl, ?_⟩; replace BK128 := Aside0.mk (bkb BK128.out hb); replace HB := Aside0.mk (bst HB.out hb); (try clear hb); (try clear hb2); (try clear hk); (try clear hi)))
    go_ret2
    exact bfin (bel HB.out)

end Go.Proofs.Ytmdcjmackhjchaa.P
end

section
-- Printed by wip/myprint.py of this repo (over the kit's printer). Not trusted: Lean checks it.
namespace Go.Proofs.Ytmdcjmackhjchaa.P
open Go.RowKit Go.Proofs.YtmdcjmackhjchaaW.PrintWords Go.Proofs.YtmdcjmackhjchaaW.PrintLast Go.Proofs.YtmdcjmackhjchaaW.PrintMore
attribute [local go_sem] cell_same1 cell_some1 ix27_0 ix27_1 ix27_2
attribute [local go_sem] max2_int min2_int max_two min_two max_three min_three max_four min_four   -- for this text's walks alone
set_option linter.unusedVariables false
set_option linter.unusedSimpArgs false

/-! ### config_way: function 28 -/
def config_way.f (a0_0 : Int) (l0_1 : List Int) (a0_2 : Int) (a0_3 : Int) (a0_4 : Int) (a0_5 : Int) (a0_6 : Int) (a0_7 : Int) (a0_8 : Int) (a0_9 : Int) (a0_10 : Int) (a0_11 : Int) (a0_12 : Int) (l0_13 : List (List Int)) (a0_14 : Int) (a0_15 : Int) (a0_16 : Int) (a0_17 : Int) (a0_18 : Int) (a0_19 : Int) (a0_20 : Int) (a0_21 : Int) (a0_22 : Int) (l0_23 : List Int) (a0_24 : Int) (a1 : Int) : Option (Int) := if a1 = 0 then (some 0) else ((profile_Travel.f a1 a0_3).bind fun bt139 => (some (wrap64 (bt139.1 + (wrap64 (2 * a0_4))))))
set_option maxHeartbeats 8000000 in
set_option maxRecDepth 100000 in
theorem config_way.calls (a0_0 : Int) (A0_1 : Option Addr) (c0_1 : Nat) (l0_1 : List Int) (a0_2 : Int) (a0_3 : Int) (a0_4 : Int) (a0_5 : Int) (a0_6 : Int) (a0_7 : Int) (a0_8 : Int) (a0_9 : Int) (a0_10 : Int) (a0_11 : Int) (a0_12 : Int) (A0_13 : Option Addr) (c0_13 : Nat) (l0_13 : List (List Int)) (a0_14 : Int) (a0_15 : Int) (a0_16 : Int) (a0_17 : Int) (a0_18 : Int) (a0_19 : Int) (a0_20 : Int) (a0_21 : Int) (a0_22 : Int) (A0_23 : Option Addr) (c0_23 : Nat) (l0_23 : List Int) (a0_24 : Int) (a1 : Int) (r : Int) (w : World) (hr0_1 : Kd.C (Kd.int .i64) w A0_1 l0_1.length l0_1) (hc0_1 : l0_1.length ≤ c0_1) (hr0_13 : Kd.C (Kd.slice 3 (Kd.int .i64)) w A0_13 l0_13.length l0_13) (hc0_13 : l0_13.length ≤ c0_13) (hr0_23 : Kd.C (Kd.int .i64) w A0_23 l0_23.length l0_23) (hc0_23 : l0_23.length ≤ c0_23) (h : config_way.f a0_0 l0_1 a0_2 a0_3 a0_4 a0_5 a0_6 a0_7 a0_8 a0_9 a0_10 a0_11 a0_12 l0_13 a0_14 a0_15 a0_16 a0_17 a0_18 a0_19 a0_20 a0_21 a0_22 l0_23 a0_24 a1 = some r) :
    Calls Try.prog 28 #[.agg #[.int .i64 a0_0, .slice A0_1 l0_1.length c0_1, .int .i64 a0_2, .int .i64 a0_3, .int .i64 a0_4, .int .i64 a0_5, .int .i64 a0_6, .int .i64 a0_7, .int .i64 a0_8, .int .i64 a0_9, .int .i64 a0_10, .int .i64 a0_11, .int .i64 a0_12, .slice A0_13 l0_13.length c0_13, .int .u64 a0_14, .int .i64 a0_15, .int .i64 a0_16, .int .u64 a0_17, .int .i64 a0_18, .int .i64 a0_19, .int .u64 a0_20, .int .i64 a0_21, .int .i64 a0_22, .slice A0_23 l0_23.length c0_23, .int .i64 a0_24], .int .i64 a1] w fun e w' => e = .returned (.int .i64 r) ∧ Below w.heap.size w w' := by
  have hu29 := Try.underlying29
  have HR0_1 := Aside0.mk hr0_1
  have HC0_1 := Aside0.mk hc0_1
  clear hr0_1 hc0_1
  have HR0_13 := Aside0.mk hr0_13
  have HC0_13 := Aside0.mk hc0_13
  clear hr0_13 hc0_13
  have HR0_23 := Aside0.mk hr0_23
  have HC0_23 := Aside0.mk hc0_23
  clear hr0_23 hc0_23
  have HB := Aside0.mk (Below.refl w.heap.size w)
  have H : (if a1 = 0 then (some 0) else ((profile_Travel.f a1 a0_3).bind fun bt139 => (some (wrap64 (bt139.1 + (wrap64 (2 * a0_4))))))) = some r := h
  clear h
  by_cases c3 : a1 = 0
  · as_aux_lemma =>
    rw [if_pos c3] at H
    have c3b0 : (a1 == 0) = true := beq_iff_eq.mpr c3
    have c3b1 : (a1 != 0) = false := bne_eq_false_iff_eq.mpr c3
    clear c3
    obtain rfl := Option.some.inj H
    go_enter Try.func28, Try.ntmps28
    go_wp2_with (first | ((with_reducible refine gate_dst (N := 2) rfl ?_); refine bxe (cs := #[.int .i64 a0_0, .slice A0_1 l0_1.length c0_1, .int .i64 a0_2, .int .i64 a0_3, .int .i64 a0_4, .int .i64 a0_5, .int .i64 a0_6, .int .i64 a0_7, .int .i64 a0_8, .int .i64 a0_9, .int .i64 a0_10, .int .i64 a0_11, .int .i64 a0_12, .slice A0_13 l0_13.length c0_13, .int .u64 a0_14, .int .i64 a0_15, .int .i64 a0_16, .int .u64 a0_17, .int .i64 a0_18, .int .i64 a0_19, .int .u64 a0_20, .int .i64 a0_21, .int .i64 a0_22, .slice A0_23 l0_23.length c0_23, .int .i64 a0_24]) (t := 29) ?_; intro gb138 hg w4 hbox hb; have BK138 := Aside0.mk (hbox); have GW138 := Aside0.mk (bge hg HB.out); have GE138 := Aside0.mk (bge hg HB.out); replace HB := Aside0.mk (bst HB.out hb); clear hb hbox hg))
    go_ret
    exact bfin (bel HB.out)
  · as_aux_lemma =>
    rw [if_neg c3] at H
    have c3b0 : (a1 == 0) = false := beq_eq_false_iff_ne.mpr c3
    have c3b1 : (a1 != 0) = true := bne_iff_ne.mpr c3
    replace H := Option.bind_eq_some_iff.mp H
    obtain ⟨⟨t139, t140⟩, A50, H⟩ := H
    replace H : (some (wrap64 (t139 + (wrap64 (2 * a0_4))))) = some r := H
    have A5 := Aside0.mk A50
    clear A50
    obtain rfl := Option.some.inj H
    go_enter Try.func28, Try.ntmps28
    go_wp2_with (first | ((with_reducible refine gate_dst (N := 2) rfl ?_); refine bxe (cs := #[.int .i64 a0_0, .slice A0_1 l0_1.length c0_1, .int .i64 a0_2, .int .i64 a0_3, .int .i64 a0_4, .int .i64 a0_5, .int .i64 a0_6, .int .i64 a0_7, .int .i64 a0_8, .int .i64 a0_9, .int .i64 a0_10, .int .i64 a0_11, .int .i64 a0_12, .slice A0_13 l0_13.length c0_13, .int .u64 a0_14, .int .i64 a0_15, .int .i64 a0_16, .int .u64 a0_17, .int .i64 a0_18, .int .i64 a0_19, .int .u64 a0_20, .int .i64 a0_21, .int .i64 a0_22, .slice A0_23 l0_23.length c0_23, .int .i64 a0_24]) (t := 29) ?_; intro gb138 hg w6 hbox hb; have BK138 := Aside0.mk (hbox); have GW138 := Aside0.mk (bge hg HB.out); have GE138 := Aside0.mk (bge hg HB.out); replace HB := Aside0.mk (bst HB.out hb); clear hb hbox hg; have hcz7_0 := cz25 BK138.out; have hfz7_0 := blk_frozen BK138.out) | ((with_reducible refine gate_callee (f := 43) rfl ?_); refine gsl (some 13) Try.func43 #[.int .i64 a1, .int .i64 a0_3] ?_; (with_reducible refine (profile_Travel.calls a1 a0_3 t139 t140 _ A5.out).mono ?_); rintro e w8 ⟨rfl, hb⟩; refine ⟨_, rfl, ?_⟩; replace BK138 := Aside0.mk (bkb BK138.out hb); replace HB := Aside0.mk (bst HB.out hb); (try clear hb); (try clear hb2); (try clear hk); (try clear hi); have hcz9_0 := cz25 BK138.out; have hfz9_0 := blk_frozen BK138.out))
    go_ret
    exact bfin (bel HB.out)

end Go.Proofs.Ytmdcjmackhjchaa.P
end

section
-- Printed by wip/myprint.py of this repo (over the kit's printer). Not trusted: Lean checks it.
namespace Go.Proofs.Ytmdcjmackhjchaa.P
open Go.RowKit Go.Proofs.YtmdcjmackhjchaaW.PrintWords Go.Proofs.YtmdcjmackhjchaaW.PrintLast Go.Proofs.YtmdcjmackhjchaaW.PrintMore
attribute [local go_sem] cell_same1 cell_some1 ix27_0 ix27_1 ix27_2
attribute [local go_sem] max2_int min2_int max_two min_two max_three min_three max_four min_four   -- for this text's walks alone
set_option linter.unusedVariables false
set_option linter.unusedSimpArgs false

/-! ### config_Times: function 15 -/
def config_Times.f (a0_0 : Int) (l0_1 : List Int) (a0_2 : Int) (a0_3 : Int) (a0_4 : Int) (a0_5 : Int) (a0_6 : Int) (a0_7 : Int) (a0_8 : Int) (a0_9 : Int) (a0_10 : Int) (a0_11 : Int) (a0_12 : Int) (l0_13 : List (List Int)) (a0_14 : Int) (a0_15 : Int) (a0_16 : Int) (a0_17 : Int) (a0_18 : Int) (a0_19 : Int) (a0_20 : Int) (a0_21 : Int) (a0_22 : Int) (l0_23 : List Int) (a0_24 : Int) : Option (Int × Int × Int × Int × Int × Int) := (config_Check.f a0_0 l0_1 a0_2 a0_3 a0_4 a0_5 a0_6 a0_7 a0_8 a0_9 a0_10 a0_11 a0_12 l0_13 a0_14 a0_15 a0_16 a0_17 a0_18 a0_19 a0_20 a0_21 a0_22 l0_23 a0_24).bind fun t146 => (if t146 = 0 then ((shaft_Height.f l0_1).bind fun bt147 => ((config_way.f a0_0 l0_1 a0_2 a0_3 a0_4 a0_5 a0_6 a0_7 a0_8 a0_9 a0_10 a0_11 a0_12 l0_13 a0_14 a0_15 a0_16 a0_17 a0_18 a0_19 a0_20 a0_21 a0_22 l0_23 a0_24 bt147.1).bind fun t149 => ((door_Worst.f a0_6 a0_7 a0_8).bind fun bt151 => (some (t149, bt151.1, wrap64 (t149 + bt151.1), wrap64 (t149 + (wrap64 ((wrap64 (a0_11 + 1)) * (wrap64 (t149 + bt151.1))))), wrap64 (a0_12 * (wrap64 (t149 + (wrap64 ((wrap64 (a0_11 + 1)) * (wrap64 (t149 + bt151.1))))))), 0))))) else (some (0, 0, 0, 0, 0, t146)))
set_option maxHeartbeats 8000000 in
set_option maxRecDepth 100000 in
theorem config_Times.calls (a0_0 : Int) (A0_1 : Option Addr) (c0_1 : Nat) (l0_1 : List Int) (a0_2 : Int) (a0_3 : Int) (a0_4 : Int) (a0_5 : Int) (a0_6 : Int) (a0_7 : Int) (a0_8 : Int) (a0_9 : Int) (a0_10 : Int) (a0_11 : Int) (a0_12 : Int) (A0_13 : Option Addr) (c0_13 : Nat) (l0_13 : List (List Int)) (a0_14 : Int) (a0_15 : Int) (a0_16 : Int) (a0_17 : Int) (a0_18 : Int) (a0_19 : Int) (a0_20 : Int) (a0_21 : Int) (a0_22 : Int) (A0_23 : Option Addr) (c0_23 : Nat) (l0_23 : List Int) (a0_24 : Int) (r1 : Int) (r2 : Int) (r3 : Int) (r4 : Int) (r5 : Int) (r6 : Int) (w : World) (hr0_1 : Kd.C (Kd.int .i64) w A0_1 l0_1.length l0_1) (hc0_1 : l0_1.length ≤ c0_1) (hr0_13 : Kd.C (Kd.slice 3 (Kd.int .i64)) w A0_13 l0_13.length l0_13) (hc0_13 : l0_13.length ≤ c0_13) (hr0_23 : Kd.C (Kd.int .i64) w A0_23 l0_23.length l0_23) (hc0_23 : l0_23.length ≤ c0_23) (h : config_Times.f a0_0 l0_1 a0_2 a0_3 a0_4 a0_5 a0_6 a0_7 a0_8 a0_9 a0_10 a0_11 a0_12 l0_13 a0_14 a0_15 a0_16 a0_17 a0_18 a0_19 a0_20 a0_21 a0_22 l0_23 a0_24 = some (r1, r2, r3, r4, r5, r6)) :
    Calls Try.prog 15 #[.agg #[.int .i64 a0_0, .slice A0_1 l0_1.length c0_1, .int .i64 a0_2, .int .i64 a0_3, .int .i64 a0_4, .int .i64 a0_5, .int .i64 a0_6, .int .i64 a0_7, .int .i64 a0_8, .int .i64 a0_9, .int .i64 a0_10, .int .i64 a0_11, .int .i64 a0_12, .slice A0_13 l0_13.length c0_13, .int .u64 a0_14, .int .i64 a0_15, .int .i64 a0_16, .int .u64 a0_17, .int .i64 a0_18, .int .i64 a0_19, .int .u64 a0_20, .int .i64 a0_21, .int .i64 a0_22, .slice A0_23 l0_23.length c0_23, .int .i64 a0_24]] w fun e w' => e = .returned (.tuple #[.agg #[.int .i64 r1, .int .i64 r2, .int .i64 r3, .int .i64 r4, .int .i64 r5], .int .i64 r6]) ∧ Below w.heap.size w w' := by
  have H := h
  unfold config_Times.f at H
  obtain ⟨e, hC, H⟩ := Option.bind_eq_some_iff.mp H
  by_cases he : e = 0
  · subst he
    rw [if_pos rfl] at H
    obtain ⟨⟨x1, x2⟩, hH, H⟩ := Option.bind_eq_some_iff.mp H
    obtain ⟨mv, hW, H⟩ := Option.bind_eq_some_iff.mp H
    obtain ⟨⟨dv, de⟩, hD, H⟩ := Option.bind_eq_some_iff.mp H
    simp only [Option.some.injEq, Prod.mk.injEq] at H
    obtain ⟨rfl, rfl, rfl, rfl, rfl, rfl⟩ := H
    exact times_ok ⟨a0_0, .slice A0_1 l0_1.length c0_1, a0_2, a0_3, a0_4, a0_5, a0_6, a0_7, a0_8, a0_9, a0_10, a0_11, a0_12, .slice A0_13 l0_13.length c0_13, .int .u64 a0_14, a0_15, a0_16, .int .u64 a0_17, a0_18, a0_19, .int .u64 a0_20, a0_21, a0_22, .slice A0_23 l0_23.length c0_23, a0_24⟩ x1 x2 mv dv de _ _ _ _ _ w rfl rfl rfl rfl rfl
      (fun W hB => config_Check.calls a0_0 _ _ l0_1 a0_2 a0_3 a0_4 a0_5 a0_6 a0_7 a0_8 a0_9 a0_10 a0_11 a0_12 _ _ l0_13 a0_14 a0_15 a0_16 a0_17 a0_18 a0_19 a0_20 a0_21 a0_22 _ _ l0_23 a0_24 0 W (Kd.C_below hr0_1 hB) hc0_1 (Kd.C_below hr0_13 hB) hc0_13 (Kd.C_below hr0_23 hB) hc0_23 hC)
      (fun W hB => shaft_Height.calls _ _ l0_1 x1 x2 W (Kd.C_below hr0_1 hB) hc0_1 hH)
      (fun W hB => config_way.calls a0_0 _ _ l0_1 a0_2 a0_3 a0_4 a0_5 a0_6 a0_7 a0_8 a0_9 a0_10 a0_11 a0_12 _ _ l0_13 a0_14 a0_15 a0_16 a0_17 a0_18 a0_19 a0_20 a0_21 a0_22 _ _ l0_23 a0_24 x1 mv W (Kd.C_below hr0_1 hB) hc0_1 (Kd.C_below hr0_13 hB) hc0_13 (Kd.C_below hr0_23 hB) hc0_23 hW)
      (fun W hB => door_Worst.calls a0_6 a0_7 a0_8 dv de W hD)
  · rw [if_neg he] at H
    simp only [Option.some.injEq, Prod.mk.injEq] at H
    obtain ⟨rfl, rfl, rfl, rfl, rfl, rfl⟩ := H
    exact times_bad ⟨a0_0, .slice A0_1 l0_1.length c0_1, a0_2, a0_3, a0_4, a0_5, a0_6, a0_7, a0_8, a0_9, a0_10, a0_11, a0_12, .slice A0_13 l0_13.length c0_13, .int .u64 a0_14, a0_15, a0_16, .int .u64 a0_17, a0_18, a0_19, .int .u64 a0_20, a0_21, a0_22, .slice A0_23 l0_23.length c0_23, a0_24⟩ _ w he (fun W hB => config_Check.calls a0_0 _ _ l0_1 a0_2 a0_3 a0_4 a0_5 a0_6 a0_7 a0_8 a0_9 a0_10 a0_11 a0_12 _ _ l0_13 a0_14 a0_15 a0_16 a0_17 a0_18 a0_19 a0_20 a0_21 a0_22 _ _ l0_23 a0_24 _ W (Kd.C_below hr0_1 hB) hc0_1 (Kd.C_below hr0_13 hB) hc0_13 (Kd.C_below hr0_23 hB) hc0_23 hC)

end Go.Proofs.Ytmdcjmackhjchaa.P
end
