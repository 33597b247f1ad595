import Derived.Test.YtmdcjmackhjchaaZad
import Derived.Test.YtmdcjmackhjchaaZao
import Derived.Test.YtmdcjmackhjchaaZap
import Derived.Test.YtmdcjmackhjchaaZal
section
-- Printed by wip/myprint.py of this repo (over the kit's printer). Not trusted: Lean checks it.
namespace Go.Proofs.Ytmdcjmackhjchaa.P
open Go.RowKit Go.Proofs.YtmdcjmackhjchaaW.PrintWords Go.Proofs.YtmdcjmackhjchaaW.PrintLast Go.Proofs.YtmdcjmackhjchaaW.PrintMore
attribute [local go_sem] cell_same1 cell_some1 ix27_0 ix27_1 ix27_2
attribute [local go_sem] max2_int min2_int max_two min_two max_three min_three max_four min_four   -- for this text's walks alone
set_option linter.unusedVariables false
set_option linter.unusedSimpArgs false

/-! ### r18_Rule: function 49 -/
def r18_Rule.f (a0_0 : Int) (a0_1 : Int) (a0_2 : Int) : Option (Int) := if a0_0 < 1 then (some 2) else (if a0_0 > 20 then (some 2) else (if a0_1 < 1 then (some 2) else (if a0_1 > 50 then (some 2) else (if a0_2 < 0 then (some 2) else (if a0_2 > 5 then (some 2) else (some 0))))))
set_option maxHeartbeats 8000000 in
set_option maxRecDepth 100000 in
theorem r18_Rule.calls (a0_0 : Int) (a0_1 : Int) (a0_2 : Int) (r : Int) (w : World) (h : r18_Rule.f a0_0 a0_1 a0_2 = some r) :
  Calls Try.prog 49 #[.agg #[.int .i64 a0_0, .int .i64 a0_1, .int .i64 a0_2]] w fun e w' => e = .returned (.int .i64 r) ∧ Below w.heap.size w w' := by
 have hu60 := Try.underlying60
 have HB := Aside0.mk (Below.refl w.heap.size w)
 have H : (if a0_0 < 1 then (some 2) else (if a0_0 > 20 then (some 2) else (if a0_1 < 1 then (some 2) else (if a0_1 > 50 then (some 2) else (if a0_2 < 0 then (some 2) else (if a0_2 > 5 then (some 2) else (some 0))))))) = some r := h
 clear h
 by_cases c2 : a0_0 < 1
 ·as_aux_lemma =>
  rw [if_pos c2] at H
  have c2b0 : decide (a0_0 < 1) = true := decide_eq_true c2
  clear c2
  obtain rfl := Option.some.inj H
  go_enter Try.func49, Try.ntmps49
  go_wp2_with (first | ((with_reducible refine gate_dst (N := 1) rfl ?_); refine bxe (cs := #[.int .i64 a0_0, .int .i64 a0_1, .int .i64 a0_2]) (t := 60) ?_; intro gb247 hg w3 hbox hb; have BK247 := Aside0.mk (hbox); have GW247 := Aside0.mk (bge hg HB.out); have GE247 := Aside0.mk (bge hg HB.out); replace HB := Aside0.mk (bst HB.out hb); clear hb hbox hg; have hcz4_0 := cz3 BK247.out; have hfz4_0 := blk_frozen BK247.out))
  go_ret
  exact bfin (bel HB.out)
 ·as_aux_lemma =>
  rw [if_neg c2] at H
  have c2b0 : decide (a0_0 < 1) = false := decide_eq_false c2
  clear c2
  by_cases c5 : a0_0 > 20
  ·as_aux_lemma =>
   rw [if_pos c5] at H
   have c5b0 : decide (20 < a0_0) = true := decide_eq_true c5
   clear c5
   obtain rfl := Option.some.inj H
   go_enter Try.func49, Try.ntmps49
   go_wp2_with (first | ((with_reducible refine gate_dst (N := 1) rfl ?_); refine bxe (cs := #[.int .i64 a0_0, .int .i64 a0_1, .int .i64 a0_2]) (t := 60) ?_; intro gb247 hg w6 hbox hb; have BK247 := Aside0.mk (hbox); have GW247 := Aside0.mk (bge hg HB.out); have GE247 := Aside0.mk (bge hg HB.out); replace HB := Aside0.mk (bst HB.out hb); clear hb hbox hg; have hcz7_0 := cz3 BK247.out; have hfz7_0 := blk_frozen BK247.out))
   go_ret
   exact bfin (bel HB.out)
  ·as_aux_lemma =>
   rw [if_neg c5] at H
   have c5b0 : decide (20 < a0_0) = false := decide_eq_false c5
   clear c5
   by_cases c8 : a0_1 < 1
   ·as_aux_lemma =>
    rw [if_pos c8] at H
    have c8b0 : decide (a0_1 < 1) = true := decide_eq_true c8
    clear c8
    obtain rfl := Option.some.inj H
    go_enter Try.func49, Try.ntmps49
    go_wp2_with (first | ((with_reducible refine gate_dst (N := 1) rfl ?_); refine bxe (cs := #[.int .i64 a0_0, .int .i64 a0_1, .int .i64 a0_2]) (t := 60) ?_; intro gb247 hg w9 hbox hb; have BK247 := Aside0.mk (hbox); have GW247 := Aside0.mk (bge hg HB.out); have GE247 := Aside0.mk (bge hg HB.out); replace HB := Aside0.mk (bst HB.out hb); clear hb hbox hg; have hcz10_0 := cz3 BK247.out; have hfz10_0 := blk_frozen BK247.out))
    go_ret
    exact bfin (bel HB.out)
   ·as_aux_lemma =>
    rw [if_neg c8] at H
    have c8b0 : decide (a0_1 < 1) = false := decide_eq_false c8
    clear c8
    by_cases c11 : a0_1 > 50
    ·as_aux_lemma =>
     rw [if_pos c11] at H
     have c11b0 : decide (50 < a0_1) = true := decide_eq_true c11
     clear c11
     obtain rfl := Option.some.inj H
     go_enter Try.func49, Try.ntmps49
     go_wp2_with (first | ((with_reducible refine gate_dst (N := 1) rfl ?_); refine bxe (cs := #[.int .i64 a0_0, .int .i64 a0_1, .int .i64 a0_2]) (t := 60) ?_; intro gb247 hg w12 hbox hb; have BK247 := Aside0.mk (hbox); have GW247 := Aside0.mk (bge hg HB.out); have GE247 := Aside0.mk (bge hg HB.out); replace HB := Aside0.mk (bst HB.out hb); clear hb hbox hg; have hcz13_0 := cz3 BK247.out; have hfz13_0 := blk_frozen BK247.out))
     go_ret
     exact bfin (bel HB.out)
    ·as_aux_lemma =>
     rw [if_neg c11] at H
     have c11b0 : decide (50 < a0_1) = false := decide_eq_false c11
     clear c11
     by_cases c14 : a0_2 < 0
     ·as_aux_lemma =>
      rw [if_pos c14] at H
      have c14b0 : decide (a0_2 < 0) = true := decide_eq_true c14
      clear c14
      obtain rfl := Option.some.inj H
      go_enter Try.func49, Try.ntmps49
      go_wp2_with (first | ((with_reducible refine gate_dst (N := 1) rfl ?_); refine bxe (cs := #[.int .i64 a0_0, .int .i64 a0_1, .int .i64 a0_2]) (t := 60) ?_; intro gb247 hg w15 hbox hb; have BK247 := Aside0.mk (hbox); have GW247 := Aside0.mk (bge hg HB.out); have GE247 := Aside0.mk (bge hg HB.out); replace HB := Aside0.mk (bst HB.out hb); clear hb hbox hg; have hcz16_0 := cz3 BK247.out; have hfz16_0 := blk_frozen BK247.out))
      go_ret
      exact bfin (bel HB.out)
     ·as_aux_lemma =>
      rw [if_neg c14] at H
      have c14b0 : decide (a0_2 < 0) = false := decide_eq_false c14
      clear c14
      by_cases c17 : a0_2 > 5
      ·as_aux_lemma =>
       rw [if_pos c17] at H
       have c17b0 : decide (5 < a0_2) = true := decide_eq_true c17
       clear c17
       obtain rfl := Option.some.inj H
       go_enter Try.func49, Try.ntmps49
       go_wp2_with (first | ((with_reducible refine gate_dst (N := 1) rfl ?_); refine bxe (cs := #[.int .i64 a0_0, .int .i64 a0_1, .int .i64 a0_2]) (t := 60) ?_; intro gb247 hg w18 hbox hb; have BK247 := Aside0.mk (hbox); have GW247 := Aside0.mk (bge hg HB.out); have GE247 := Aside0.mk (bge hg HB.out); replace HB := Aside0.mk (bst HB.out hb); clear hb hbox hg; have hcz19_0 := cz3 BK247.out; have hfz19_0 := blk_frozen BK247.out))
       go_ret
       exact bfin (bel HB.out)
      ·as_aux_lemma =>
       rw [if_neg c17] at H
       have c17b0 : decide (5 < a0_2) = false := decide_eq_false c17
       clear c17
       obtain rfl := Option.some.inj H
       go_enter Try.func49, Try.ntmps49
       go_wp2_with (first | ((with_reducible refine gate_dst (N := 1) rfl ?_); refine bxe (cs := #[.int .i64 a0_0, .int .i64 a0_1, .int .i64 a0_2]) (t := 60) ?_; intro gb247 hg w20 hbox hb; have BK247 := Aside0.mk (hbox); have GW247 := Aside0.mk (bge hg HB.out); have GE247 := Aside0.mk (bge hg HB.out); replace HB := Aside0.mk (bst HB.out hb); clear hb hbox hg; have hcz21_0 := cz3 BK247.out; have hfz21_0 := blk_frozen BK247.out))
       go_ret
       exact bfin (bel HB.out)

/-! ### r18_Worst: function 40 -/
def r18_Worst.f (a0_0 : Int) (a0_1 : Int) (a0_2 : Int) : Option (Int × Int) := (r18_Rule.f a0_0 a0_1 a0_2).bind fun t249 => (if t249 = 0 then (some (wrap64 ((wrap64 ((wrap64 (2 * a0_0)) + a0_1)) + (wrap64 (a0_2 * (wrap64 ((wrap64 ((wrap64 (2 * a0_0)) - 1)) + a0_1))))), 0)) else (some (0, t249)))
set_option maxHeartbeats 8000000 in
set_option maxRecDepth 100000 in
theorem r18_Worst.calls (a0_0 : Int) (a0_1 : Int) (a0_2 : Int) (r1 : Int) (r2 : Int) (w : World) (h : r18_Worst.f a0_0 a0_1 a0_2 = some (r1, r2)) :
  Calls Try.prog 40 #[.agg #[.int .i64 a0_0, .int .i64 a0_1, .int .i64 a0_2]] w fun e w' => e = .returned (.tuple #[.int .i64 r1, .int .i64 r2]) ∧ Below w.heap.size w w' := by
 have hu60 := Try.underlying60
 have HB := Aside0.mk (Below.refl w.heap.size w)
 have H : ((r18_Rule.f a0_0 a0_1 a0_2).bind fun t249 => (if t249 = 0 then (some (wrap64 ((wrap64 ((wrap64 (2 * a0_0)) + a0_1)) + (wrap64 (a0_2 * (wrap64 ((wrap64 ((wrap64 (2 * a0_0)) - 1)) + a0_1))))), 0)) else (some (0, t249)))) = some (r1, r2) := h
 clear h
 replace H := Option.bind_eq_some_iff.mp H
 obtain ⟨t249, A20, H⟩ := H
 replace H : (if t249 = 0 then (some (wrap64 ((wrap64 ((wrap64 (2 * a0_0)) + a0_1)) + (wrap64 (a0_2 * (wrap64 ((wrap64 ((wrap64 (2 * a0_0)) - 1)) + a0_1))))), 0)) else (some (0, t249))) = some (r1, r2) := H
 have A2 := Aside0.mk A20
 clear A20
 by_cases c3 : t249 = 0
 ·as_aux_lemma =>
  rw [if_pos c3] at H
  have c3b0 : (t249 == 0) = true := beq_iff_eq.mpr c3
  have c3b1 : (t249 != 0) = false := bne_eq_false_iff_eq.mpr c3
  clear c3
  simp only [Option.some.injEq, Prod.mk.injEq] at H
  obtain ⟨rfl, rfl⟩ := H
  go_enter Try.func40, Try.ntmps40
  go_wp2_with (first | ((with_reducible refine gate_dst (N := 1) rfl ?_); refine bxe (cs := #[.int .i64 a0_0, .int .i64 a0_1, .int .i64 a0_2]) (t := 60) ?_; intro gb248 hg w4 hbox hb; have BK248 := Aside0.mk (hbox); have GW248 := Aside0.mk (bge hg HB.out); have GE248 := Aside0.mk (bge hg HB.out); replace HB := Aside0.mk (bst HB.out hb); clear hb hbox hg; have hcz5_0 := cz3 BK248.out; have hfz5_0 := blk_frozen BK248.out) | ((with_reducible refine gate_callee (f := 49) rfl ?_); refine gsl (some 6) Try.func49 #[.agg #[.int .i64 a0_0, .int .i64 a0_1, .int .i64 a0_2]] ?_; (with_reducible refine (r18_Rule.calls a0_0 a0_1 a0_2 t249 _ A2.out).mono ?_); rintro e w6 ⟨rfl, hb⟩; refine ⟨_, rfl, ?_⟩; replace BK248 := Aside0.mk (bkb BK248.out hb); replace HB := Aside0.mk (bst HB.out hb); (try clear hb); (try clear hb2); (try clear hk); (try clear hi); have hcz7_0 := cz3 BK248.out; have hfz7_0 := blk_frozen BK248.out))
  go_ret2
  exact bfin (bel HB.out)
 ·as_aux_lemma =>
  rw [if_neg c3] at H
  have c3b0 : (t249 == 0) = false := beq_eq_false_iff_ne.mpr c3
  have c3b1 : (t249 != 0) = true := bne_iff_ne.mpr c3
  simp only [Option.some.injEq, Prod.mk.injEq] at H
  obtain ⟨rfl, rfl⟩ := H
  go_enter Try.func40, Try.ntmps40
  go_wp2_with (first | ((with_reducible refine gate_dst (N := 1) rfl ?_); refine bxe (cs := #[.int .i64 a0_0, .int .i64 a0_1, .int .i64 a0_2]) (t := 60) ?_; intro gb248 hg w8 hbox hb; have BK248 := Aside0.mk (hbox); have GW248 := Aside0.mk (bge hg HB.out); have GE248 := Aside0.mk (bge hg HB.out); replace HB := Aside0.mk (bst HB.out hb); clear hb hbox hg; have hcz9_0 := cz3 BK248.out; have hfz9_0 := blk_frozen BK248.out) | ((with_reducible refine gate_callee (f := 49) rfl ?_); refine gsl (some 6) Try.func49 #[.agg #[.int .i64 a0_0, .int .i64 a0_1, .int .i64 a0_2]] ?_; (with_reducible refine (r18_Rule.calls a0_0 a0_1 a0_2 t249 _ A2.out).mono ?_); rintro e w10 ⟨rfl, hb⟩; refine ⟨_, rfl, ?_⟩; replace BK248 := Aside0.mk (bkb BK248.out hb); replace HB := Aside0.mk (bst HB.out hb); (try clear hb); (try clear hb2); (try clear hk); (try clear hi)))
  go_ret2
  exact bfin (bel HB.out)

end Go.Proofs.Ytmdcjmackhjchaa.P
end

section
-- Printed by wip/myprint.py of this repo (over the kit's printer). Not trusted: Lean checks it.
namespace Go.Proofs.Ytmdcjmackhjchaa.P
open Go.RowKit Go.Proofs.YtmdcjmackhjchaaW.PrintWords Go.Proofs.YtmdcjmackhjchaaW.PrintLast Go.Proofs.YtmdcjmackhjchaaW.PrintMore
attribute [local go_sem] cell_same1 cell_some1 ix27_0 ix27_1 ix27_2
attribute [local go_sem] max2_int min2_int max_two min_two max_three min_three max_four min_four   -- for this text's walks alone
set_option linter.unusedVariables false
set_option linter.unusedSimpArgs false

/-! ### door_Rule: function 44 -/
def door_Rule.f (a0_0 : Int) (a0_1 : Int) (a0_2 : Int) : Option (Int) := if a0_0 < 1 then (some 2) else (if a0_0 > 20 then (some 2) else (if a0_1 < 1 then (some 2) else (if a0_1 > 50 then (some 2) else (if a0_2 < 0 then (some 2) else (if a0_2 > 5 then (some 2) else (some 0))))))
set_option maxHeartbeats 8000000 in
set_option maxRecDepth 100000 in
theorem door_Rule.calls (a0_0 : Int) (a0_1 : Int) (a0_2 : Int) (r : Int) (w : World) (h : door_Rule.f a0_0 a0_1 a0_2 = some r) :
  Calls Try.prog 44 #[.agg #[.int .i64 a0_0, .int .i64 a0_1, .int .i64 a0_2]] w fun e w' => e = .returned (.int .i64 r) ∧ Below w.heap.size w w' := by
 have hu60 := Try.underlying60
 have HB := Aside0.mk (Below.refl w.heap.size w)
 have H : (if a0_0 < 1 then (some 2) else (if a0_0 > 20 then (some 2) else (if a0_1 < 1 then (some 2) else (if a0_1 > 50 then (some 2) else (if a0_2 < 0 then (some 2) else (if a0_2 > 5 then (some 2) else (some 0))))))) = some r := h
 clear h
 by_cases c2 : a0_0 < 1
 ·as_aux_lemma =>
  rw [if_pos c2] at H
  have c2b0 : decide (a0_0 < 1) = true := decide_eq_true c2
  clear c2
  obtain rfl := Option.some.inj H
  go_enter Try.func44, Try.ntmps44
  go_wp2_with (first | ((with_reducible refine gate_dst (N := 1) rfl ?_); refine bxe (cs := #[.int .i64 a0_0, .int .i64 a0_1, .int .i64 a0_2]) (t := 60) ?_; intro gb141 hg w3 hbox hb; have BK141 := Aside0.mk (hbox); have GW141 := Aside0.mk (bge hg HB.out); have GE141 := Aside0.mk (bge hg HB.out); replace HB := Aside0.mk (bst HB.out hb); clear hb hbox hg; have hcz4_0 := cz3 BK141.out; have hfz4_0 := blk_frozen BK141.out))
  go_ret
  exact bfin (bel HB.out)
 ·as_aux_lemma =>
  rw [if_neg c2] at H
  have c2b0 : decide (a0_0 < 1) = false := decide_eq_false c2
  clear c2
  by_cases c5 : a0_0 > 20
  ·as_aux_lemma =>
   rw [if_pos c5] at H
   have c5b0 : decide (20 < a0_0) = true := decide_eq_true c5
   clear c5
   obtain rfl := Option.some.inj H
   go_enter Try.func44, Try.ntmps44
   go_wp2_with (first | ((with_reducible refine gate_dst (N := 1) rfl ?_); refine bxe (cs := #[.int .i64 a0_0, .int .i64 a0_1, .int .i64 a0_2]) (t := 60) ?_; intro gb141 hg w6 hbox hb; have BK141 := Aside0.mk (hbox); have GW141 := Aside0.mk (bge hg HB.out); have GE141 := Aside0.mk (bge hg HB.out); replace HB := Aside0.mk (bst HB.out hb); clear hb hbox hg; have hcz7_0 := cz3 BK141.out; have hfz7_0 := blk_frozen BK141.out))
   go_ret
   exact bfin (bel HB.out)
  ·as_aux_lemma =>
   rw [if_neg c5] at H
   have c5b0 : decide (20 < a0_0) = false := decide_eq_false c5
   clear c5
   by_cases c8 : a0_1 < 1
   ·as_aux_lemma =>
    rw [if_pos c8] at H
    have c8b0 : decide (a0_1 < 1) = true := decide_eq_true c8
    clear c8
    obtain rfl := Option.some.inj H
    go_enter Try.func44, Try.ntmps44
    go_wp2_with (first | ((with_reducible refine gate_dst (N := 1) rfl ?_); refine bxe (cs := #[.int .i64 a0_0, .int .i64 a0_1, .int .i64 a0_2]) (t := 60) ?_; intro gb141 hg w9 hbox hb; have BK141 := Aside0.mk (hbox); have GW141 := Aside0.mk (bge hg HB.out); have GE141 := Aside0.mk (bge hg HB.out); replace HB := Aside0.mk (bst HB.out hb); clear hb hbox hg; have hcz10_0 := cz3 BK141.out; have hfz10_0 := blk_frozen BK141.out))
    go_ret
    exact bfin (bel HB.out)
   ·as_aux_lemma =>
    rw [if_neg c8] at H
    have c8b0 : decide (a0_1 < 1) = false := decide_eq_false c8
    clear c8
    by_cases c11 : a0_1 > 50
    ·as_aux_lemma =>
     rw [if_pos c11] at H
     have c11b0 : decide (50 < a0_1) = true := decide_eq_true c11
     clear c11
     obtain rfl := Option.some.inj H
     go_enter Try.func44, Try.ntmps44
     go_wp2_with (first | ((with_reducible refine gate_dst (N := 1) rfl ?_); refine bxe (cs := #[.int .i64 a0_0, .int .i64 a0_1, .int .i64 a0_2]) (t := 60) ?_; intro gb141 hg w12 hbox hb; have BK141 := Aside0.mk (hbox); have GW141 := Aside0.mk (bge hg HB.out); have GE141 := Aside0.mk (bge hg HB.out); replace HB := Aside0.mk (bst HB.out hb); clear hb hbox hg; have hcz13_0 := cz3 BK141.out; have hfz13_0 := blk_frozen BK141.out))
     go_ret
     exact bfin (bel HB.out)
    ·as_aux_lemma =>
     rw [if_neg c11] at H
     have c11b0 : decide (50 < a0_1) = false := decide_eq_false c11
     clear c11
     by_cases c14 : a0_2 < 0
     ·as_aux_lemma =>
      rw [if_pos c14] at H
      have c14b0 : decide (a0_2 < 0) = true := decide_eq_true c14
      clear c14
      obtain rfl := Option.some.inj H
      go_enter Try.func44, Try.ntmps44
      go_wp2_with (first | ((with_reducible refine gate_dst (N := 1) rfl ?_); refine bxe (cs := #[.int .i64 a0_0, .int .i64 a0_1, .int .i64 a0_2]) (t := 60) ?_; intro gb141 hg w15 hbox hb; have BK141 := Aside0.mk (hbox); have GW141 := Aside0.mk (bge hg HB.out); have GE141 := Aside0.mk (bge hg HB.out); replace HB := Aside0.mk (bst HB.out hb); clear hb hbox hg; have hcz16_0 := cz3 BK141.out; have hfz16_0 := blk_frozen BK141.out))
      go_ret
      exact bfin (bel HB.out)
     ·as_aux_lemma =>
      rw [if_neg c14] at H
      have c14b0 : decide (a0_2 < 0) = false := decide_eq_false c14
      clear c14
      by_cases c17 : a0_2 > 5
      ·as_aux_lemma =>
       rw [if_pos c17] at H
       have c17b0 : decide (5 < a0_2) = true := decide_eq_true c17
       clear c17
       obtain rfl := Option.some.inj H
       go_enter Try.func44, Try.ntmps44
       go_wp2_with (first | ((with_reducible refine gate_dst (N := 1) rfl ?_); refine bxe (cs := #[.int .i64 a0_0, .int .i64 a0_1, .int .i64 a0_2]) (t := 60) ?_; intro gb141 hg w18 hbox hb; have BK141 := Aside0.mk (hbox); have GW141 := Aside0.mk (bge hg HB.out); have GE141 := Aside0.mk (bge hg HB.out); replace HB := Aside0.mk (bst HB.out hb); clear hb hbox hg; have hcz19_0 := cz3 BK141.out; have hfz19_0 := blk_frozen BK141.out))
       go_ret
       exact bfin (bel HB.out)
      ·as_aux_lemma =>
       rw [if_neg c17] at H
       have c17b0 : decide (5 < a0_2) = false := decide_eq_false c17
       clear c17
       obtain rfl := Option.some.inj H
       go_enter Try.func44, Try.ntmps44
       go_wp2_with (first | ((with_reducible refine gate_dst (N := 1) rfl ?_); refine bxe (cs := #[.int .i64 a0_0, .int .i64 a0_1, .int .i64 a0_2]) (t := 60) ?_; intro gb141 hg w20 hbox hb; have BK141 := Aside0.mk (hbox); have GW141 := Aside0.mk (bge hg HB.out); have GE141 := Aside0.mk (bge hg HB.out); replace HB := Aside0.mk (bst HB.out hb); clear hb hbox hg; have hcz21_0 := cz3 BK141.out; have hfz21_0 := blk_frozen BK141.out))
       go_ret
       exact bfin (bel HB.out)

/-! ### door_Worst: function 29 -/
def door_Worst.f (a0_0 : Int) (a0_1 : Int) (a0_2 : Int) : Option (Int × Int) := (door_Rule.f a0_0 a0_1 a0_2).bind fun t143 => (if t143 = 0 then (some (wrap64 ((wrap64 ((wrap64 (2 * a0_0)) + a0_1)) + (wrap64 (a0_2 * (wrap64 ((wrap64 ((wrap64 (2 * a0_0)) - 1)) + a0_1))))), 0)) else (some (0, t143)))
set_option maxHeartbeats 8000000 in
set_option maxRecDepth 100000 in
theorem door_Worst.calls (a0_0 : Int) (a0_1 : Int) (a0_2 : Int) (r1 : Int) (r2 : Int) (w : World) (h : door_Worst.f a0_0 a0_1 a0_2 = some (r1, r2)) :
  Calls Try.prog 29 #[.agg #[.int .i64 a0_0, .int .i64 a0_1, .int .i64 a0_2]] w fun e w' => e = .returned (.tuple #[.int .i64 r1, .int .i64 r2]) ∧ Below w.heap.size w w' := by
 have hu60 := Try.underlying60
 have HB := Aside0.mk (Below.refl w.heap.size w)
 have H : ((door_Rule.f a0_0 a0_1 a0_2).bind fun t143 => (if t143 = 0 then (some (wrap64 ((wrap64 ((wrap64 (2 * a0_0)) + a0_1)) + (wrap64 (a0_2 * (wrap64 ((wrap64 ((wrap64 (2 * a0_0)) - 1)) + a0_1))))), 0)) else (some (0, t143)))) = some (r1, r2) := h
 clear h
 replace H := Option.bind_eq_some_iff.mp H
 obtain ⟨t143, A20, H⟩ := H
 replace H : (if t143 = 0 then (some (wrap64 ((wrap64 ((wrap64 (2 * a0_0)) + a0_1)) + (wrap64 (a0_2 * (wrap64 ((wrap64 ((wrap64 (2 * a0_0)) - 1)) + a0_1))))), 0)) else (some (0, t143))) = some (r1, r2) := H
 have A2 := Aside0.mk A20
 clear A20
 by_cases c3 : t143 = 0
 ·as_aux_lemma =>
  rw [if_pos c3] at H
  have c3b0 : (t143 == 0) = true := beq_iff_eq.mpr c3
  have c3b1 : (t143 != 0) = false := bne_eq_false_iff_eq.mpr c3
  clear c3
  simp only [Option.some.injEq, Prod.mk.injEq] at H
  obtain ⟨rfl, rfl⟩ := H
  go_enter Try.func29, Try.ntmps29
  go_wp2_with (first | ((with_reducible refine gate_dst (N := 1) rfl ?_); refine bxe (cs := #[.int .i64 a0_0, .int .i64 a0_1, .int .i64 a0_2]) (t := 60) ?_; intro gb142 hg w4 hbox hb; have BK142 := Aside0.mk (hbox); have GW142 := Aside0.mk (bge hg HB.out); have GE142 := Aside0.mk (bge hg HB.out); replace HB := Aside0.mk (bst HB.out hb); clear hb hbox hg; have hcz5_0 := cz3 BK142.out; have hfz5_0 := blk_frozen BK142.out) | ((with_reducible refine gate_callee (f := 44) rfl ?_); refine gsl (some 6) Try.func44 #[.agg #[.int .i64 a0_0, .int .i64 a0_1, .int .i64 a0_2]] ?_; (with_reducible refine (door_Rule.calls a0_0 a0_1 a0_2 t143 _ A2.out).mono ?_); rintro e w6 ⟨rfl, hb⟩; refine ⟨_, rfl, ?_⟩; replace BK142 := Aside0.mk (bkb BK142.out hb); replace HB := Aside0.mk (bst HB.out hb); (try clear hb); (try clear hb2); (try clear hk); (try clear hi); have hcz7_0 := cz3 BK142.out; have hfz7_0 := blk_frozen BK142.out))
  go_ret2
  exact bfin (bel HB.out)
 ·as_aux_lemma =>
  rw [if_neg c3] at H
  have c3b0 : (t143 == 0) = false := beq_eq_false_iff_ne.mpr c3
  have c3b1 : (t143 != 0) = true := bne_iff_ne.mpr c3
  simp only [Option.some.injEq, Prod.mk.injEq] at H
  obtain ⟨rfl, rfl⟩ := H
  go_enter Try.func29, Try.ntmps29
  go_wp2_with (first | ((with_reducible refine gate_dst (N := 1) rfl ?_); refine bxe (cs := #[.int .i64 a0_0, .int .i64 a0_1, .int .i64 a0_2]) (t := 60) ?_; intro gb142 hg w8 hbox hb; have BK142 := Aside0.mk (hbox); have GW142 := Aside0.mk (bge hg HB.out); have GE142 := Aside0.mk (bge hg HB.out); replace HB := Aside0.mk (bst HB.out hb); clear hb hbox hg; have hcz9_0 := cz3 BK142.out; have hfz9_0 := blk_frozen BK142.out) | ((with_reducible refine gate_callee (f := 44) rfl ?_); refine gsl (some 6) Try.func44 #[.agg #[.int .i64 a0_0, .int .i64 a0_1, .int .i64 a0_2]] ?_; (with_reducible refine (door_Rule.calls a0_0 a0_1 a0_2 t143 _ A2.out).mono ?_); rintro e w10 ⟨rfl, hb⟩; refine ⟨_, rfl, ?_⟩; replace BK142 := Aside0.mk (bkb BK142.out hb); replace HB := Aside0.mk (bst HB.out hb); (try clear hb); (try clear hb2); (try clear hk); (try clear hi)))
  go_ret2
  exact bfin (bel HB.out)

end Go.Proofs.Ytmdcjmackhjchaa.P
end

section
/- Rides, heights and worst cases of doors: the program answers as the references do. Plain Lean. -/
namespace Go.Proofs.Ytmdcjmackhjchaa.P
open Go.RowKit Go.Proofs.YtmdcjmackhjchaaW.PrintWords Go.Proofs.YtmdcjmackhjchaaW.PrintLast Go.Proofs.YtmdcjmackhjchaaW.PrintMore
set_option linter.unusedVariables false
set_option linter.unusedSimpArgs false

theorem ptri_succ (v : Int) : ptri (v + 1) = ptri v + (v + 1) := by
 unfold ptri
 rw [show (v + 1) * (v + 1 + 1) = v * (v + 1) + (v + 1) * 2 from by rw [Int.mul_add (v + 1) (v + 1) 1, Int.mul_one, Int.mul_comm v (v + 1), Int.mul_add (v + 1) v 1, Int.mul_one]; omega, Int.add_mul_ediv_right _ _ (by decide)]
theorem ptri_nn (v : Int) (h : -1 ≤ v) : 0 ≤ ptri v := by
 unfold ptri
 by_cases h0 : v = -1
 ·subst h0; decide
 ·exact Int.ediv_nonneg (Int.mul_nonneg (by omega) (by omega)) (by decide)
/-- The next speed of a drive that can stop. -/
theorem pnext_ok {s L sp : Int} (h0 : 0 ≤ s) (h1 : s ≤ sp) (h2 : 1 ≤ sp) (hL : 1 ≤ L) (ht : ptri (s - 1) ≤ L) :
  ∃ v, pnext s L sp = (v, true) ∧ 1 ≤ v ∧ v ≤ sp ∧ v ≤ L ∧ ptri (v - 1) ≤ L - v ∧ s - 1 ≤ v ∧ v ≤ s + 1 ∧ ptri v ≤ L ∧
   ((v = s + 1) ∨ (v = s ∧ ¬ pok (s + 1) L sp) ∨ (v = s - 1 ∧ ¬ pok (s + 1) L sp ∧ ¬ pok s L sp)) := by
 have fin : ∀ v, 1 ≤ v → ptri v ≤ L → v ≤ L ∧ ptri (v - 1) ≤ L - v := by
  intro v hv hp
  have e := ptri_succ (v - 1)
  rw [show v - 1 + 1 = v from by omega] at e
  have := ptri_nn (v - 1) (by omega)
  omega
 have h11 : ptri 1 = 1 := by decide
 by_cases c1 : pok (s + 1) L sp
 ·refine ⟨s + 1, by unfold pnext; rw [if_pos c1], ?_⟩
  obtain ⟨g1, g2, g3⟩ := c1
  have := fin (s + 1) (by omega) g3
  exact ⟨by omega, by omega, this.1, this.2, by omega, by omega, g3, .inl rfl⟩
 ·by_cases c2 : pok s L sp
  ·have hs : 1 ≤ s := by
    by_cases hs : s = 0
    ·subst hs; exact absurd ⟨by omega, by omega, by rw [show (0 : Int) + 1 = 1 from rfl, h11]; exact hL⟩ c1
    ·omega
   refine ⟨s, by unfold pnext; rw [if_neg c1, if_pos c2], ?_⟩
   obtain ⟨g1, g2, g3⟩ := c2
   have := fin s hs g3
   exact ⟨by omega, by omega, this.1, this.2, by omega, by omega, g3, .inr (.inl ⟨rfl, c1⟩)⟩
  ·have hs : 2 ≤ s := by
    by_cases hs : s = 0
    ·subst hs; exact absurd ⟨by omega, by omega, by show ptri 0 ≤ L; rw [show ptri 0 = 0 from by decide]; omega⟩ c2
    ·by_cases hs1 : s = 1
     ·subst hs1; exact absurd ⟨by omega, by omega, by rw [h11]; exact hL⟩ c2
     ·omega
   refine ⟨s - 1, by unfold pnext; rw [if_neg c1, if_neg c2, if_pos ⟨by omega, by omega, ht⟩], ?_⟩
   have := fin (s - 1) (by omega) ht
   exact ⟨by omega, by omega, this.1, this.2, by omega, by omega, ht, .inr (.inr ⟨rfl, c1, c2⟩)⟩

theorem limits_ok (L sp : Int) (h : 0 ≤ L ∧ L ≤ 63000) (h2 : 1 ≤ sp ∧ sp ≤ 20) : profile_limits.f L sp = some true := by
 unfold profile_limits.f
 rw [if_pos (by omega), if_pos (by omega), if_pos (by omega), decide_eq_true (by omega)]
theorem pcnt_ex (lim : Int) (h1 : 1 ≤ lim) (h2 : lim ≤ 20) : ∀ (K : Nat) (s L : Int), 0 ≤ s → s ≤ lim → ptri (s - 1) ≤ L → 0 ≤ L → L < K → L ≤ 70000 → ∃ T, pcnt lim K (s, L) = some T ∧ (T : Int) ≤ L := by
 intro K
 induction K with
 | zero => intro s L _ _ _ h h'; omega
 | succ K ih =>
  intro s L h0 hs ht hL hK h7
  rw [pcnt]
  dsimp only
  by_cases c : L > 0
  ·obtain ⟨v, e, v1, v2, v3, v4, v5, v6, v7, v8⟩ := pnext_ok h0 hs h1 (show 1 ≤ L by omega) ht
   obtain ⟨T, hT, hl⟩ := ih v (L - v) (by omega) v2 v4 (by omega) (by omega) (by omega)
   refine ⟨T + 1, ?_, by omega⟩
   rw [if_pos c, if_pos ⟨h0, by omega, by omega⟩]
   unfold pnx
   dsimp only
   rw [e]
   dsimp only
   rw [hT]
   rfl
  ·rw [if_neg c]
   exact ⟨0, rfl, by omega⟩

theorem pcnt_way (L sp : Int) (h : 0 ≤ L) (h1 : L ≤ 63000) (h2 : 1 ≤ sp) (h3 : sp ≤ 20) : ∃ T : Nat, pcnt sp 70000 (0, L) = some T ∧ (T : Int) ≤ L :=
 pcnt_ex sp h2 h3 70000 0 L (by omega) (by omega) (by rw [show ptri (0 - 1) = 0 from by decide]; exact h) h (by omega) (by omega)
theorem travel_eq (L sp : Int) (h : 0 ≤ L) (h1 : L ≤ 63000) (h2 : 1 ≤ sp) (h3 : sp ≤ 20) {T : Nat} (hT : pcnt sp 70000 (0, L) = some T) : profile_Travel.f L sp = some ((T : Int), 0) := by
 unfold profile_Travel.f profile_travel.f
 rw [limits_ok L sp ⟨h, h1⟩ ⟨h2, h3⟩, Option.bind_some, if_pos rfl, hT]
 rfl
end Go.Proofs.Ytmdcjmackhjchaa.P
end

section
/- config.Times and the reference's: walked by hand, region by region. -/
namespace Go.Proofs.Ytmdcjmackhjchaa.P
open Go.RowKit Go.Proofs.YtmdcjmackhjchaaW.PrintWords Go.Proofs.YtmdcjmackhjchaaW.PrintLast Go.Proofs.YtmdcjmackhjchaaW.PrintMore
attribute [local go_sem] cell_same1 cell_some1
set_option linter.unusedVariables false
set_option linter.unusedSimpArgs false
/-- What a walk of Times knows of the world: the configuration and the result lie in blocks of their own. -/
structure TM (w : World) (c : Cfg) (g1 g2 : Nat) (W : World) : Prop where
 b1 : W.heap[g1]? = some (.cells c.cells 29)
 b2 : W.heap[g2]? = some (.cells #[.int .i64 0, .int .i64 0, .int .i64 0, .int .i64 0, .int .i64 0] 42)
 ge : w.heap.size ≤ g2
 be : Below w.heap.size w W
/-- .. and the times that are made lie in a third. -/
structure TN (w : World) (c : Cfg) (g1 g2 g3 : Nat) (x0 x1 x2 x3 x4 : Int) (W : World) : Prop extends TM w c g1 g2 W where
 b3 : W.heap[g3]? = some (.cells #[.int .i64 x0, .int .i64 x1, .int .i64 x2, .int .i64 x3, .int .i64 x4] 42)
 g3e : w.heap.size ≤ g3
 n1 : g3 ≠ g1
 n2 : g3 ≠ g2
theorem TM.step {w : World} {c : Cfg} {g1 g2 : Nat} {W W' : World} (h : TM w c g1 g2 W) (hb : Below W.heap.size W W') : TM w c g1 g2 W' :=
 ⟨blk_below h.b1 hb, blk_below h.b2 hb, h.ge, below_step h.be hb⟩
theorem TN.step {w : World} {c : Cfg} {g1 g2 g3 : Nat} {x0 x1 x2 x3 x4 : Int} {W W' : World} (h : TN w c g1 g2 g3 x0 x1 x2 x3 x4 W) (hb : Below W.heap.size W W') : TN w c g1 g2 g3 x0 x1 x2 x3 x4 W' :=
 ⟨h.toTM.step hb, blk_below h.b3 hb, h.g3e, h.n1, h.n2⟩
theorem TN.new {w : World} {c : Cfg} {g1 g2 : Nat} {W : World} (h : TM w c g1 g2 W) (x0 x1 x2 x3 x4 : Int) : TN w c g1 g2 W.heap.size x0 x1 x2 x3 x4 (W.alloc (.cells #[.int .i64 x0, .int .i64 x1, .int .i64 x2, .int .i64 x3, .int .i64 x4] 42)) :=
 ⟨⟨blk_alloc h.b1 _, blk_alloc h.b2 _, h.ge, below_alloc h.be _⟩, blk_new _ _, below_size h.be, Nat.ne_of_gt (blk_lt h.b1), Nat.ne_of_gt (blk_lt h.b2)⟩
theorem TN.put {w : World} {c : Cfg} {g1 g2 g3 : Nat} {x0 x1 x2 x3 x4 y0 y1 y2 y3 y4 : Int} {W : World} (h : TN w c g1 g2 g3 x0 x1 x2 x3 x4 W) (i : Nat) (v : Int)
  (he : (#[.int .i64 x0, .int .i64 x1, .int .i64 x2, .int .i64 x3, .int .i64 x4] : Array Value).setIfInBounds i (.int .i64 v) = #[.int .i64 y0, .int .i64 y1, .int .i64 y2, .int .i64 y3, .int .i64 y4]) : TN w c g1 g2 g3 y0 y1 y2 y3 y4 (W.setCell ⟨g3, i, none⟩ (.int .i64 v)) :=
 ⟨⟨blk_far h.b1 (p := ⟨g3, i, none⟩) (Ne.symm h.n1) _, blk_far h.b2 (p := ⟨g3, i, none⟩) (Ne.symm h.n2) _, h.ge, h.be.setCell h.g3e _⟩, by rw [← he]; exact blk_set h.b3 i _, h.g3e, h.n1, h.n2⟩

set_option maxHeartbeats 4000000 in
set_option maxRecDepth 100000 in
theorem times_ok (c : Cfg) (h he mv dv de tr t1 t2 sl cy : Int) (w : World) (q1 : wrap64 (mv + dv) = tr) (q2 : wrap64 (c.trips + 1) = t1) (q3 : wrap64 (t1 * tr) = t2) (q4 : wrap64 (mv + t2) = sl) (q5 : wrap64 (c.slots * sl) = cy)
  (HC : ∀ W, Below w.heap.size w W → Calls Try.prog 18 #[.agg c.cells] W fun e w' => e = .returned (.int .i64 0) ∧ Below W.heap.size W w')
  (HH : ∀ W, Below w.heap.size w W → Calls Try.prog 27 #[c.gaps] W fun e w' => e = .returned (.tuple #[.int .i64 h, .int .i64 he]) ∧ Below W.heap.size W w')
  (HW : ∀ W, Below w.heap.size w W → Calls Try.prog 28 #[.agg c.cells, .int .i64 h] W fun e w' => e = .returned (.int .i64 mv) ∧ Below W.heap.size W w')
  (HD : ∀ W, Below w.heap.size w W → Calls Try.prog 29 #[.agg #[.int .i64 c.width, .int .i64 c.dwell, .int .i64 c.retries]] W fun e w' => e = .returned (.tuple #[.int .i64 dv, .int .i64 de]) ∧ Below W.heap.size W w') :
  Calls Try.prog 15 #[.agg c.cells] w fun e w' => e = .returned (.tuple #[.agg #[.int .i64 mv, .int .i64 dv, .int .i64 tr, .int .i64 sl, .int .i64 cy], .int .i64 0]) ∧ Below w.heap.size w w' := by
 have hu29 := Try.underlying29
 have hu42 := Try.underlying42
 have Q1 := Aside0.mk q1
 have Q2 := Aside0.mk q2
 have Q3 := Aside0.mk q3
 have Q4 := Aside0.mk q4
 have Q5 := Aside0.mk q5
 clear q1 q2 q3 q4 q5
 have HC := Aside0.mk HC
 have HH := Aside0.mk HH
 have HW := Aside0.mk HW
 have HD := Aside0.mk HD
 have HB := Aside0.mk (Below.refl w.heap.size w)
 go_enter Try.func15, Try.ntmps15
 go_upto_region 4 with (first | ((with_reducible refine gate_dst (N := 1) rfl ?_); refine bxe (cs := c.cells) (t := 29) ?_; intro g1 hg w1 hbox hb; have B1 := Aside0.mk hbox; replace HB := Aside0.mk (bst HB.out hb); clear hb hbox hg) | ((with_reducible refine gate_dst (N := 2) rfl ?_); refine bxe (cs := #[.int .i64 0, .int .i64 0, .int .i64 0, .int .i64 0, .int .i64 0]) (t := 42) ?_; intro g2 hg w2 hbox hb; have B2 := Aside0.mk hbox; have G2 := Aside0.mk (bge hg HB.out); replace B1 := Aside0.mk (bkb B1.out hb); replace HB := Aside0.mk (bst HB.out hb); clear hb hbox hg) | ((with_reducible refine gate_dst (N := 8) rfl ?_); refine lwx (g := g1) (bkt B1.out) ?_) | (go_at_call 18; (with_reducible refine (HC.out _ (bel HB.out)).mono ?_); rintro e w3 ⟨rfl, hb⟩; replace B1 := Aside0.mk (bkb B1.out hb); replace B2 := Aside0.mk (bkb B2.out hb); replace HB := Aside0.mk (bst HB.out hb); clear hb))
 refine wp_abs (TM w c g1 g2) ⟨bkt B1.out, bkt B2.out, G2.out, bel HB.out⟩ (fun W4 h4 => ?_)
 clear B1 B2 HB
 have H4 := Aside0.mk h4
 have hc1 : W4.cell? ⟨g1, 1, none⟩ = some c.gaps := (blk_cell h4.b1 1).trans rfl
 clear h4
 go_upto_region 5 with (go_at_call 27; (with_reducible refine (HH.out _ (bel H4.out.be)).mono ?_); rintro e w5 ⟨rfl, hb⟩; replace H4 := Aside0.mk (H4.out.step hb); clear hb hc1)
 refine wp_abs (TM w c g1 g2) H4.out (fun W5 h5 => ?_)
 have H5 := Aside0.mk h5
 clear h5
 go_upto_region 6 with (first | ((with_reducible refine gate_dst (N := 20) rfl ?_); refine lwx (g := g1) H5.out.b1 ?_) | (go_at_call 28; (with_reducible refine (HW.out _ (bel H5.out.be)).mono ?_); rintro e w6 ⟨rfl, hb⟩; replace H5 := Aside0.mk (H5.out.step hb); clear hb))
 have N6 := Aside0.mk (TN.new (c := c) H5.out mv 0 0 0 0)
 clear H5
 refine wp_abs _ N6.out (fun W6 h6 => ?_)
 clear N6
 generalize w6.heap.size = g3 at h6 ⊢
 have H6 := Aside0.mk h6
 have hw6 : W6.cell? ⟨g1, 6, none⟩ = some (.int .i64 c.width) := (blk_cell h6.b1 6).trans rfl
 have hw7 : W6.cell? ⟨g1, 7, none⟩ = some (.int .i64 c.dwell) := (blk_cell h6.b1 7).trans rfl
 have hw8 : W6.cell? ⟨g1, 8, none⟩ = some (.int .i64 c.retries) := (blk_cell h6.b1 8).trans rfl
 clear h6
 go_upto_region 7 with (go_at_call 29; (with_reducible refine (HD.out _ (bel H6.out.be)).mono ?_); rintro e w7 ⟨rfl, hb⟩; replace H6 := Aside0.mk (H6.out.step hb); clear hb hw6 hw7 hw8; have hz := cz5 H6.out.b3; have hzf := blk_frozen H6.out.b3)
 clear hz hzf
 refine wp_abs (TN w c g1 g2 g3 mv dv 0 0 0) (H6.out.put 1 dv rfl) (fun W7 h7 => ?_)
 clear H6
 have H7 := Aside0.mk h7
 have hz := cz5 h7.b3
 have hzf := blk_frozen h7.b3
 clear h7
 have htr' : IntKind.i64.wrap (mv + dv) = tr := (i64_w _).trans Q1.out
 go_upto_region 8 with fail
 clear hz hzf htr'
 refine wp_abs (TN w c g1 g2 g3 mv dv tr 0 0) (H7.out.put 2 tr rfl) (fun W8 h8 => ?_)
 clear H7
 have H8 := Aside0.mk h8
 have hz := cz5 h8.b3
 have hzf := blk_frozen h8.b3
 have hw11 : W8.cell? ⟨g1, 11, none⟩ = some (.int .i64 c.trips) := (blk_cell h8.b1 11).trans rfl
 clear h8
 have ht1' : IntKind.i64.wrap (c.trips + 1) = t1 := (i64_w _).trans Q2.out
 have ht2' : IntKind.i64.wrap (t1 * tr) = t2 := (i64_w _).trans Q3.out
 have hsl' : IntKind.i64.wrap (mv + t2) = sl := (i64_w _).trans Q4.out
 go_upto_region 9 with fail
 clear hz hzf ht1' ht2' hsl' hw11
 refine wp_abs (TN w c g1 g2 g3 mv dv tr sl 0) (H8.out.put 3 sl rfl) (fun W9 h9 => ?_)
 clear H8
 have H9 := Aside0.mk h9
 have hz := cz5 h9.b3
 have hzf := blk_frozen h9.b3
 have hw12 : W9.cell? ⟨g1, 12, none⟩ = some (.int .i64 c.slots) := (blk_cell h9.b1 12).trans rfl
 clear h9
 have hcy' : IntKind.i64.wrap (c.slots * sl) = cy := (i64_w _).trans Q5.out
 go_upto_region 10 with fail
 clear hz hzf hcy' hw12
 refine wp_abs (TN w c g1 g2 g3 mv dv tr sl cy) (H9.out.put 4 cy rfl) (fun W10 h10 => ?_)
 clear H9
 have H10 := Aside0.mk h10
 have hz := cz5 h10.b3
 have hz2 := cz5 h10.b2
 have hzf := blk_frozen h10.b2
 clear h10
 go_wp2
 refine bodyPost_ret (results_ct rfl _ _ g2 42 #[.int .i64 mv, .int .i64 dv, .int .i64 tr, .int .i64 sl, .int .i64 cy] (0, 0) _ rfl (blk_put (blk_put (blk_put (blk_put (blk_put H10.out.b2 0 _ rfl) 1 _ rfl) 2 _ rfl) 3 _ rfl) 4 _ rfl) hu42 rfl (by kernel_rfl)) rfl ?_
 exact ⟨rfl, ((((H10.out.be.setCell H10.out.ge _).setCell H10.out.ge _).setCell H10.out.ge _).setCell H10.out.ge _).setCell H10.out.ge _⟩
set_option maxHeartbeats 4000000 in
set_option maxRecDepth 100000 in
theorem times_bad (c : Cfg) (x : Int) (w : World) (hx : ¬ x = 0)
  (HC : ∀ W, Below w.heap.size w W → Calls Try.prog 18 #[.agg c.cells] W fun e w' => e = .returned (.int .i64 x) ∧ Below W.heap.size W w') :
  Calls Try.prog 15 #[.agg c.cells] w fun e w' => e = .returned (.tuple #[.agg #[.int .i64 0, .int .i64 0, .int .i64 0, .int .i64 0, .int .i64 0], .int .i64 x]) ∧ Below w.heap.size w w' := by
 have hu29 := Try.underlying29
 have hu42 := Try.underlying42
 have HC := Aside0.mk HC
 have hx0 : (x == 0) = false := beq_eq_false_iff_ne.mpr hx
 have hx1 : (x != 0) = true := bne_iff_ne.mpr hx
 have HB := Aside0.mk (Below.refl w.heap.size w)
 go_enter Try.func15, Try.ntmps15
 go_upto_region 3 with (first | ((with_reducible refine gate_dst (N := 1) rfl ?_); refine bxe (cs := c.cells) (t := 29) ?_; intro g1 hg w1 hbox hb; have B1 := Aside0.mk hbox; replace HB := Aside0.mk (bst HB.out hb); clear hb hbox hg) | ((with_reducible refine gate_dst (N := 2) rfl ?_); refine bxe (cs := #[.int .i64 0, .int .i64 0, .int .i64 0, .int .i64 0, .int .i64 0]) (t := 42) ?_; intro g2 hg w2 hbox hb; have B2 := Aside0.mk hbox; have G2 := Aside0.mk (bge hg HB.out); replace B1 := Aside0.mk (bkb B1.out hb); replace HB := Aside0.mk (bst HB.out hb); clear hb hbox hg) | ((with_reducible refine gate_dst (N := 8) rfl ?_); refine lwx (g := g1) (bkt B1.out) ?_) | (go_at_call 18; (with_reducible refine (HC.out _ (bel HB.out)).mono ?_); rintro e w3 ⟨rfl, hb⟩; replace B1 := Aside0.mk (bkb B1.out hb); replace B2 := Aside0.mk (bkb B2.out hb); replace HB := Aside0.mk (bst HB.out hb); clear hb))
 refine wp_abs (TM w c g1 g2) ⟨bkt B1.out, bkt B2.out, G2.out, bel HB.out⟩ (fun W4 h4 => ?_)
 clear B1 B2 HB
 have H4 := Aside0.mk h4
 have hz2 := cz5 h4.b2
 have hzf := blk_frozen h4.b2
 clear h4
 go_wp2
 refine bodyPost_ret (results_ct rfl _ _ g2 42 #[.int .i64 0, .int .i64 0, .int .i64 0, .int .i64 0, .int .i64 0] (0, 0) _ rfl (blk_put (blk_put (blk_put (blk_put (blk_put H4.out.b2 0 _ rfl) 1 _ rfl) 2 _ rfl) 3 _ rfl) 4 _ rfl) hu42 rfl (by kernel_rfl)) rfl ?_
 exact ⟨rfl, ((((H4.out.be.setCell H4.out.ge _).setCell H4.out.ge _).setCell H4.out.ge _).setCell H4.out.ge _).setCell H4.out.ge _⟩
set_option maxHeartbeats 4000000 in
set_option maxRecDepth 100000 in
theorem timesR_ok (c : Cfg) (h he mv dv de tr t1 t2 sl cy : Int) (w : World) (q1 : wrap64 (mv + dv) = tr) (q2 : wrap64 (c.trips + 1) = t1) (q3 : wrap64 (t1 * tr) = t2) (q4 : wrap64 (mv + t2) = sl) (q5 : wrap64 (c.slots * sl) = cy)
  (HC : ∀ W, Below w.heap.size w W → Calls Try.prog 19 #[.agg c.cells] W fun e w' => e = .returned (.int .i64 0) ∧ Below W.heap.size W w')
  (HH : ∀ W, Below w.heap.size w W → Calls Try.prog 39 #[c.gaps] W fun e w' => e = .returned (.tuple #[.int .i64 h, .int .i64 he]) ∧ Below W.heap.size W w')
  (HW : ∀ W, Below w.heap.size w W → Calls Try.prog 41 #[.agg c.cells, .int .i64 h] W fun e w' => e = .returned (.int .i64 mv) ∧ Below W.heap.size W w')
  (HD : ∀ W, Below w.heap.size w W → Calls Try.prog 40 #[.agg #[.int .i64 c.width, .int .i64 c.dwell, .int .i64 c.retries]] W fun e w' => e = .returned (.tuple #[.int .i64 dv, .int .i64 de]) ∧ Below W.heap.size W w') :
  Calls Try.prog 25 #[.agg c.cells] w fun e w' => e = .returned (.tuple #[.agg #[.int .i64 mv, .int .i64 dv, .int .i64 tr, .int .i64 sl, .int .i64 cy], .int .i64 0]) ∧ Below w.heap.size w w' := by
 have hu29 := Try.underlying29
 have hu42 := Try.underlying42
 have Q1 := Aside0.mk q1
 have Q2 := Aside0.mk q2
 have Q3 := Aside0.mk q3
 have Q4 := Aside0.mk q4
 have Q5 := Aside0.mk q5
 clear q1 q2 q3 q4 q5
 have HC := Aside0.mk HC
 have HH := Aside0.mk HH
 have HW := Aside0.mk HW
 have HD := Aside0.mk HD
 have HB := Aside0.mk (Below.refl w.heap.size w)
 go_enter Try.func25, Try.ntmps25
 go_upto_region 4 with (first | ((with_reducible refine gate_dst (N := 1) rfl ?_); refine bxe (cs := c.cells) (t := 29) ?_; intro g1 hg w1 hbox hb; have B1 := Aside0.mk hbox; replace HB := Aside0.mk (bst HB.out hb); clear hb hbox hg) | ((with_reducible refine gate_dst (N := 2) rfl ?_); refine bxe (cs := #[.int .i64 0, .int .i64 0, .int .i64 0, .int .i64 0, .int .i64 0]) (t := 42) ?_; intro g2 hg w2 hbox hb; have B2 := Aside0.mk hbox; have G2 := Aside0.mk (bge hg HB.out); replace B1 := Aside0.mk (bkb B1.out hb); replace HB := Aside0.mk (bst HB.out hb); clear hb hbox hg) | ((with_reducible refine gate_dst (N := 10) rfl ?_); refine lwx (g := g1) (bkt B1.out) ?_) | (go_at_call 19; (with_reducible refine (HC.out _ (bel HB.out)).mono ?_); rintro e w3 ⟨rfl, hb⟩; replace B1 := Aside0.mk (bkb B1.out hb); replace B2 := Aside0.mk (bkb B2.out hb); replace HB := Aside0.mk (bst HB.out hb); clear hb))
 refine wp_abs (TM w c g1 g2) ⟨bkt B1.out, bkt B2.out, G2.out, bel HB.out⟩ (fun W4 h4 => ?_)
 clear B1 B2 HB
 have H4 := Aside0.mk h4
 have hc1 : W4.cell? ⟨g1, 1, none⟩ = some c.gaps := (blk_cell h4.b1 1).trans rfl
 clear h4
 go_upto_region 5 with (go_at_call 39; (with_reducible refine (HH.out _ (bel H4.out.be)).mono ?_); rintro e w5 ⟨rfl, hb⟩; replace H4 := Aside0.mk (H4.out.step hb); clear hb hc1)
 refine wp_abs (TM w c g1 g2) H4.out (fun W5 h5 => ?_)
 have H5 := Aside0.mk h5
 clear h5
 have hw6 : W5.cell? ⟨g1, 6, none⟩ = some (.int .i64 c.width) := (blk_cell H5.out.b1 6).trans rfl
 have hw7 : W5.cell? ⟨g1, 7, none⟩ = some (.int .i64 c.dwell) := (blk_cell H5.out.b1 7).trans rfl
 have hw8 : W5.cell? ⟨g1, 8, none⟩ = some (.int .i64 c.retries) := (blk_cell H5.out.b1 8).trans rfl
 go_upto_region 6 with (go_at_call 40; (with_reducible refine (HD.out _ (bel H5.out.be)).mono ?_); rintro e w7 ⟨rfl, hb⟩; replace H5 := Aside0.mk (H5.out.step hb); clear hb hw6 hw7 hw8)
 refine wp_abs (TM w c g1 g2) H5.out (fun W6 h6 => ?_)
 clear H5
 have H5 := Aside0.mk h6
 clear h6
 go_upto_region 7 with (first | ((with_reducible refine gate_dst (N := 33) rfl ?_); refine lwx (g := g1) H5.out.b1 ?_) | (go_at_call 41; (with_reducible refine (HW.out _ (bel H5.out.be)).mono ?_); rintro e w6 ⟨rfl, hb⟩; replace H5 := Aside0.mk (H5.out.step hb); clear hb))
 have N6 := Aside0.mk (TN.new (c := c) H5.out mv dv 0 0 0)
 clear H5
 refine wp_abs _ N6.out (fun W7 h7 => ?_)
 clear N6
 generalize w6.heap.size = g3 at h7 ⊢
 have H7 := Aside0.mk h7
 have hz := cz5 h7.b3
 have hzf := blk_frozen h7.b3
 clear h7
 have htr' : IntKind.i64.wrap (mv + dv) = tr := (i64_w _).trans Q1.out
 go_upto_region 8 with fail
 clear hz hzf htr'
 refine wp_abs (TN w c g1 g2 g3 mv dv tr 0 0) (H7.out.put 2 tr rfl) (fun W8 h8 => ?_)
 clear H7
 have H8 := Aside0.mk h8
 have hz := cz5 h8.b3
 have hzf := blk_frozen h8.b3
 have hw11 : W8.cell? ⟨g1, 11, none⟩ = some (.int .i64 c.trips) := (blk_cell h8.b1 11).trans rfl
 clear h8
 have ht1' : IntKind.i64.wrap (c.trips + 1) = t1 := (i64_w _).trans Q2.out
 have ht2' : IntKind.i64.wrap (t1 * tr) = t2 := (i64_w _).trans Q3.out
 have hsl' : IntKind.i64.wrap (mv + t2) = sl := (i64_w _).trans Q4.out
 go_upto_region 9 with fail
 clear hz hzf ht1' ht2' hsl' hw11
 refine wp_abs (TN w c g1 g2 g3 mv dv tr sl 0) (H8.out.put 3 sl rfl) (fun W9 h9 => ?_)
 clear H8
 have H9 := Aside0.mk h9
 have hz := cz5 h9.b3
 have hzf := blk_frozen h9.b3
 have hw12 : W9.cell? ⟨g1, 12, none⟩ = some (.int .i64 c.slots) := (blk_cell h9.b1 12).trans rfl
 clear h9
 have hcy' : IntKind.i64.wrap (c.slots * sl) = cy := (i64_w _).trans Q5.out
 go_upto_region 10 with fail
 clear hz hzf hcy' hw12
 refine wp_abs (TN w c g1 g2 g3 mv dv tr sl cy) (H9.out.put 4 cy rfl) (fun W10 h10 => ?_)
 clear H9
 have H10 := Aside0.mk h10
 have hz := cz5 h10.b3
 have hz2 := cz5 h10.b2
 have hzf := blk_frozen h10.b2
 clear h10
 go_wp2
 refine bodyPost_ret (results_ct rfl _ _ g2 42 #[.int .i64 mv, .int .i64 dv, .int .i64 tr, .int .i64 sl, .int .i64 cy] (0, 0) _ rfl (blk_put (blk_put (blk_put (blk_put (blk_put H10.out.b2 0 _ rfl) 1 _ rfl) 2 _ rfl) 3 _ rfl) 4 _ rfl) hu42 rfl (by kernel_rfl)) rfl ?_
 exact ⟨rfl, ((((H10.out.be.setCell H10.out.ge _).setCell H10.out.ge _).setCell H10.out.ge _).setCell H10.out.ge _).setCell H10.out.ge _⟩
set_option maxHeartbeats 4000000 in
set_option maxRecDepth 100000 in
theorem timesR_bad (c : Cfg) (x : Int) (w : World) (hx : ¬ x = 0)
  (HC : ∀ W, Below w.heap.size w W → Calls Try.prog 19 #[.agg c.cells] W fun e w' => e = .returned (.int .i64 x) ∧ Below W.heap.size W w') :
  Calls Try.prog 25 #[.agg c.cells] w fun e w' => e = .returned (.tuple #[.agg #[.int .i64 0, .int .i64 0, .int .i64 0, .int .i64 0, .int .i64 0], .int .i64 x]) ∧ Below w.heap.size w w' := by
 have hu29 := Try.underlying29
 have hu42 := Try.underlying42
 have HC := Aside0.mk HC
 have hx0 : (x == 0) = false := beq_eq_false_iff_ne.mpr hx
 have hx1 : (x != 0) = true := bne_iff_ne.mpr hx
 have HB := Aside0.mk (Below.refl w.heap.size w)
 go_enter Try.func25, Try.ntmps25
 go_upto_region 3 with (first | ((with_reducible refine gate_dst (N := 1) rfl ?_); refine bxe (cs := c.cells) (t := 29) ?_; intro g1 hg w1 hbox hb; have B1 := Aside0.mk hbox; replace HB := Aside0.mk (bst HB.out hb); clear hb hbox hg) | ((with_reducible refine gate_dst (N := 2) rfl ?_); refine bxe (cs := #[.int .i64 0, .int .i64 0, .int .i64 0, .int .i64 0, .int .i64 0]) (t := 42) ?_; intro g2 hg w2 hbox hb; have B2 := Aside0.mk hbox; have G2 := Aside0.mk (bge hg HB.out); replace B1 := Aside0.mk (bkb B1.out hb); replace HB := Aside0.mk (bst HB.out hb); clear hb hbox hg) | ((with_reducible refine gate_dst (N := 10) rfl ?_); refine lwx (g := g1) (bkt B1.out) ?_) | (go_at_call 19; (with_reducible refine (HC.out _ (bel HB.out)).mono ?_); rintro e w3 ⟨rfl, hb⟩; replace B1 := Aside0.mk (bkb B1.out hb); replace B2 := Aside0.mk (bkb B2.out hb); replace HB := Aside0.mk (bst HB.out hb); clear hb))
 refine wp_abs (TM w c g1 g2) ⟨bkt B1.out, bkt B2.out, G2.out, bel HB.out⟩ (fun W4 h4 => ?_)
 clear B1 B2 HB
 have H4 := Aside0.mk h4
 have hz2 := cz5 h4.b2
 have hzf := blk_frozen h4.b2
 clear h4
 go_wp2
 refine bodyPost_ret (results_ct rfl _ _ g2 42 #[.int .i64 0, .int .i64 0, .int .i64 0, .int .i64 0, .int .i64 0] (0, 0) _ rfl (blk_put (blk_put (blk_put (blk_put (blk_put H4.out.b2 0 _ rfl) 1 _ rfl) 2 _ rfl) 3 _ rfl) 4 _ rfl) hu42 rfl (by kernel_rfl)) rfl ?_
 exact ⟨rfl, ((((H4.out.be.setCell H4.out.ge _).setCell H4.out.ge _).setCell H4.out.ge _).setCell H4.out.ge _).setCell H4.out.ge _⟩
end Go.Proofs.Ytmdcjmackhjchaa.P
end

section
/- The slots of a domain are looked for by library functions over function values: walked by hand. -/
namespace Go.Proofs.Ytmdcjmackhjchaa.P
open Go.RowKit Go.Proofs.YtmdcjmackhjchaaW.PrintWords Go.Proofs.YtmdcjmackhjchaaW.PrintLast Go.Proofs.YtmdcjmackhjchaaW.PrintMore
attribute [local go_sem] cell_same1 cell_some1
set_option linter.unusedVariables false
set_option linter.unusedSimpArgs false

/-- The first place from i on, among d, of which p holds. -/
def sfp (p : Nat → Bool) (i : Nat) : Nat → Int
 | 0 => -1
 | d + 1 => if p i = true then (i : Int) else sfp p (i + 1) d
theorem sfp_ge (p : Nat → Bool) : ∀ (d i : Nat), decide (0 ≤ sfp p i d) = (List.range' i d).any p
 | 0, i => by simp [sfp]
 | d + 1, i => by
  rw [sfp, List.range'_succ, List.any_cons, ← sfp_ge p d (i + 1)]
  cases h : p i with
  | true => simp
  | false => simp
def hasv (l : List Int) (v : Int) : Bool := l.contains v
theorem any_rd (l : List Int) (v : Int) : (List.range' 0 l.length).any (fun k => rd l k == v) = hasv l v := by
 have h : (List.range' 0 l.length).map (fun (k : Nat) => rd l (k : Int)) = l := by
  apply List.ext_getElem
  ·simp
  ·intro i h1 h2
   simp [rd, h2]
 have h2 : (List.range' 0 l.length).any (fun k => rd l k == v) = ((List.range' 0 l.length).map (fun (k : Nat) => rd l (k : Int))).any (· == v) := by
  rw [List.any_map]
  rfl
 rw [h2, h, hasv, List.contains_eq_any_beq]
 congr 1
 funext x
 exact Bool.eq_iff_iff.mpr ⟨fun h => by rw [beq_iff_eq] at h ⊢; exact h.symm, fun h => by rw [beq_iff_eq] at h ⊢; exact h.symm⟩
theorem ret_i2 {a b : Int} (h : a = b) : Ending.returned (.int .i64 a) = .returned (.int .i64 b) := by rw [h]
theorem index_any2 (A0 : Option Addr) (c0 : Nat) (l0 : List Int) (v : Int) (w : World) (hr0 : Kd.C (Kd.int .i64) w A0 l0.length l0) (hn : l0.length ≤ maxLen) :
  Calls Try.prog 38 #[.slice A0 l0.length c0, .int .i64 v] w fun e w' => e = .returned (.int .i64 (sfp (fun k => rd l0 k == v) 0 l0.length)) ∧ w' = w := by
 have HR := Aside0.mk hr0
 clear hr0
 obtain ⟨n, hN⟩ : ∃ n, n = l0.length := ⟨_, rfl⟩
 rw [← hN]
 rw [← hN] at hn
 have HN := Aside0.mk hN
 clear hN
 have hn : n ≤ 9223372036854775807 := hn
 go_enter Try.func38, Try.ntmps38
 go_wp2
 go_loop [8] (fun u => ∃ k : Nat, k ≤ n ∧ u = .int .i64 k ∧ Aside0 (sfp (fun k => rd l0 k == v) 0 n = sfp (fun k => rd l0 k == v) k (n - k))) (fun u => n - (intOf u).toNat)
 case atStart => exact ⟨0, Nat.zero_le _, rfl, ⟨rfl⟩⟩
 case round =>
  obtain ⟨k, hk, rfl, hs⟩ := hrel
  by_cases hlt : k < n
  ·obtain ⟨ad, e, hc⟩ := Kd.at_int HR.out (k : Int) (by omega) (by rw [← HN.out]; omega)
   subst e
   have hc' : w.cell? (ad.add k) = some (.int .i64 (rd l0 k)) := hc
   clear hc
   have hs2 : sfp (fun k => rd l0 k == v) 0 n = if (rd l0 k == v) = true then (k : Int) else sfp (fun k => rd l0 k == v) (k + 1) (n - (k + 1)) := by
    rw [hs.out, show n - k = (n - (k + 1)) + 1 from by omega, sfp]
   have HS := Aside0.mk hs2
   clear hs hs2
   obtain ⟨z, hz⟩ : ∃ z, rd l0 k = z := ⟨_, rfl⟩
   rw [hz] at hc' HS
   clear hz
   by_cases hb : v = z
   ·subst hb
    go_wp2
    go_ret
    exact ⟨ret_i2 (by rw [HS.out, if_pos (by simp)]), rfl⟩
   ·have hb1 : (v == z) = false := beq_eq_false_iff_ne.mpr hb
    have HZ := Aside0.mk (show (z == v) = false from beq_eq_false_iff_ne.mpr (fun h => hb h.symm))
    clear hb
    go_wp2
    go_round
    case rel => exact ⟨k + 1, by omega, by go_num, ⟨by rw [HS.out, if_neg (by rw [HZ.out]; simp)]⟩⟩
    case measure => simp [intOf]; omega
  ·have : k = n := by omega
   subst this
   have HS := hs
   clear hs
   go_wp2
   go_ret
   exact ⟨ret_i2 (by rw [HS.out, Nat.sub_self, sfp]), rfl⟩
theorem ret_b2 {a b : Bool} (h : a = b) : Ending.returned (.bool a) = .returned (.bool b) := by rw [h]
theorem contains_any2 (A0 : Option Addr) (c0 : Nat) (l0 : List Int) (v : Int) (w : World) (hr0 : Kd.C (Kd.int .i64) w A0 l0.length l0) :
  Calls Try.prog 23 #[.slice A0 l0.length c0, .int .i64 v] w fun e w' => e = .returned (.bool (hasv l0 v)) ∧ w' = w := by
 have HI := Aside0.mk (index_any2 A0 c0 l0 v w hr0 hr0.2.1)
 clear hr0
 go_enter Try.func23, Try.ntmps23
 go_wp2_with (go_at_call 38; (with_reducible refine HI.out.mono ?_); rintro e w' ⟨rfl, rfl⟩)
 go_ret
 exact ⟨ret_b2 ((sfp_ge _ _ _).trans (any_rd l0 v)), rfl⟩
theorem has_any2 (A0 : Option Addr) (c0 : Nat) (l0 : List Int) (v : Int) (b : Nat) (w : World) (hr0 : Kd.C (Kd.int .i64) w A0 l0.length l0) (hb : w.heap[b]? = some (.cells #[.int .i64 v] 3 (0, 0))) :
  Calls Try.prog 22 #[.slice A0 l0.length c0, .pointer (some ⟨b, 0, none⟩)] w fun e w' => e = .returned (.bool (hasv l0 v)) ∧ w' = w := by
 have HI := Aside0.mk (contains_any2 A0 c0 l0 v w hr0)
 have hc : w.cell? ⟨b, 0, none⟩ = some (.int .i64 v) := (blk_cell hb 0).trans rfl
 clear hr0 hb
 go_enter Try.func22, Try.ntmps22
 go_wp2_with (go_at_call 23; (with_reducible refine HI.out.mono ?_); rintro e w' ⟨rfl, rfl⟩)
 go_ret
 exact ⟨rfl, rfl⟩
theorem rows_any2 (A0 : Option Addr) (c0 : Nat) (l0 : List (List Int)) (v : Int) (b : Nat) (w : World) (hr0 : Kd.C (Kd.slice 3 (Kd.int .i64)) w A0 l0.length l0) (hb : w.heap[b]? = some (.cells #[.int .i64 v] 3 (0, 0))) :
  Calls Try.prog 37 #[.slice A0 l0.length c0, .func (.func 22) #[] #[.pointer (some ⟨b, 0, none⟩)]] w fun e w' => e = .returned (.int .i64 (sfp (fun k => hasv (rd_L1 l0 k) v) 0 l0.length)) ∧ w' = w := by
 have hn : l0.length ≤ 9223372036854775807 := hr0.2.1
 have HR := Aside0.mk hr0
 have HBX := Aside0.mk hb
 clear hr0 hb
 obtain ⟨n, hN⟩ : ∃ n, n = l0.length := ⟨_, rfl⟩
 rw [← hN]
 rw [← hN] at hn
 have HN := Aside0.mk hN
 clear hN
 go_enter Try.func37, Try.ntmps37
 go_wp2
 go_loop [8] (fun u => ∃ k : Nat, k ≤ n ∧ u = .int .i64 k ∧ Aside0 (sfp (fun k => hasv (rd_L1 l0 k) v) 0 n = sfp (fun k => hasv (rd_L1 l0 k) v) k (n - k))) (fun u => n - (intOf u).toNat)
 case atStart => exact ⟨0, Nat.zero_le _, rfl, ⟨rfl⟩⟩
 case round =>
  obtain ⟨k, hk, rfl, hs⟩ := hrel
  by_cases hlt : k < n
  ·obtain ⟨ad, A1, c1, e, hc, hl, hi⟩ := at_L1 HR.out (k : Int) (by omega) (by rw [← HN.out]; omega)
   subst e
   have hc' : w.cell? (ad.add k) = some (.slice A1 (rd_L1 l0 (k : Int)).length c1) := hc
   clear hc
   have HI := Aside0.mk hi
   clear hi
   have hs2 : sfp (fun k => hasv (rd_L1 l0 k) v) 0 n = if (hasv (rd_L1 l0 (k : Int)) v) = true then (k : Int) else sfp (fun k => hasv (rd_L1 l0 k) v) (k + 1) (n - (k + 1)) := by
    rw [hs.out, show n - k = (n - (k + 1)) + 1 from by omega, sfp]
   have HS := Aside0.mk hs2
   clear hs hs2
   obtain ⟨z, hz⟩ : ∃ z, rd_L1 l0 (k : Int) = z := ⟨_, rfl⟩
   rw [hz] at hc' HS HI hl
   clear hz
   obtain ⟨q, hq⟩ : ∃ q, hasv z v = q := ⟨_, rfl⟩
   have HQ := Aside0.mk hq
   clear hq
   cases q with
   | true =>
    go_wp2_with (go_at_call 22; (with_reducible refine (has_any2 _ _ _ v b _ HI.out HBX.out).mono ?_); rintro e w' ⟨rfl, rfl⟩; simp only [HQ.out])
    go_ret
    exact ⟨ret_i2 (by rw [HS.out, if_pos HQ.out]), rfl⟩
   | false =>
    go_wp2_with (go_at_call 22; (with_reducible refine (has_any2 _ _ _ v b _ HI.out HBX.out).mono ?_); rintro e w' ⟨rfl, rfl⟩; simp only [HQ.out])
    go_round
    case rel => exact ⟨k + 1, by omega, by go_num, ⟨by rw [HS.out, if_neg (by rw [HQ.out]; simp)]⟩⟩
    case measure => simp [intOf]; omega
  ·have : k = n := by omega
   subst this
   have HS := hs
   clear hs
   go_wp2
   go_ret
   exact ⟨ret_i2 (by rw [HS.out, Nat.sub_self, sfp]), rfl⟩
theorem any_rdL (l : List (List Int)) (v : Int) : (List.range' 0 l.length).any (fun k => hasv (rd_L1 l k) v) = l.any (fun x => hasv x v) := by
 have h : (List.range' 0 l.length).map (fun (k : Nat) => rd_L1 l (k : Int)) = l := by
  apply List.ext_getElem
  ·simp
  ·intro i h1 h2
   simp [rd_L1, h2]
 have h2 : (List.range' 0 l.length).any (fun k => hasv (rd_L1 l k) v) = ((List.range' 0 l.length).map (fun (k : Nat) => rd_L1 l (k : Int))).any (fun x => hasv x v) := by
  rw [List.any_map]
  rfl
 rw [h2, h]
theorem slots_any2 (A0 : Option Addr) (c0 : Nat) (l0 : List (List Int)) (v : Int) (b : Nat) (w : World) (hr0 : Kd.C (Kd.slice 3 (Kd.int .i64)) w A0 l0.length l0) (hb : w.heap[b]? = some (.cells #[.int .i64 v] 3 (0, 0))) :
  Calls Try.prog 21 #[.slice A0 l0.length c0, .func (.func 22) #[] #[.pointer (some ⟨b, 0, none⟩)]] w fun e w' => e = .returned (.bool (l0.any fun x => hasv x v)) ∧ w' = w := by
 have HI := Aside0.mk (rows_any2 A0 c0 l0 v b w hr0 hb)
 clear hr0 hb
 go_enter Try.func21, Try.ntmps21
 go_wp2_with (go_at_call 37; (with_reducible refine HI.out.mono ?_); rintro e w' ⟨rfl, rfl⟩)
 go_ret
 exact ⟨ret_b2 ((sfp_ge _ _ _).trans (any_rdL l0 v)), rfl⟩
end Go.Proofs.Ytmdcjmackhjchaa.P
end

section
-- Printed by wip/myprint.py of this repo (over the kit's printer). Not trusted: Lean checks it.
namespace Go.Proofs.Ytmdcjmackhjchaa.P
open Go.RowKit Go.Proofs.YtmdcjmackhjchaaW.PrintWords Go.Proofs.YtmdcjmackhjchaaW.PrintLast Go.Proofs.YtmdcjmackhjchaaW.PrintMore
attribute [local go_sem] cell_same1 cell_some1 ix27_0 ix27_1 ix27_2
attribute [local go_sem] max2_int min2_int max_two min_two max_three min_three max_four min_four   -- for this text's walks alone
set_option linter.unusedVariables false
set_option linter.unusedSimpArgs false

/-! ### bound_domains: function 20 -/
def bound_domains.f (a0 : Int) : Option (Int) := if a0 < 1 then (some 2) else (if a0 > 3 then (some 2) else (some 0))
set_option maxHeartbeats 8000000 in
set_option maxRecDepth 100000 in
theorem bound_domains.calls (a0 : Int) (r : Int) (w : World) (h : bound_domains.f a0 = some r) :
  Calls Try.prog 20 #[.int .i64 a0] w fun e w' => e = .returned (.int .i64 r) ∧ Drawn0 w w' := by
 have H : (if a0 < 1 then (some 2) else (if a0 > 3 then (some 2) else (some 0))) = some r := h
 clear h
 by_cases c2 : a0 < 1
 ·as_aux_lemma =>
  rw [if_pos c2] at H
  have c2b0 : decide (a0 < 1) = true := decide_eq_true c2
  clear c2
  obtain rfl := Option.some.inj H
  go_enter Try.func20, Try.ntmps20
  go_wp2
  go_ret
  exact ⟨by first | rfl | (simp; done) | (simp [*]; done), by repeat (first | exact Drawn0.refl _ | apply Drawn0.step)⟩
 ·as_aux_lemma =>
  rw [if_neg c2] at H
  have c2b0 : decide (a0 < 1) = false := decide_eq_false c2
  clear c2
  by_cases c3 : a0 > 3
  ·as_aux_lemma =>
   rw [if_pos c3] at H
   have c3b0 : decide (3 < a0) = true := decide_eq_true c3
   clear c3
   obtain rfl := Option.some.inj H
   go_enter Try.func20, Try.ntmps20
   go_wp2
   go_ret
   exact ⟨by first | rfl | (simp; done) | (simp [*]; done), by repeat (first | exact Drawn0.refl _ | apply Drawn0.step)⟩
  ·as_aux_lemma =>
   rw [if_neg c3] at H
   have c3b0 : decide (3 < a0) = false := decide_eq_false c3
   clear c3
   obtain rfl := Option.some.inj H
   go_enter Try.func20, Try.ntmps20
   go_wp2
   go_ret
   exact ⟨by first | rfl | (simp; done) | (simp [*]; done), by repeat (first | exact Drawn0.refl _ | apply Drawn0.step)⟩

end Go.Proofs.Ytmdcjmackhjchaa.P
end
