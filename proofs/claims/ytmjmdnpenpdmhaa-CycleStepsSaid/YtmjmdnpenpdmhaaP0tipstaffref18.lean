-- Printed by wip/myprint.py of this repo (over the kit's printer). Not trusted: Lean checks it.
import Derived.Test.YtmjmdnpenpdmhaaP0
namespace Go.Proofs.Ytmjmdnpenpdmhaa.P
open Go.RowKit Go.Proofs.YtmjmdnpenpdmhaaW.PrintWords Go.Proofs.YtmjmdnpenpdmhaaW.PrintLast Go.Proofs.YtmjmdnpenpdmhaaW.PrintMore
attribute [local go_sem] cell_same1 cell_some1
attribute [local go_sem] max2_int min2_int max_two min_two max_three min_three max_four min_four   -- for this text's walks alone
set_option linter.unusedVariables false
set_option linter.unusedSimpArgs false

/-! ### r18_Rule: function 40 -/
def r18_Rule.f (a0_0 : Int) (a0_1 : Int) (a0_2 : Int) : Option (Int) := if a0_0 < 1 then (some 2) else (if a0_0 > 20 then (some 2) else (if a0_1 < 1 then (some 2) else (if a0_1 > 50 then (some 2) else (if a0_2 < 0 then (some 2) else (if a0_2 > 5 then (some 2) else (some 0))))))
set_option maxHeartbeats 8000000 in
set_option maxRecDepth 100000 in
theorem r18_Rule.calls (a0_0 : Int) (a0_1 : Int) (a0_2 : Int) (r : Int) (w : World) (h : r18_Rule.f a0_0 a0_1 a0_2 = some r) :
  Calls Try.prog 40 #[.agg #[.int .i64 a0_0, .int .i64 a0_1, .int .i64 a0_2]] w fun e w' => e = .returned (.int .i64 r) ∧ Below w.heap.size w w' := by
 have hu23 := Try.underlying23
 have HB := Aside0.mk (Below.refl w.heap.size w)
 have H : (if a0_0 < 1 then (some 2) else (if a0_0 > 20 then (some 2) else (if a0_1 < 1 then (some 2) else (if a0_1 > 50 then (some 2) else (if a0_2 < 0 then (some 2) else (if a0_2 > 5 then (some 2) else (some 0))))))) = some r := h
 clear h
 by_cases c2 : a0_0 < 1
 ·rw [if_pos c2] at H
  have c2b0 : decide (a0_0 < 1) = true := decide_eq_true c2
  clear c2
  obtain rfl := Option.some.inj H
  go_enter Try.func40, Try.ntmps40
  go_wp2_with (first | ((with_reducible refine gate_dst (N := 1) rfl ?_); refine bxe (cs := #[.int .i64 a0_0, .int .i64 a0_1, .int .i64 a0_2]) (t := 23) ?_; intro gb243 hg w3 hbox hb; have BK243 := Aside0.mk (hbox); have GW243 := Aside0.mk (bge hg HB.out); have GE243 := Aside0.mk (bge hg HB.out); replace HB := Aside0.mk (bst HB.out hb); clear hb hbox hg; have hcz4_0 := cz3 BK243.out; have hfz4_0 := blk_frozen BK243.out))
  go_ret
  exact bfin (bel HB.out)
 ·rw [if_neg c2] at H
  have c2b0 : decide (a0_0 < 1) = false := decide_eq_false c2
  clear c2
  by_cases c5 : a0_0 > 20
  ·rw [if_pos c5] at H
   have c5b0 : decide (20 < a0_0) = true := decide_eq_true c5
   clear c5
   obtain rfl := Option.some.inj H
   go_enter Try.func40, Try.ntmps40
   go_wp2_with (first | ((with_reducible refine gate_dst (N := 1) rfl ?_); refine bxe (cs := #[.int .i64 a0_0, .int .i64 a0_1, .int .i64 a0_2]) (t := 23) ?_; intro gb243 hg w6 hbox hb; have BK243 := Aside0.mk (hbox); have GW243 := Aside0.mk (bge hg HB.out); have GE243 := Aside0.mk (bge hg HB.out); replace HB := Aside0.mk (bst HB.out hb); clear hb hbox hg; have hcz7_0 := cz3 BK243.out; have hfz7_0 := blk_frozen BK243.out))
   go_ret
   exact bfin (bel HB.out)
  ·rw [if_neg c5] at H
   have c5b0 : decide (20 < a0_0) = false := decide_eq_false c5
   clear c5
   by_cases c8 : a0_1 < 1
   ·rw [if_pos c8] at H
    have c8b0 : decide (a0_1 < 1) = true := decide_eq_true c8
    clear c8
    obtain rfl := Option.some.inj H
    go_enter Try.func40, Try.ntmps40
    go_wp2_with (first | ((with_reducible refine gate_dst (N := 1) rfl ?_); refine bxe (cs := #[.int .i64 a0_0, .int .i64 a0_1, .int .i64 a0_2]) (t := 23) ?_; intro gb243 hg w9 hbox hb; have BK243 := Aside0.mk (hbox); have GW243 := Aside0.mk (bge hg HB.out); have GE243 := Aside0.mk (bge hg HB.out); replace HB := Aside0.mk (bst HB.out hb); clear hb hbox hg; have hcz10_0 := cz3 BK243.out; have hfz10_0 := blk_frozen BK243.out))
    go_ret
    exact bfin (bel HB.out)
   ·rw [if_neg c8] at H
    have c8b0 : decide (a0_1 < 1) = false := decide_eq_false c8
    clear c8
    by_cases c11 : a0_1 > 50
    ·rw [if_pos c11] at H
     have c11b0 : decide (50 < a0_1) = true := decide_eq_true c11
     clear c11
     obtain rfl := Option.some.inj H
     go_enter Try.func40, Try.ntmps40
     go_wp2_with (first | ((with_reducible refine gate_dst (N := 1) rfl ?_); refine bxe (cs := #[.int .i64 a0_0, .int .i64 a0_1, .int .i64 a0_2]) (t := 23) ?_; intro gb243 hg w12 hbox hb; have BK243 := Aside0.mk (hbox); have GW243 := Aside0.mk (bge hg HB.out); have GE243 := Aside0.mk (bge hg HB.out); replace HB := Aside0.mk (bst HB.out hb); clear hb hbox hg; have hcz13_0 := cz3 BK243.out; have hfz13_0 := blk_frozen BK243.out))
     go_ret
     exact bfin (bel HB.out)
    ·rw [if_neg c11] at H
     have c11b0 : decide (50 < a0_1) = false := decide_eq_false c11
     clear c11
     by_cases c14 : a0_2 < 0
     ·rw [if_pos c14] at H
      have c14b0 : decide (a0_2 < 0) = true := decide_eq_true c14
      clear c14
      obtain rfl := Option.some.inj H
      go_enter Try.func40, Try.ntmps40
      go_wp2_with (first | ((with_reducible refine gate_dst (N := 1) rfl ?_); refine bxe (cs := #[.int .i64 a0_0, .int .i64 a0_1, .int .i64 a0_2]) (t := 23) ?_; intro gb243 hg w15 hbox hb; have BK243 := Aside0.mk (hbox); have GW243 := Aside0.mk (bge hg HB.out); have GE243 := Aside0.mk (bge hg HB.out); replace HB := Aside0.mk (bst HB.out hb); clear hb hbox hg; have hcz16_0 := cz3 BK243.out; have hfz16_0 := blk_frozen BK243.out))
      go_ret
      exact bfin (bel HB.out)
     ·rw [if_neg c14] at H
      have c14b0 : decide (a0_2 < 0) = false := decide_eq_false c14
      clear c14
      by_cases c17 : a0_2 > 5
      ·rw [if_pos c17] at H
       have c17b0 : decide (5 < a0_2) = true := decide_eq_true c17
       clear c17
       obtain rfl := Option.some.inj H
       go_enter Try.func40, Try.ntmps40
       go_wp2_with (first | ((with_reducible refine gate_dst (N := 1) rfl ?_); refine bxe (cs := #[.int .i64 a0_0, .int .i64 a0_1, .int .i64 a0_2]) (t := 23) ?_; intro gb243 hg w18 hbox hb; have BK243 := Aside0.mk (hbox); have GW243 := Aside0.mk (bge hg HB.out); have GE243 := Aside0.mk (bge hg HB.out); replace HB := Aside0.mk (bst HB.out hb); clear hb hbox hg; have hcz19_0 := cz3 BK243.out; have hfz19_0 := blk_frozen BK243.out))
       go_ret
       exact bfin (bel HB.out)
      ·rw [if_neg c17] at H
       have c17b0 : decide (5 < a0_2) = false := decide_eq_false c17
       clear c17
       obtain rfl := Option.some.inj H
       go_enter Try.func40, Try.ntmps40
       go_wp2_with (first | ((with_reducible refine gate_dst (N := 1) rfl ?_); refine bxe (cs := #[.int .i64 a0_0, .int .i64 a0_1, .int .i64 a0_2]) (t := 23) ?_; intro gb243 hg w20 hbox hb; have BK243 := Aside0.mk (hbox); have GW243 := Aside0.mk (bge hg HB.out); have GE243 := Aside0.mk (bge hg HB.out); replace HB := Aside0.mk (bst HB.out hb); clear hb hbox hg; have hcz21_0 := cz3 BK243.out; have hfz21_0 := blk_frozen BK243.out))
       go_ret
       exact bfin (bel HB.out)

/-! ### r18_fits: function 55 -/
def r18_fits.f (a0_0 : Int) (a0_1 : Int) (a0_2 : Int) (a0_3 : Int) (a1_0 : Int) (a1_1 : Int) (a1_2 : Int) : Option (Bool) := if ((decide (a0_2 > 0)) != (a0_0 == 2)) = true then (some false) else (if a0_0 = 0 then (if a0_1 = 0 then (some (a0_3 == 0)) else (some false)) else (if a0_0 = 1 then (some (decide (a0_1 < a1_0))) else (if a0_0 = 2 then (some (a0_1 == a1_0)) else (if a0_0 = 4 then (if a0_1 > 0 then (some (a0_3 == a1_2)) else (some false)) else (some (decide (a0_1 > 0)))))))
set_option maxHeartbeats 8000000 in
set_option maxRecDepth 100000 in
theorem r18_fits.calls (a0_0 : Int) (a0_1 : Int) (a0_2 : Int) (a0_3 : Int) (a1_0 : Int) (a1_1 : Int) (a1_2 : Int) (r : Bool) (w : World) (h : r18_fits.f a0_0 a0_1 a0_2 a0_3 a1_0 a1_1 a1_2 = some r) :
  Calls Try.prog 55 #[.agg #[.int .i64 a0_0, .int .i64 a0_1, .int .i64 a0_2, .int .i64 a0_3], .agg #[.int .i64 a1_0, .int .i64 a1_1, .int .i64 a1_2]] w fun e w' => e = .returned (.bool r) ∧ Below w.heap.size w w' := by
 have hu37 := Try.underlying37
 have hu23 := Try.underlying23
 have HB := Aside0.mk (Below.refl w.heap.size w)
 have H : (if ((decide (a0_2 > 0)) != (a0_0 == 2)) = true then (some false) else (if a0_0 = 0 then (if a0_1 = 0 then (some (a0_3 == 0)) else (some false)) else (if a0_0 = 1 then (some (decide (a0_1 < a1_0))) else (if a0_0 = 2 then (some (a0_1 == a1_0)) else (if a0_0 = 4 then (if a0_1 > 0 then (some (a0_3 == a1_2)) else (some false)) else (some (decide (a0_1 > 0)))))))) = some r := h
 clear h
 by_cases c3 : ((decide (a0_2 > 0)) != (a0_0 == 2)) = true
 ·rw [if_pos c3] at H
  have c3b0 : ((decide (a0_2 > 0)) != (a0_0 == 2)) = true := c3
  (try (have c3b1 : decide ((decide (a0_2 > 0)) = (a0_0 == 2)) = false := by simpa using c3))
  (try (have c3b2 : ((decide (a0_2 > 0)) == (a0_0 == 2)) = false := by simpa using c3))
  (try (have c3b3 : ¬ ((decide (a0_2 > 0)) = (a0_0 == 2)) := by simpa using c3))
  clear c3
  obtain rfl := Option.some.inj H
  go_enter Try.func55, Try.ntmps55
  go_wp2_with (first | ((with_reducible refine gate_dst (N := 2) rfl ?_); refine bxe (cs := #[.int .i64 a0_0, .int .i64 a0_1, .int .i64 a0_2, .int .i64 a0_3]) (t := 37) ?_; intro gb244 hg w4 hbox hb; have BK244 := Aside0.mk (hbox); have GW244 := Aside0.mk (bge hg HB.out); have GE244 := Aside0.mk (bge hg HB.out); replace HB := Aside0.mk (bst HB.out hb); clear hb hbox hg) | ((with_reducible refine gate_dst (N := 3) rfl ?_); refine bxe (cs := #[.int .i64 a1_0, .int .i64 a1_1, .int .i64 a1_2]) (t := 23) ?_; intro gb245 hg w5 hbox hb; have BK245 := Aside0.mk (hbox); have GW245 := Aside0.mk (bge hg HB.out); have GE245 := Aside0.mk (bge hg HB.out); have NB244_245 := Aside0.mk ((bkl hg BK244.out)); have NB245_244 := Aside0.mk ((bkg hg BK244.out)); replace BK244 := Aside0.mk (bkb BK244.out hb); replace HB := Aside0.mk (bst HB.out hb); clear hb hbox hg; have hnb6 := NB244_245.out; have hnc6 := NB245_244.out; have hcz7_0 := cz4 BK244.out; have hfz7_0 := blk_frozen BK244.out))
  go_ret
  exact bfin (bel HB.out)
 ·rw [if_neg c3] at H
  have c3b0 : ((decide (a0_2 > 0)) != (a0_0 == 2)) = false := by simpa using c3
  (try (have c3b1 : decide ((decide (a0_2 > 0)) = (a0_0 == 2)) = true := by simpa using c3))
  (try (have c3b2 : ((decide (a0_2 > 0)) == (a0_0 == 2)) = true := by simpa using c3))
  clear c3
  by_cases c8 : a0_0 = 0
  ·rw [if_pos c8] at H
   have c8b0 : (a0_0 == 0) = true := beq_iff_eq.mpr c8
   have c8b1 : (a0_0 != 0) = false := bne_eq_false_iff_eq.mpr c8
   clear c8
   by_cases c9 : a0_1 = 0
   ·rw [if_pos c9] at H
    have c9b0 : (a0_1 == 0) = true := beq_iff_eq.mpr c9
    have c9b1 : (a0_1 != 0) = false := bne_eq_false_iff_eq.mpr c9
    clear c9
    obtain rfl := Option.some.inj H
    go_enter Try.func55, Try.ntmps55
    go_wp2_with (first | ((with_reducible refine gate_dst (N := 2) rfl ?_); refine bxe (cs := #[.int .i64 a0_0, .int .i64 a0_1, .int .i64 a0_2, .int .i64 a0_3]) (t := 37) ?_; intro gb244 hg w10 hbox hb; have BK244 := Aside0.mk (hbox); have GW244 := Aside0.mk (bge hg HB.out); have GE244 := Aside0.mk (bge hg HB.out); replace HB := Aside0.mk (bst HB.out hb); clear hb hbox hg) | ((with_reducible refine gate_dst (N := 3) rfl ?_); refine bxe (cs := #[.int .i64 a1_0, .int .i64 a1_1, .int .i64 a1_2]) (t := 23) ?_; intro gb245 hg w11 hbox hb; have BK245 := Aside0.mk (hbox); have GW245 := Aside0.mk (bge hg HB.out); have GE245 := Aside0.mk (bge hg HB.out); have NB244_245 := Aside0.mk ((bkl hg BK244.out)); have NB245_244 := Aside0.mk ((bkg hg BK244.out)); replace BK244 := Aside0.mk (bkb BK244.out hb); replace HB := Aside0.mk (bst HB.out hb); clear hb hbox hg; have hnb12 := NB244_245.out; have hnc12 := NB245_244.out; have hcz13_0 := cz4 BK244.out; have hfz13_0 := blk_frozen BK244.out))
    go_ret
    exact bfin (bel HB.out)
   ·rw [if_neg c9] at H
    have c9b0 : (a0_1 == 0) = false := beq_eq_false_iff_ne.mpr c9
    have c9b1 : (a0_1 != 0) = true := bne_iff_ne.mpr c9
    obtain rfl := Option.some.inj H
    go_enter Try.func55, Try.ntmps55
    go_wp2_with (first | ((with_reducible refine gate_dst (N := 2) rfl ?_); refine bxe (cs := #[.int .i64 a0_0, .int .i64 a0_1, .int .i64 a0_2, .int .i64 a0_3]) (t := 37) ?_; intro gb244 hg w14 hbox hb; have BK244 := Aside0.mk (hbox); have GW244 := Aside0.mk (bge hg HB.out); have GE244 := Aside0.mk (bge hg HB.out); replace HB := Aside0.mk (bst HB.out hb); clear hb hbox hg) | ((with_reducible refine gate_dst (N := 3) rfl ?_); refine bxe (cs := #[.int .i64 a1_0, .int .i64 a1_1, .int .i64 a1_2]) (t := 23) ?_; intro gb245 hg w15 hbox hb; have BK245 := Aside0.mk (hbox); have GW245 := Aside0.mk (bge hg HB.out); have GE245 := Aside0.mk (bge hg HB.out); have NB244_245 := Aside0.mk ((bkl hg BK244.out)); have NB245_244 := Aside0.mk ((bkg hg BK244.out)); replace BK244 := Aside0.mk (bkb BK244.out hb); replace HB := Aside0.mk (bst HB.out hb); clear hb hbox hg; have hnb16 := NB244_245.out; have hnc16 := NB245_244.out; have hcz17_0 := cz4 BK244.out; have hfz17_0 := blk_frozen BK244.out))
    go_ret
    exact bfin (bel HB.out)
  ·rw [if_neg c8] at H
   have c8b0 : (a0_0 == 0) = false := beq_eq_false_iff_ne.mpr c8
   have c8b1 : (a0_0 != 0) = true := bne_iff_ne.mpr c8
   by_cases c18 : a0_0 = 1
   ·rw [if_pos c18] at H
    have c18b0 : (a0_0 == 1) = true := beq_iff_eq.mpr c18
    have c18b1 : (a0_0 != 1) = false := bne_eq_false_iff_eq.mpr c18
    clear c18
    obtain rfl := Option.some.inj H
    go_enter Try.func55, Try.ntmps55
    go_wp2_with (first | ((with_reducible refine gate_dst (N := 2) rfl ?_); refine bxe (cs := #[.int .i64 a0_0, .int .i64 a0_1, .int .i64 a0_2, .int .i64 a0_3]) (t := 37) ?_; intro gb244 hg w19 hbox hb; have BK244 := Aside0.mk (hbox); have GW244 := Aside0.mk (bge hg HB.out); have GE244 := Aside0.mk (bge hg HB.out); replace HB := Aside0.mk (bst HB.out hb); clear hb hbox hg) | ((with_reducible refine gate_dst (N := 3) rfl ?_); refine bxe (cs := #[.int .i64 a1_0, .int .i64 a1_1, .int .i64 a1_2]) (t := 23) ?_; intro gb245 hg w20 hbox hb; have BK245 := Aside0.mk (hbox); have GW245 := Aside0.mk (bge hg HB.out); have GE245 := Aside0.mk (bge hg HB.out); have NB244_245 := Aside0.mk ((bkl hg BK244.out)); have NB245_244 := Aside0.mk ((bkg hg BK244.out)); replace BK244 := Aside0.mk (bkb BK244.out hb); replace HB := Aside0.mk (bst HB.out hb); clear hb hbox hg; have hnb21 := NB244_245.out; have hnc21 := NB245_244.out; have hcz22_0 := cz4 BK244.out; have hfz22_0 := blk_frozen BK244.out; have hcz23_0 := cz3 BK245.out; have hfz23_0 := blk_frozen BK245.out))
    go_ret
    exact bfin (bel HB.out)
   ·rw [if_neg c18] at H
    have c18b0 : (a0_0 == 1) = false := beq_eq_false_iff_ne.mpr c18
    have c18b1 : (a0_0 != 1) = true := bne_iff_ne.mpr c18
    by_cases c24 : a0_0 = 2
    ·rw [if_pos c24] at H
     have c24b0 : (a0_0 == 2) = true := beq_iff_eq.mpr c24
     try have cz24 : decide (0 < a0_2) = true := by simpa [c24b0] using c3b0
     try have cz24 : decide (0 < a0_2) = false := by simpa [c24b0] using c3b0
     try have cz24 : decide (0 < a0_2) = true := by simpa [c24b0] using c3b0
     try have cz24 : decide (0 < a0_2) = false := by simpa [c24b0] using c3b0
     have c24b1 : (a0_0 != 2) = false := bne_eq_false_iff_eq.mpr c24
     clear c24
     obtain rfl := Option.some.inj H
     go_enter Try.func55, Try.ntmps55
     go_wp2_with (first | ((with_reducible refine gate_dst (N := 2) rfl ?_); refine bxe (cs := #[.int .i64 a0_0, .int .i64 a0_1, .int .i64 a0_2, .int .i64 a0_3]) (t := 37) ?_; intro gb244 hg w25 hbox hb; have BK244 := Aside0.mk (hbox); have GW244 := Aside0.mk (bge hg HB.out); have GE244 := Aside0.mk (bge hg HB.out); replace HB := Aside0.mk (bst HB.out hb); clear hb hbox hg) | ((with_reducible refine gate_dst (N := 3) rfl ?_); refine bxe (cs := #[.int .i64 a1_0, .int .i64 a1_1, .int .i64 a1_2]) (t := 23) ?_; intro gb245 hg w26 hbox hb; have BK245 := Aside0.mk (hbox); have GW245 := Aside0.mk (bge hg HB.out); have GE245 := Aside0.mk (bge hg HB.out); have NB244_245 := Aside0.mk ((bkl hg BK244.out)); have NB245_244 := Aside0.mk ((bkg hg BK244.out)); replace BK244 := Aside0.mk (bkb BK244.out hb); replace HB := Aside0.mk (bst HB.out hb); clear hb hbox hg; have hnb27 := NB244_245.out; have hnc27 := NB245_244.out; have hcz28_0 := cz4 BK244.out; have hfz28_0 := blk_frozen BK244.out; have hcz29_0 := cz3 BK245.out; have hfz29_0 := blk_frozen BK245.out))
     go_ret
     exact bfin (bel HB.out)
    ·rw [if_neg c24] at H
     have c24b0 : (a0_0 == 2) = false := beq_eq_false_iff_ne.mpr c24
     try have cz24 : decide (0 < a0_2) = true := by simpa [c24b0] using c3b0
     try have cz24 : decide (0 < a0_2) = false := by simpa [c24b0] using c3b0
     try have cz24 : decide (0 < a0_2) = true := by simpa [c24b0] using c3b0
     try have cz24 : decide (0 < a0_2) = false := by simpa [c24b0] using c3b0
     have c24b1 : (a0_0 != 2) = true := bne_iff_ne.mpr c24
     by_cases c30 : a0_0 = 4
     ·rw [if_pos c30] at H
      have c30b0 : (a0_0 == 4) = true := beq_iff_eq.mpr c30
      have c30b1 : (a0_0 != 4) = false := bne_eq_false_iff_eq.mpr c30
      clear c30
      by_cases c31 : a0_1 > 0
      ·rw [if_pos c31] at H
       have c31b0 : decide (0 < a0_1) = true := decide_eq_true c31
       clear c31
       obtain rfl := Option.some.inj H
       go_enter Try.func55, Try.ntmps55
       go_wp2_with (first | ((with_reducible refine gate_dst (N := 2) rfl ?_); refine bxe (cs := #[.int .i64 a0_0, .int .i64 a0_1, .int .i64 a0_2, .int .i64 a0_3]) (t := 37) ?_; intro gb244 hg w32 hbox hb; have BK244 := Aside0.mk (hbox); have GW244 := Aside0.mk (bge hg HB.out); have GE244 := Aside0.mk (bge hg HB.out); replace HB := Aside0.mk (bst HB.out hb); clear hb hbox hg) | ((with_reducible refine gate_dst (N := 3) rfl ?_); refine bxe (cs := #[.int .i64 a1_0, .int .i64 a1_1, .int .i64 a1_2]) (t := 23) ?_; intro gb245 hg w33 hbox hb; have BK245 := Aside0.mk (hbox); have GW245 := Aside0.mk (bge hg HB.out); have GE245 := Aside0.mk (bge hg HB.out); have NB244_245 := Aside0.mk ((bkl hg BK244.out)); have NB245_244 := Aside0.mk ((bkg hg BK244.out)); replace BK244 := Aside0.mk (bkb BK244.out hb); replace HB := Aside0.mk (bst HB.out hb); clear hb hbox hg; have hnb34 := NB244_245.out; have hnc34 := NB245_244.out; have hcz35_0 := cz4 BK244.out; have hfz35_0 := blk_frozen BK244.out; have hcz36_0 := cz3 BK245.out; have hfz36_0 := blk_frozen BK245.out))
       go_ret
       exact bfin (bel HB.out)
      ·rw [if_neg c31] at H
       have c31b0 : decide (0 < a0_1) = false := decide_eq_false c31
       clear c31
       obtain rfl := Option.some.inj H
       go_enter Try.func55, Try.ntmps55
       go_wp2_with (first | ((with_reducible refine gate_dst (N := 2) rfl ?_); refine bxe (cs := #[.int .i64 a0_0, .int .i64 a0_1, .int .i64 a0_2, .int .i64 a0_3]) (t := 37) ?_; intro gb244 hg w37 hbox hb; have BK244 := Aside0.mk (hbox); have GW244 := Aside0.mk (bge hg HB.out); have GE244 := Aside0.mk (bge hg HB.out); replace HB := Aside0.mk (bst HB.out hb); clear hb hbox hg) | ((with_reducible refine gate_dst (N := 3) rfl ?_); refine bxe (cs := #[.int .i64 a1_0, .int .i64 a1_1, .int .i64 a1_2]) (t := 23) ?_; intro gb245 hg w38 hbox hb; have BK245 := Aside0.mk (hbox); have GW245 := Aside0.mk (bge hg HB.out); have GE245 := Aside0.mk (bge hg HB.out); have NB244_245 := Aside0.mk ((bkl hg BK244.out)); have NB245_244 := Aside0.mk ((bkg hg BK244.out)); replace BK244 := Aside0.mk (bkb BK244.out hb); replace HB := Aside0.mk (bst HB.out hb); clear hb hbox hg; have hnb39 := NB244_245.out; have hnc39 := NB245_244.out; have hcz40_0 := cz4 BK244.out; have hfz40_0 := blk_frozen BK244.out))
       go_ret
       exact bfin (bel HB.out)
     ·rw [if_neg c30] at H
      have c30b0 : (a0_0 == 4) = false := beq_eq_false_iff_ne.mpr c30
      have c30b1 : (a0_0 != 4) = true := bne_iff_ne.mpr c30
      obtain rfl := Option.some.inj H
      go_enter Try.func55, Try.ntmps55
      go_wp2_with (first | ((with_reducible refine gate_dst (N := 2) rfl ?_); refine bxe (cs := #[.int .i64 a0_0, .int .i64 a0_1, .int .i64 a0_2, .int .i64 a0_3]) (t := 37) ?_; intro gb244 hg w41 hbox hb; have BK244 := Aside0.mk (hbox); have GW244 := Aside0.mk (bge hg HB.out); have GE244 := Aside0.mk (bge hg HB.out); replace HB := Aside0.mk (bst HB.out hb); clear hb hbox hg) | ((with_reducible refine gate_dst (N := 3) rfl ?_); refine bxe (cs := #[.int .i64 a1_0, .int .i64 a1_1, .int .i64 a1_2]) (t := 23) ?_; intro gb245 hg w42 hbox hb; have BK245 := Aside0.mk (hbox); have GW245 := Aside0.mk (bge hg HB.out); have GE245 := Aside0.mk (bge hg HB.out); have NB244_245 := Aside0.mk ((bkl hg BK244.out)); have NB245_244 := Aside0.mk ((bkg hg BK244.out)); replace BK244 := Aside0.mk (bkb BK244.out hb); replace HB := Aside0.mk (bst HB.out hb); clear hb hbox hg; have hnb43 := NB244_245.out; have hnc43 := NB245_244.out; have hcz44_0 := cz4 BK244.out; have hfz44_0 := blk_frozen BK244.out))
      go_ret
      exact bfin (bel HB.out)

/-! ### r18_Check: function 43 -/
mutual
def r18_Check.j0 : Nat → Bool → Int → Int → Int → Int → Int → Int → Int → Option (Int)
 | 0, _, _, _, _, _, _, _, _ => none
 | k + 1, x12, x247000, x247001, x247002, x247003, x248000, x248001, x248002 => if x12 = true then (some 11) else (if x247001 < 0 then (r18_Check.j1 k true x247000 x247001 x247002 x247003 x248000 x248001 x248002) else (if x247001 > x248000 then (r18_Check.j1 k true x247000 x247001 x247002 x247003 x248000 x248001 x248002) else (if x247002 < 0 then (r18_Check.j1 k true x247000 x247001 x247002 x247003 x248000 x248001 x248002) else (if x247002 > x248001 then (r18_Check.j1 k true x247000 x247001 x247002 x247003 x248000 x248001 x248002) else (if x247003 < 0 then (r18_Check.j1 k true x247000 x247001 x247002 x247003 x248000 x248001 x248002) else (r18_Check.j1 k (decide (x247003 > x248002)) x247000 x247001 x247002 x247003 x248000 x248001 x248002))))))
def r18_Check.j1 : Nat → Bool → Int → Int → Int → Int → Int → Int → Int → Option (Int)
 | 0, _, _, _, _, _, _, _, _ => none
 | k + 1, x21, x247000, x247001, x247002, x247003, x248000, x248001, x248002 => if x21 = true then (some 2) else ((r18_fits.f x247000 x247001 x247002 x247003 x248000 x248001 x248002).bind fun t249 => (if t249 = true then (some 0) else (some 3)))
end
def r18_Check.f (k : Nat) (a0_0 : Int) (a0_1 : Int) (a0_2 : Int) (a0_3 : Int) (a1_0 : Int) (a1_1 : Int) (a1_2 : Int) : Option (Int) := (r18_Rule.f a1_0 a1_1 a1_2).bind fun t248 => (if t248 = 0 then (if a0_0 < 0 then (r18_Check.j0 k true a0_0 a0_1 a0_2 a0_3 a1_0 a1_1 a1_2) else (r18_Check.j0 k (decide (a0_0 > 5)) a0_0 a0_1 a0_2 a0_3 a1_0 a1_1 a1_2)) else (some t248))
theorem r18_Check.mono_l : ∀ k, (∀ y0 y1 y2 y3 y4 y5 y6 y7, LeO (r18_Check.j0 k y0 y1 y2 y3 y4 y5 y6 y7) (r18_Check.j0 (k + 1) y0 y1 y2 y3 y4 y5 y6 y7)) ∧ (∀ y0 y1 y2 y3 y4 y5 y6 y7, LeO (r18_Check.j1 k y0 y1 y2 y3 y4 y5 y6 y7) (r18_Check.j1 (k + 1) y0 y1 y2 y3 y4 y5 y6 y7))
 | 0 => ⟨fun _ _ _ _ _ _ _ _ r h => by simp [r18_Check.j0] at h, fun _ _ _ _ _ _ _ _ r h => by simp [r18_Check.j1] at h⟩
 | k + 1 => by
  obtain ⟨ih0, ih1⟩ := r18_Check.mono_l k
  refine ⟨?_, ?_⟩
  ·intro y0 y1 y2 y3 y4 y5 y6 y7
   unfold r18_Check.j0
   repeat' first
   | (with_reducible exact ih0 _ _ _ _ _ _ _ _)
   | (with_reducible exact ih1 _ _ _ _ _ _ _ _)
   | (with_reducible exact LeO.refl _)
   | (with_reducible exact LeO.none _)
   | (with_reducible refine LeO.ite ?_ ?_)
   | (with_reducible refine LeO.bind ?_ (fun _ => ?_))
   | exact ih0 _ _ _ _ _ _ _ _
   | exact ih1 _ _ _ _ _ _ _ _
   | exact LeO.none _
   | refine LeO.ite ?_ ?_
   | refine LeO.bind ?_ (fun _ => ?_)
  ·intro y0 y1 y2 y3 y4 y5 y6 y7
   unfold r18_Check.j1
   repeat' first
   | (with_reducible exact ih0 _ _ _ _ _ _ _ _)
   | (with_reducible exact ih1 _ _ _ _ _ _ _ _)
   | (with_reducible exact LeO.refl _)
   | (with_reducible exact LeO.none _)
   | (with_reducible refine LeO.ite ?_ ?_)
   | (with_reducible refine LeO.bind ?_ (fun _ => ?_))
   | exact ih0 _ _ _ _ _ _ _ _
   | exact ih1 _ _ _ _ _ _ _ _
   | exact LeO.none _
   | refine LeO.ite ?_ ?_
   | refine LeO.bind ?_ (fun _ => ?_)
theorem r18_Check.mono : ∀ a0 a1 a2 a3 a4 a5 a6 k, LeO (r18_Check.f k a0 a1 a2 a3 a4 a5 a6) (r18_Check.f (k + 1) a0 a1 a2 a3 a4 a5 a6) := by
 intro a0 a1 a2 a3 a4 a5 a6 k
 obtain ⟨ih0, ih1⟩ := r18_Check.mono_l k
 unfold r18_Check.f
 repeat' first
   | (with_reducible exact ih0 _ _ _ _ _ _ _ _)
   | (with_reducible exact ih1 _ _ _ _ _ _ _ _)
   | (with_reducible exact LeO.refl _)
   | (with_reducible exact LeO.none _)
   | (with_reducible refine LeO.ite ?_ ?_)
   | (with_reducible refine LeO.bind ?_ (fun _ => ?_))
   | exact ih0 _ _ _ _ _ _ _ _
   | exact ih1 _ _ _ _ _ _ _ _
   | exact LeO.none _
   | refine LeO.ite ?_ ?_
   | refine LeO.bind ?_ (fun _ => ?_)
set_option maxHeartbeats 8000000 in
set_option maxRecDepth 100000 in
theorem r18_Check.calls (k : Nat) (a0_0 : Int) (a0_1 : Int) (a0_2 : Int) (a0_3 : Int) (a1_0 : Int) (a1_1 : Int) (a1_2 : Int) (r : Int) (w : World) (h : r18_Check.f k a0_0 a0_1 a0_2 a0_3 a1_0 a1_1 a1_2 = some r) :
  Calls Try.prog 43 #[.agg #[.int .i64 a0_0, .int .i64 a0_1, .int .i64 a0_2, .int .i64 a0_3], .agg #[.int .i64 a1_0, .int .i64 a1_1, .int .i64 a1_2]] w fun e w' => e = .returned (.int .i64 r) ∧ Below w.heap.size w w' := by
 have hu37 := Try.underlying37
 have hu23 := Try.underlying23
 have HB := Aside0.mk (Below.refl w.heap.size w)
 have H : ((r18_Rule.f a1_0 a1_1 a1_2).bind fun t248 => (if t248 = 0 then (if a0_0 < 0 then (r18_Check.j0 k true a0_0 a0_1 a0_2 a0_3 a1_0 a1_1 a1_2) else (r18_Check.j0 k (decide (a0_0 > 5)) a0_0 a0_1 a0_2 a0_3 a1_0 a1_1 a1_2)) else (some t248))) = some r := h
 clear h
 replace H := Option.bind_eq_some_iff.mp H
 obtain ⟨t248, A30, H⟩ := H
 replace H : (if t248 = 0 then (if a0_0 < 0 then (r18_Check.j0 k true a0_0 a0_1 a0_2 a0_3 a1_0 a1_1 a1_2) else (r18_Check.j0 k (decide (a0_0 > 5)) a0_0 a0_1 a0_2 a0_3 a1_0 a1_1 a1_2)) else (some t248)) = some r := H
 have A3 := Aside0.mk A30
 clear A30
 by_cases c4 : t248 = 0
 ·rw [if_pos c4] at H
  have c4b0 : (t248 == 0) = true := beq_iff_eq.mpr c4
  have c4b1 : (t248 != 0) = false := bne_eq_false_iff_eq.mpr c4
  clear c4
  have HC5 := Aside0.mk H
  clear H
  go_enter Try.func43, Try.ntmps43
  go_upto_region 4 with (first | ((with_reducible refine gate_dst (N := 2) rfl ?_); refine bxe (cs := #[.int .i64 a0_0, .int .i64 a0_1, .int .i64 a0_2, .int .i64 a0_3]) (t := 37) ?_; intro gb246 hg w6 hbox hb; have BK246 := Aside0.mk (hbox); have GW246 := Aside0.mk (bge hg HB.out); have GE246 := Aside0.mk (bge hg HB.out); replace HB := Aside0.mk (bst HB.out hb); clear hb hbox hg) | ((with_reducible refine gate_dst (N := 3) rfl ?_); refine bxe (cs := #[.int .i64 a1_0, .int .i64 a1_1, .int .i64 a1_2]) (t := 23) ?_; intro gb247 hg w7 hbox hb; have BK247 := Aside0.mk (hbox); have GW247 := Aside0.mk (bge hg HB.out); have GE247 := Aside0.mk (bge hg HB.out); have NB246_247 := Aside0.mk ((bkl hg BK246.out)); have NB247_246 := Aside0.mk ((bkg hg BK246.out)); replace BK246 := Aside0.mk (bkb BK246.out hb); replace HB := Aside0.mk (bst HB.out hb); clear hb hbox hg; have hnb8 := NB247_246.out; have hnc8 := NB246_247.out; have hcz9_0 := cz3 BK247.out; have hfz9_0 := blk_frozen BK247.out) | ((with_reducible refine gate_callee (f := 40) rfl ?_); refine gsl (some 7) Try.func40 #[.agg #[.int .i64 a1_0, .int .i64 a1_1, .int .i64 a1_2]] ?_; (with_reducible refine (r18_Rule.calls a1_0 a1_1 a1_2 t248 _ A3.out).mono ?_); rintro e w10 ⟨rfl, hb⟩; refine ⟨_, rfl, ?_⟩; replace BK246 := Aside0.mk (bkb BK246.out hb); replace BK247 := Aside0.mk (bkb BK247.out hb); replace HB := Aside0.mk (bst HB.out hb); (try clear hb); (try clear hb2); (try clear hk); (try clear hi)))
  (try simp only [Act.put, List.setIfInBounds_toArray, List.set_cons_zero, List.set_cons_succ])
  go_cut [12] (fun v12 wc => ∃ (kq : Nat) (x12_4 : Bool), v12 = .bool x12_4 ∧ Aside0 (r18_Check.j0 kq x12_4 a0_0 a0_1 a0_2 a0_3 a1_0 a1_1 a1_2 = some r) ∧ Aside0 (kq ≤ k) ∧ Aside0 (wc.heap[gb246]? = some (.cells #[.int .i64 a0_0, .int .i64 a0_1, .int .i64 a0_2, .int .i64 a0_3] 37 (0, 0))) ∧ Aside0 (wc.heap[gb247]? = some (.cells #[.int .i64 a1_0, .int .i64 a1_1, .int .i64 a1_2] 23 (0, 0))) ∧ Aside0 (Below w.heap.size w wc))
  case first =>
   have H := HC5.out
   clear HC5
   by_cases c11 : a0_0 < 0
   ·rw [if_pos c11] at H
    have c11b0 : decide (a0_0 < 0) = true := decide_eq_true c11
    clear c11
    (first | rw [c11b0] | (simp only [i64_w, i32_w]; rw [c11b0]) | skip)
    have H' := Aside0.mk H
    clear H
    have hnb12 := NB246_247.out
    have hnc12 := NB247_246.out
    have hcz13_0 := cz4 BK246.out
    have hfz13_0 := blk_frozen BK246.out
    go_wp2
    go_meet
    case rel => exact ⟨_, (true), (by first | rfl | (simp; done) | (simp [*]; done)), H', ⟨by first | omega | exact Nat.le_refl _⟩, ⟨bkt BK246.out⟩, ⟨bkt BK247.out⟩, ⟨bel HB.out⟩⟩
   ·rw [if_neg c11] at H
    have c11b0 : decide (a0_0 < 0) = false := decide_eq_false c11
    clear c11
    (first | rw [c11b0] | (simp only [i64_w, i32_w]; rw [c11b0]) | skip)
    have H' := Aside0.mk H
    clear H
    have hnb14 := NB246_247.out
    have hnc14 := NB247_246.out
    have hcz15_0 := cz4 BK246.out
    have hfz15_0 := blk_frozen BK246.out
    go_wp2
    go_meet
    case rel => exact ⟨_, (decide (a0_0 > 5)), (by first | rfl | (simp; done) | (simp [*]; done)), H', ⟨by first | omega | exact Nat.le_refl _⟩, ⟨bkt BK246.out⟩, ⟨bkt BK247.out⟩, ⟨bel HB.out⟩⟩
  case rest =>
   clear HC5
   try clear c1
   try clear p2
   try clear c4
   try clear c4b0
   try clear c4b1
   try clear c8
   try clear c11
   try clear c11b0
   try clear c12
   try clear c14
   try clear hcz13_0
   try clear hcz15_0
   try clear hcz9_0
   try clear hfz13_0
   try clear hfz15_0
   try clear hfz9_0
   obtain ⟨kq, x12_4, rfl, HA, HJ4, BK246, BK247, HB⟩ := hcut
   cases kq with
   | zero => exact absurd HA.out (by simp [r18_Check.j0])
   | succ kj4 =>
    have H := HA.out
    clear HA
    simp only [r18_Check.j0] at H
    by_cases c16 : x12_4 = true
    ·subst c16
     have H1 : (some 11) = some r := by rw [if_pos rfl] at H; exact H
     clear H
     have H := H1
     clear H1
     obtain rfl := Option.some.inj H
     go_wp2
     go_ret
     exact bfin (bel HB.out)
    ·replace c16 := Bool.eq_false_iff.mpr c16
     subst c16
     have H1 : (if a0_1 < 0 then (r18_Check.j1 kj4 true a0_0 a0_1 a0_2 a0_3 a1_0 a1_1 a1_2) else (if a0_1 > a1_0 then (r18_Check.j1 kj4 true a0_0 a0_1 a0_2 a0_3 a1_0 a1_1 a1_2) else (if a0_2 < 0 then (r18_Check.j1 kj4 true a0_0 a0_1 a0_2 a0_3 a1_0 a1_1 a1_2) else (if a0_2 > a1_1 then (r18_Check.j1 kj4 true a0_0 a0_1 a0_2 a0_3 a1_0 a1_1 a1_2) else (if a0_3 < 0 then (r18_Check.j1 kj4 true a0_0 a0_1 a0_2 a0_3 a1_0 a1_1 a1_2) else (r18_Check.j1 kj4 (decide (a0_3 > a1_2)) a0_0 a0_1 a0_2 a0_3 a1_0 a1_1 a1_2)))))) = some r := by rw [if_neg (show ¬ (false = true) by decide)] at H; exact H
     clear H
     have H := H1
     clear H1
     have HC17 := Aside0.mk H
     clear H
     go_upto_region 6 with (fail)
     go_cut [21] (fun v21 wc => ∃ (kq : Nat) (x21_16 : Bool), v21 = .bool x21_16 ∧ Aside0 (r18_Check.j1 kq x21_16 a0_0 a0_1 a0_2 a0_3 a1_0 a1_1 a1_2 = some r) ∧ Aside0 (kq ≤ kj4) ∧ Aside0 (wc.heap[gb246]? = some (.cells #[.int .i64 a0_0, .int .i64 a0_1, .int .i64 a0_2, .int .i64 a0_3] 37 (0, 0))) ∧ Aside0 (wc.heap[gb247]? = some (.cells #[.int .i64 a1_0, .int .i64 a1_1, .int .i64 a1_2] 23 (0, 0))) ∧ Aside0 (Below w.heap.size w wc))
     case first =>
      have H := HC17.out
      clear HC17
      by_cases c18 : a0_1 < 0
      ·rw [if_pos c18] at H
       have c18b0 : decide (a0_1 < 0) = true := decide_eq_true c18
       clear c18
       (first | rw [c18b0] | (simp only [i64_w, i32_w]; rw [c18b0]) | skip)
       have H' := Aside0.mk H
       clear H
       have hnb19 := NB246_247.out
       have hnc19 := NB247_246.out
       have hcz20_0 := cz4 BK246.out
       have hfz20_0 := blk_frozen BK246.out
       go_wp2
       go_meet
       case rel => exact ⟨_, (true), (by first | rfl | (simp; done) | (simp [*]; done)), H', ⟨by have := HJ4.out; first | omega | exact Nat.le_refl _⟩, ⟨bkt BK246.out⟩, ⟨bkt BK247.out⟩, ⟨bel HB.out⟩⟩
      ·rw [if_neg c18] at H
       have c18b0 : decide (a0_1 < 0) = false := decide_eq_false c18
       clear c18
       (first | rw [c18b0] | (simp only [i64_w, i32_w]; rw [c18b0]) | skip)
       by_cases c21 : a0_1 > a1_0
       ·rw [if_pos c21] at H
        have c21b0 : decide (a1_0 < a0_1) = true := decide_eq_true c21
        clear c21
        have H' := Aside0.mk H
        clear H
        have hnb22 := NB246_247.out
        have hnc22 := NB247_246.out
        have hcz23_0 := cz4 BK246.out
        have hfz23_0 := blk_frozen BK246.out
        have hcz24_0 := cz3 BK247.out
        have hfz24_0 := blk_frozen BK247.out
        go_wp2
        go_meet
        case rel => exact ⟨_, (true), (by first | rfl | (simp; done) | (simp [*]; done)), H', ⟨by have := HJ4.out; first | omega | exact Nat.le_refl _⟩, ⟨bkt BK246.out⟩, ⟨bkt BK247.out⟩, ⟨bel HB.out⟩⟩
       ·rw [if_neg c21] at H
        have c21b0 : decide (a1_0 < a0_1) = false := decide_eq_false c21
        clear c21
        by_cases c25 : a0_2 < 0
        ·rw [if_pos c25] at H
         have c25b0 : decide (a0_2 < 0) = true := decide_eq_true c25
         clear c25
         have H' := Aside0.mk H
         clear H
         have hnb26 := NB246_247.out
         have hnc26 := NB247_246.out
         have hcz27_0 := cz4 BK246.out
         have hfz27_0 := blk_frozen BK246.out
         have hcz28_0 := cz3 BK247.out
         have hfz28_0 := blk_frozen BK247.out
         go_wp2
         go_meet
         case rel => exact ⟨_, (true), (by first | rfl | (simp; done) | (simp [*]; done)), H', ⟨by have := HJ4.out; first | omega | exact Nat.le_refl _⟩, ⟨bkt BK246.out⟩, ⟨bkt BK247.out⟩, ⟨bel HB.out⟩⟩
        ·rw [if_neg c25] at H
         have c25b0 : decide (a0_2 < 0) = false := decide_eq_false c25
         clear c25
         by_cases c29 : a0_2 > a1_1
         ·rw [if_pos c29] at H
          have c29b0 : decide (a1_1 < a0_2) = true := decide_eq_true c29
          clear c29
          have H' := Aside0.mk H
          clear H
          have hnb30 := NB246_247.out
          have hnc30 := NB247_246.out
          have hcz31_0 := cz4 BK246.out
          have hfz31_0 := blk_frozen BK246.out
          have hcz32_0 := cz3 BK247.out
          have hfz32_0 := blk_frozen BK247.out
          go_wp2
          go_meet
          case rel => exact ⟨_, (true), (by first | rfl | (simp; done) | (simp [*]; done)), H', ⟨by have := HJ4.out; first | omega | exact Nat.le_refl _⟩, ⟨bkt BK246.out⟩, ⟨bkt BK247.out⟩, ⟨bel HB.out⟩⟩
         ·rw [if_neg c29] at H
          have c29b0 : decide (a1_1 < a0_2) = false := decide_eq_false c29
          clear c29
          by_cases c33 : a0_3 < 0
          ·rw [if_pos c33] at H
           have c33b0 : decide (a0_3 < 0) = true := decide_eq_true c33
           clear c33
           have H' := Aside0.mk H
           clear H
           have hnb34 := NB246_247.out
           have hnc34 := NB247_246.out
           have hcz35_0 := cz4 BK246.out
           have hfz35_0 := blk_frozen BK246.out
           have hcz36_0 := cz3 BK247.out
           have hfz36_0 := blk_frozen BK247.out
           go_wp2
           go_meet
           case rel => exact ⟨_, (true), (by first | rfl | (simp; done) | (simp [*]; done)), H', ⟨by have := HJ4.out; first | omega | exact Nat.le_refl _⟩, ⟨bkt BK246.out⟩, ⟨bkt BK247.out⟩, ⟨bel HB.out⟩⟩
          ·rw [if_neg c33] at H
           have c33b0 : decide (a0_3 < 0) = false := decide_eq_false c33
           clear c33
           have H' := Aside0.mk H
           clear H
           have hnb37 := NB246_247.out
           have hnc37 := NB247_246.out
           have hcz38_0 := cz4 BK246.out
           have hfz38_0 := blk_frozen BK246.out
           have hcz39_0 := cz3 BK247.out
           have hfz39_0 := blk_frozen BK247.out
           go_wp2
           go_meet
           case rel => exact ⟨_, (decide (a0_3 > a1_2)), (by first | rfl | (simp; done) | (simp [*]; done)), H', ⟨by have := HJ4.out; first | omega | exact Nat.le_refl _⟩, ⟨bkt BK246.out⟩, ⟨bkt BK247.out⟩, ⟨bel HB.out⟩⟩
     case rest =>
      clear HC17
      try clear c1
      try clear c2
      try clear p2
      try clear c3
      try clear c4
      try clear c4b0
      try clear c4b1
      try clear c8
      try clear c11
      try clear c11b0
      try clear c12
      try clear c14
      try clear c16
      try clear c18
      try clear c18b0
      try clear c19
      try clear c21
      try clear c21b0
      try clear c22
      try clear c25
      try clear c25b0
      try clear c26
      try clear c29
      try clear c29b0
      try clear c30
      try clear c33
      try clear c33b0
      try clear c34
      try clear c37
      try clear hcz13_0
      try clear hcz15_0
      try clear hcz20_0
      try clear hcz23_0
      try clear hcz24_0
      try clear hcz27_0
      try clear hcz28_0
      try clear hcz31_0
      try clear hcz32_0
      try clear hcz35_0
      try clear hcz36_0
      try clear hcz38_0
      try clear hcz39_0
      try clear hcz9_0
      try clear hfz13_0
      try clear hfz15_0
      try clear hfz20_0
      try clear hfz23_0
      try clear hfz24_0
      try clear hfz27_0
      try clear hfz28_0
      try clear hfz31_0
      try clear hfz32_0
      try clear hfz35_0
      try clear hfz36_0
      try clear hfz38_0
      try clear hfz39_0
      try clear hfz9_0
      try clear p2
      obtain ⟨kq, x21_16, rfl, HA, HJ16, BK246, BK247, HB⟩ := hcut
      cases kq with
      | zero => exact absurd HA.out (by simp [r18_Check.j1])
      | succ kj16 =>
       have H := HA.out
       clear HA
       simp only [r18_Check.j1] at H
       by_cases c40 : x21_16 = true
       ·subst c40
        have H1 : (some 2) = some r := by rw [if_pos rfl] at H; exact H
        clear H
        have H := H1
        clear H1
        obtain rfl := Option.some.inj H
        go_wp2
        go_ret
        exact bfin (bel HB.out)
       ·replace c40 := Bool.eq_false_iff.mpr c40
        subst c40
        have H1 : ((r18_fits.f a0_0 a0_1 a0_2 a0_3 a1_0 a1_1 a1_2).bind fun t249 => (if t249 = true then (some 0) else (some 3))) = some r := by rw [if_neg (show ¬ (false = true) by decide)] at H; exact H
        clear H
        have H := H1
        clear H1
        replace H := Option.bind_eq_some_iff.mp H
        obtain ⟨t249, A410, H⟩ := H
        replace H : (if t249 = true then (some 0) else (some 3)) = some r := H
        have A41 := Aside0.mk A410
        clear A410
        by_cases c42 : t249 = true
        ·subst c42
         have H1 : (some 0) = some r := by rw [if_pos rfl] at H; exact H
         clear H
         have H := H1
         clear H1
         obtain rfl := Option.some.inj H
         have hnb43 := NB246_247.out
         have hnc43 := NB247_246.out
         have hcz44_0 := cz4 BK246.out
         have hfz44_0 := blk_frozen BK246.out
         have hcz45_0 := cz3 BK247.out
         have hfz45_0 := blk_frozen BK247.out
         go_wp2_with (first | ((with_reducible refine gate_callee (f := 55) rfl ?_); refine gsl (some 59) Try.func55 #[.agg #[.int .i64 a0_0, .int .i64 a0_1, .int .i64 a0_2, .int .i64 a0_3], .agg #[.int .i64 a1_0, .int .i64 a1_1, .int .i64 a1_2]] ?_; (with_reducible refine (r18_fits.calls a0_0 a0_1 a0_2 a0_3 a1_0 a1_1 a1_2 true _ A41.out).mono ?_); rintro e w46 ⟨rfl, hb⟩; refine ⟨_, rfl, ?_⟩; replace BK246 := Aside0.mk (bkb BK246.out hb); replace BK247 := Aside0.mk (bkb BK247.out hb); replace HB := Aside0.mk (bst HB.out hb); (try clear hb); (try clear hb2); (try clear hk); (try clear hi)))
         go_ret
         exact bfin (bel HB.out)
        ·replace c42 := Bool.eq_false_iff.mpr c42
         subst c42
         have H1 : (some 3) = some r := by rw [if_neg (show ¬ (false = true) by decide)] at H; exact H
         clear H
         have H := H1
         clear H1
         obtain rfl := Option.some.inj H
         have hnb47 := NB246_247.out
         have hnc47 := NB247_246.out
         have hcz48_0 := cz4 BK246.out
         have hfz48_0 := blk_frozen BK246.out
         have hcz49_0 := cz3 BK247.out
         have hfz49_0 := blk_frozen BK247.out
         go_wp2_with (first | ((with_reducible refine gate_callee (f := 55) rfl ?_); refine gsl (some 59) Try.func55 #[.agg #[.int .i64 a0_0, .int .i64 a0_1, .int .i64 a0_2, .int .i64 a0_3], .agg #[.int .i64 a1_0, .int .i64 a1_1, .int .i64 a1_2]] ?_; (with_reducible refine (r18_fits.calls a0_0 a0_1 a0_2 a0_3 a1_0 a1_1 a1_2 false _ A41.out).mono ?_); rintro e w50 ⟨rfl, hb⟩; refine ⟨_, rfl, ?_⟩; replace BK246 := Aside0.mk (bkb BK246.out hb); replace BK247 := Aside0.mk (bkb BK247.out hb); replace HB := Aside0.mk (bst HB.out hb); (try clear hb); (try clear hb2); (try clear hk); (try clear hi)))
         go_ret
         exact bfin (bel HB.out)
 ·rw [if_neg c4] at H
  have c4b0 : (t248 == 0) = false := beq_eq_false_iff_ne.mpr c4
  have c4b1 : (t248 != 0) = true := bne_iff_ne.mpr c4
  obtain rfl := Option.some.inj H
  go_enter Try.func43, Try.ntmps43
  go_wp2_with (first | ((with_reducible refine gate_dst (N := 2) rfl ?_); refine bxe (cs := #[.int .i64 a0_0, .int .i64 a0_1, .int .i64 a0_2, .int .i64 a0_3]) (t := 37) ?_; intro gb246 hg w51 hbox hb; have BK246 := Aside0.mk (hbox); have GW246 := Aside0.mk (bge hg HB.out); have GE246 := Aside0.mk (bge hg HB.out); replace HB := Aside0.mk (bst HB.out hb); clear hb hbox hg) | ((with_reducible refine gate_dst (N := 3) rfl ?_); refine bxe (cs := #[.int .i64 a1_0, .int .i64 a1_1, .int .i64 a1_2]) (t := 23) ?_; intro gb247 hg w52 hbox hb; have BK247 := Aside0.mk (hbox); have GW247 := Aside0.mk (bge hg HB.out); have GE247 := Aside0.mk (bge hg HB.out); have NB246_247 := Aside0.mk ((bkl hg BK246.out)); have NB247_246 := Aside0.mk ((bkg hg BK246.out)); replace BK246 := Aside0.mk (bkb BK246.out hb); replace HB := Aside0.mk (bst HB.out hb); clear hb hbox hg; have hnb53 := NB247_246.out; have hnc53 := NB246_247.out; have hcz54_0 := cz3 BK247.out; have hfz54_0 := blk_frozen BK247.out) | ((with_reducible refine gate_callee (f := 40) rfl ?_); refine gsl (some 7) Try.func40 #[.agg #[.int .i64 a1_0, .int .i64 a1_1, .int .i64 a1_2]] ?_; (with_reducible refine (r18_Rule.calls a1_0 a1_1 a1_2 t248 _ A3.out).mono ?_); rintro e w55 ⟨rfl, hb⟩; refine ⟨_, rfl, ?_⟩; replace BK246 := Aside0.mk (bkb BK246.out hb); replace BK247 := Aside0.mk (bkb BK247.out hb); replace HB := Aside0.mk (bst HB.out hb); (try clear hb); (try clear hb2); (try clear hk); (try clear hi)))
  go_ret
  exact bfin (bel HB.out)

end Go.Proofs.Ytmjmdnpenpdmhaa.P
