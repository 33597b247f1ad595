-- Printed by wip/myprint.py of this repo (over the kit's printer). Not trusted: Lean checks it.
import Derived.Test.YtmjmdnpenpdmhaaP0
import Derived.Test.YtmjmdnpenpdmhaaP0tipstaffref18
namespace Go.Proofs.Ytmjmdnpenpdmhaa.P
open Go.RowKit Go.Proofs.YtmjmdnpenpdmhaaW.PrintWords Go.Proofs.YtmjmdnpenpdmhaaW.PrintLast Go.Proofs.YtmjmdnpenpdmhaaW.PrintMore
attribute [local go_sem] cell_same1 cell_some1
attribute [local go_sem] max2_int min2_int max_two min_two max_three min_three max_four min_four   -- for this text's walks alone
set_option linter.unusedVariables false
set_option linter.unusedSimpArgs false

/-! ### r18_Force: function 47 -/
def r18_Force.f (k : Nat) (a0_0 : Int) (a0_1 : Int) (a0_2 : Int) (a0_3 : Int) (a1_0 : Int) (a1_1 : Int) (a1_2 : Int) : Option (Int × Int × Int × Int × Int) := (r18_Check.f k a0_0 a0_1 a0_2 a0_3 a1_0 a1_1 a1_2).bind fun t361 => (if t361 = 0 then (if a0_1 = 0 then (some (0, 0, 0, 0, t361)) else (some (5, a0_1, 0, 0, 0))) else (some (0, 0, 0, 0, t361)))
theorem r18_Force.mono : ∀ a0 a1 a2 a3 a4 a5 a6 k, LeO (r18_Force.f k a0 a1 a2 a3 a4 a5 a6) (r18_Force.f (k + 1) a0 a1 a2 a3 a4 a5 a6) := by
  intro a0 a1 a2 a3 a4 a5 a6 k
  unfold r18_Force.f
  repeat' first
      | (with_reducible exact r18_Check.mono _ _ _ _ _ _ _ _)
      | (with_reducible exact LeO.refl _)
      | (with_reducible exact LeO.none _)
      | (with_reducible refine LeO.ite ?_ ?_)
      | (with_reducible refine LeO.bind ?_ (fun _ => ?_))
      | exact r18_Check.mono _ _ _ _ _ _ _ _
      | exact LeO.none _
      | refine LeO.ite ?_ ?_
      | refine LeO.bind ?_ (fun _ => ?_)
set_option maxHeartbeats 8000000 in
set_option maxRecDepth 100000 in
theorem r18_Force.calls (k : Nat) (a0_0 : Int) (a0_1 : Int) (a0_2 : Int) (a0_3 : Int) (a1_0 : Int) (a1_1 : Int) (a1_2 : Int) (r1 : Int) (r2 : Int) (r3 : Int) (r4 : Int) (r5 : Int) (w : World) (h : r18_Force.f k a0_0 a0_1 a0_2 a0_3 a1_0 a1_1 a1_2 = some (r1, r2, r3, r4, r5)) :
    Calls Try.prog 47 #[.agg #[.int .i64 a0_0, .int .i64 a0_1, .int .i64 a0_2, .int .i64 a0_3], .agg #[.int .i64 a1_0, .int .i64 a1_1, .int .i64 a1_2]] w fun e w' => e = .returned (.tuple #[.agg #[.int .i64 r1, .int .i64 r2, .int .i64 r3, .int .i64 r4], .int .i64 r5]) ∧ Below w.heap.size w w' := by
  have hu37 := Try.underlying37
  have hu23 := Try.underlying23
  have HB := Aside0.mk (Below.refl w.heap.size w)
  have H : ((r18_Check.f k a0_0 a0_1 a0_2 a0_3 a1_0 a1_1 a1_2).bind fun t361 => (if t361 = 0 then (if a0_1 = 0 then (some (0, 0, 0, 0, t361)) else (some (5, a0_1, 0, 0, 0))) else (some (0, 0, 0, 0, t361)))) = some (r1, r2, r3, r4, r5) := h
  clear h
  replace H := Option.bind_eq_some_iff.mp H
  obtain ⟨t361, A30, H⟩ := H
  replace H : (if t361 = 0 then (if a0_1 = 0 then (some (0, 0, 0, 0, t361)) else (some (5, a0_1, 0, 0, 0))) else (some (0, 0, 0, 0, t361))) = some (r1, r2, r3, r4, r5) := H
  have A3 := Aside0.mk A30
  clear A30
  by_cases c4 : t361 = 0
  · rw [if_pos c4] at H
    have c4b0 : (t361 == 0) = true := beq_iff_eq.mpr c4
    have c4b1 : (t361 != 0) = false := bne_eq_false_iff_eq.mpr c4
    clear c4
    by_cases c5 : a0_1 = 0
    · rw [if_pos c5] at H
      have c5b0 : (a0_1 == 0) = true := beq_iff_eq.mpr c5
      have c5b1 : (a0_1 != 0) = false := bne_eq_false_iff_eq.mpr c5
      clear c5
      simp only [Option.some.injEq, Prod.mk.injEq] at H
      obtain ⟨rfl, rfl, rfl, rfl, rfl⟩ := H
      go_enter Try.func47, Try.ntmps47
      go_wp2_with (first | ((with_reducible refine gate_dst (N := 2) rfl ?_); refine bxe (cs := #[.int .i64 a0_0, .int .i64 a0_1, .int .i64 a0_2, .int .i64 a0_3]) (t := 37) ?_; intro gb358 hg w6 hbox hb; have BK358 := Aside0.mk (hbox); have GW358 := Aside0.mk (bge hg HB.out); have GE358 := Aside0.mk (bge hg HB.out); replace HB := Aside0.mk (bst HB.out hb); clear hb hbox hg) | ((with_reducible refine gate_dst (N := 3) rfl ?_); refine bxe (cs := #[.int .i64 a1_0, .int .i64 a1_1, .int .i64 a1_2]) (t := 23) ?_; intro gb359 hg w7 hbox hb; have BK359 := Aside0.mk (hbox); have GW359 := Aside0.mk (bge hg HB.out); have GE359 := Aside0.mk (bge hg HB.out); have NB358_359 := Aside0.mk ((bkl hg BK358.out)); have NB359_358 := Aside0.mk ((bkg hg BK358.out)); replace BK358 := Aside0.mk (bkb BK358.out hb); replace HB := Aside0.mk (bst HB.out hb); clear hb hbox hg) | ((with_reducible refine gate_dst (N := 4) rfl ?_); refine bxe (cs := #[.int .i64 0, .int .i64 0, .int .i64 0, .int .i64 0]) (t := 37) ?_; intro gb360 hg w8 hbox hb; have BK360 := Aside0.mk (hbox); have GW360 := Aside0.mk (bge hg HB.out); have GE360 := Aside0.mk (bge hg HB.out); have NB358_360 := Aside0.mk ((bkl hg BK358.out)); have NB360_358 := Aside0.mk ((bkg hg BK358.out)); have NB359_360 := Aside0.mk ((bkl hg BK359.out)); have NB360_359 := Aside0.mk ((bkg hg BK359.out)); replace BK358 := Aside0.mk (bkb BK358.out hb); replace BK359 := Aside0.mk (bkb BK359.out hb); replace HB := Aside0.mk (bst HB.out hb); clear hb hbox hg; have hnb9 := NB358_359.out; have hnc9 := NB359_358.out; have hnb10 := NB358_360.out; have hnc10 := NB360_358.out; have hcz11_0 := cz4 BK358.out; have hfz11_0 := blk_frozen BK358.out; have hnb12 := NB359_360.out; have hnc12 := NB360_359.out; have hcz13_0 := cz3 BK359.out; have hfz13_0 := blk_frozen BK359.out) | ((with_reducible refine gate_callee (f := 43) rfl ?_); refine gsl (some 9) Try.func43 #[.agg #[.int .i64 a0_0, .int .i64 a0_1, .int .i64 a0_2, .int .i64 a0_3], .agg #[.int .i64 a1_0, .int .i64 a1_1, .int .i64 a1_2]] ?_; (with_reducible refine (r18_Check.calls k a0_0 a0_1 a0_2 a0_3 a1_0 a1_1 a1_2 t361 _ A3.out).mono ?_); rintro e w14 ⟨rfl, hb⟩; refine ⟨_, rfl, ?_⟩; replace BK358 := Aside0.mk (bkb BK358.out hb); replace BK359 := Aside0.mk (bkb BK359.out hb); replace BK360 := Aside0.mk (bkb BK360.out hb); replace HB := Aside0.mk (bst HB.out hb); (try clear hb); (try clear hb2); (try clear hk); (try clear hi); have hcz15_0 := cz4 BK358.out; have hfz15_0 := blk_frozen BK358.out; have hcz16_0 := cz4 BK360.out; have hfz16_0 := blk_frozen BK360.out))
      refine bodyPost_ret (results_ct rfl _ _ gb360 37 #[.int .i64 0, .int .i64 0, .int .i64 0, .int .i64 0] (0, 0) _ rfl (bkt BK360.out) Try.underlying37 rfl (by kernel_rfl)) rfl ?_
      exact bfin (bel HB.out)
    · rw [if_neg c5] at H
      have c5b0 : (a0_1 == 0) = false := beq_eq_false_iff_ne.mpr c5
      have c5b1 : (a0_1 != 0) = true := bne_iff_ne.mpr c5
      simp only [Option.some.injEq, Prod.mk.injEq] at H
      obtain ⟨rfl, rfl, rfl, rfl, rfl⟩ := H
      go_enter Try.func47, Try.ntmps47
      go_wp2_with (first | ((with_reducible refine gate_dst (N := 2) rfl ?_); refine bxe (cs := #[.int .i64 a0_0, .int .i64 a0_1, .int .i64 a0_2, .int .i64 a0_3]) (t := 37) ?_; intro gb358 hg w17 hbox hb; have BK358 := Aside0.mk (hbox); have GW358 := Aside0.mk (bge hg HB.out); have GE358 := Aside0.mk (bge hg HB.out); replace HB := Aside0.mk (bst HB.out hb); clear hb hbox hg) | ((with_reducible refine gate_dst (N := 3) rfl ?_); refine bxe (cs := #[.int .i64 a1_0, .int .i64 a1_1, .int .i64 a1_2]) (t := 23) ?_; intro gb359 hg w18 hbox hb; have BK359 := Aside0.mk (hbox); have GW359 := Aside0.mk (bge hg HB.out); have GE359 := Aside0.mk (bge hg HB.out); have NB358_359 := Aside0.mk ((bkl hg BK358.out)); have NB359_358 := Aside0.mk ((bkg hg BK358.out)); replace BK358 := Aside0.mk (bkb BK358.out hb); replace HB := Aside0.mk (bst HB.out hb); clear hb hbox hg) | ((with_reducible refine gate_dst (N := 4) rfl ?_); refine bxe (cs := #[.int .i64 0, .int .i64 0, .int .i64 0, .int .i64 0]) (t := 37) ?_; intro gb360 hg w19 hbox hb; have BK360 := Aside0.mk (hbox); have GW360 := Aside0.mk (bge hg HB.out); have GE360 := Aside0.mk (bge hg HB.out); have NB358_360 := Aside0.mk ((bkl hg BK358.out)); have NB360_358 := Aside0.mk ((bkg hg BK358.out)); have NB359_360 := Aside0.mk ((bkl hg BK359.out)); have NB360_359 := Aside0.mk ((bkg hg BK359.out)); replace BK358 := Aside0.mk (bkb BK358.out hb); replace BK359 := Aside0.mk (bkb BK359.out hb); replace HB := Aside0.mk (bst HB.out hb); clear hb hbox hg; have hnb20 := NB358_359.out; have hnc20 := NB359_358.out; have hnb21 := NB358_360.out; have hnc21 := NB360_358.out; have hcz22_0 := cz4 BK358.out; have hfz22_0 := blk_frozen BK358.out; have hnb23 := NB359_360.out; have hnc23 := NB360_359.out; have hcz24_0 := cz3 BK359.out; have hfz24_0 := blk_frozen BK359.out) | ((with_reducible refine gate_callee (f := 43) rfl ?_); refine gsl (some 9) Try.func43 #[.agg #[.int .i64 a0_0, .int .i64 a0_1, .int .i64 a0_2, .int .i64 a0_3], .agg #[.int .i64 a1_0, .int .i64 a1_1, .int .i64 a1_2]] ?_; (with_reducible refine (r18_Check.calls k a0_0 a0_1 a0_2 a0_3 a1_0 a1_1 a1_2 t361 _ A3.out).mono ?_); rintro e w25 ⟨rfl, hb⟩; refine ⟨_, rfl, ?_⟩; replace BK358 := Aside0.mk (bkb BK358.out hb); replace BK359 := Aside0.mk (bkb BK359.out hb); replace BK360 := Aside0.mk (bkb BK360.out hb); replace HB := Aside0.mk (bst HB.out hb); (try clear hb); (try clear hb2); (try clear hk); (try clear hi); have hcz26_0 := cz4 BK358.out; have hfz26_0 := blk_frozen BK358.out; have hcz27_0 := cz4 BK360.out; have hfz27_0 := blk_frozen BK360.out))
      refine bodyPost_ret (results_ct rfl _ _ gb360 37 #[.int .i64 5, .int .i64 a0_1, .int .i64 0, .int .i64 0] (0, 0) _ rfl (bkt BK360.out) Try.underlying37 rfl (by kernel_rfl)) rfl ?_
      exact bfin (bel HB.out)
  · rw [if_neg c4] at H
    have c4b0 : (t361 == 0) = false := beq_eq_false_iff_ne.mpr c4
    have c4b1 : (t361 != 0) = true := bne_iff_ne.mpr c4
    simp only [Option.some.injEq, Prod.mk.injEq] at H
    obtain ⟨rfl, rfl, rfl, rfl, rfl⟩ := H
    go_enter Try.func47, Try.ntmps47
    go_wp2_with (first | ((with_reducible refine gate_dst (N := 2) rfl ?_); refine bxe (cs := #[.int .i64 a0_0, .int .i64 a0_1, .int .i64 a0_2, .int .i64 a0_3]) (t := 37) ?_; intro gb358 hg w28 hbox hb; have BK358 := Aside0.mk (hbox); have GW358 := Aside0.mk (bge hg HB.out); have GE358 := Aside0.mk (bge hg HB.out); replace HB := Aside0.mk (bst HB.out hb); clear hb hbox hg) | ((with_reducible refine gate_dst (N := 3) rfl ?_); refine bxe (cs := #[.int .i64 a1_0, .int .i64 a1_1, .int .i64 a1_2]) (t := 23) ?_; intro gb359 hg w29 hbox hb; have BK359 := Aside0.mk (hbox); have GW359 := Aside0.mk (bge hg HB.out); have GE359 := Aside0.mk (bge hg HB.out); have NB358_359 := Aside0.mk ((bkl hg BK358.out)); have NB359_358 := Aside0.mk ((bkg hg BK358.out)); replace BK358 := Aside0.mk (bkb BK358.out hb); replace HB := Aside0.mk (bst HB.out hb); clear hb hbox hg) | ((with_reducible refine gate_dst (N := 4) rfl ?_); refine bxe (cs := #[.int .i64 0, .int .i64 0, .int .i64 0, .int .i64 0]) (t := 37) ?_; intro gb360 hg w30 hbox hb; have BK360 := Aside0.mk (hbox); have GW360 := Aside0.mk (bge hg HB.out); have GE360 := Aside0.mk (bge hg HB.out); have NB358_360 := Aside0.mk ((bkl hg BK358.out)); have NB360_358 := Aside0.mk ((bkg hg BK358.out)); have NB359_360 := Aside0.mk ((bkl hg BK359.out)); have NB360_359 := Aside0.mk ((bkg hg BK359.out)); replace BK358 := Aside0.mk (bkb BK358.out hb); replace BK359 := Aside0.mk (bkb BK359.out hb); replace HB := Aside0.mk (bst HB.out hb); clear hb hbox hg; have hnb31 := NB358_359.out; have hnc31 := NB359_358.out; have hnb32 := NB358_360.out; have hnc32 := NB360_358.out; have hcz33_0 := cz4 BK358.out; have hfz33_0 := blk_frozen BK358.out; have hnb34 := NB359_360.out; have hnc34 := NB360_359.out; have hcz35_0 := cz3 BK359.out; have hfz35_0 := blk_frozen BK359.out) | ((with_reducible refine gate_callee (f := 43) rfl ?_); refine gsl (some 9) Try.func43 #[.agg #[.int .i64 a0_0, .int .i64 a0_1, .int .i64 a0_2, .int .i64 a0_3], .agg #[.int .i64 a1_0, .int .i64 a1_1, .int .i64 a1_2]] ?_; (with_reducible refine (r18_Check.calls k a0_0 a0_1 a0_2 a0_3 a1_0 a1_1 a1_2 t361 _ A3.out).mono ?_); rintro e w36 ⟨rfl, hb⟩; refine ⟨_, rfl, ?_⟩; replace BK358 := Aside0.mk (bkb BK358.out hb); replace BK359 := Aside0.mk (bkb BK359.out hb); replace BK360 := Aside0.mk (bkb BK360.out hb); replace HB := Aside0.mk (bst HB.out hb); (try clear hb); (try clear hb2); (try clear hk); (try clear hi); have hcz37_0 := cz4 BK360.out; have hfz37_0 := blk_frozen BK360.out))
    refine bodyPost_ret (results_ct rfl _ _ gb360 37 #[.int .i64 0, .int .i64 0, .int .i64 0, .int .i64 0] (0, 0) _ rfl (bkt BK360.out) Try.underlying37 rfl (by kernel_rfl)) rfl ?_
    exact bfin (bel HB.out)

end Go.Proofs.Ytmjmdnpenpdmhaa.P
