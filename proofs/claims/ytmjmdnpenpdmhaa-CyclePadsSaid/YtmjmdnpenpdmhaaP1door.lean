-- Printed by wip/myprint.py of this repo (over the kit's printer). Not trusted: Lean checks it.
import Derived.Test.YtmjmdnpenpdmhaaP0
import Derived.Test.YtmjmdnpenpdmhaaDa
import Derived.Test.YtmjmdnpenpdmhaaP0door
namespace Go.Proofs.Ytmjmdnpenpdmhaa.P
open Go.RowKit Go.Proofs.YtmjmdnpenpdmhaaW.PrintWords Go.Proofs.YtmjmdnpenpdmhaaW.PrintLast Go.Proofs.YtmjmdnpenpdmhaaW.PrintMore
attribute [local go_sem] cell_same1 cell_some1
attribute [local go_sem] max2_int min2_int max_two min_two max_three min_three max_four min_four   -- for this text's walks alone
set_option linter.unusedVariables false
set_option linter.unusedSimpArgs false

/-! ### door_Step: function 52 -/
def door_Step.f (k : Nat) (a0_0 : Int) (a0_1 : Int) (a0_2 : Int) (a0_3 : Int) (a1_0 : Int) (a1_1 : Int) (a1_2 : Int) (a2 : Bool) : Option (Int × Int × Int × Int × Bool × Int) := (door_Check.f k a0_0 a0_1 a0_2 a0_3 a1_0 a1_1 a1_2).bind fun t155 => (if t155 = 0 then ((door_tick.f a0_0 a0_1 a0_2 a0_3 a1_0 a1_1 a1_2 a2).bind fun bt156 => (if a0_0 = 1 then (some (bt156.1, bt156.2.1, bt156.2.2.1, bt156.2.2.2, (bt156.1 == 2), 0)) else (some (bt156.1, bt156.2.1, bt156.2.2.1, bt156.2.2.2, false, 0)))) else (some (0, 0, 0, 0, false, t155)))
theorem door_Step.mono : ∀ a0 a1 a2 a3 a4 a5 a6 a7 k, LeO (door_Step.f k a0 a1 a2 a3 a4 a5 a6 a7) (door_Step.f (k + 1) a0 a1 a2 a3 a4 a5 a6 a7) := by
  intro a0 a1 a2 a3 a4 a5 a6 a7 k
  unfold door_Step.f
  repeat' first
      | (with_reducible exact door_Check.mono _ _ _ _ _ _ _ _)
      | (with_reducible exact LeO.refl _)
      | (with_reducible exact LeO.none _)
      | (with_reducible refine LeO.ite ?_ ?_)
      | (with_reducible refine LeO.bind ?_ (fun _ => ?_))
      | exact door_Check.mono _ _ _ _ _ _ _ _
      | exact LeO.none _
      | refine LeO.ite ?_ ?_
      | refine LeO.bind ?_ (fun _ => ?_)
set_option maxHeartbeats 8000000 in
set_option maxRecDepth 100000 in
theorem door_Step.calls (k : Nat) (a0_0 : Int) (a0_1 : Int) (a0_2 : Int) (a0_3 : Int) (a1_0 : Int) (a1_1 : Int) (a1_2 : Int) (a2 : Bool) (r1 : Int) (r2 : Int) (r3 : Int) (r4 : Int) (r5 : Bool) (r6 : Int) (w : World) (h : door_Step.f k a0_0 a0_1 a0_2 a0_3 a1_0 a1_1 a1_2 a2 = some (r1, r2, r3, r4, r5, r6)) :
    Calls Try.prog 52 #[.agg #[.int .i64 a0_0, .int .i64 a0_1, .int .i64 a0_2, .int .i64 a0_3], .agg #[.int .i64 a1_0, .int .i64 a1_1, .int .i64 a1_2], .bool a2] w fun e w' => e = .returned (.tuple #[.agg #[.int .i64 r1, .int .i64 r2, .int .i64 r3, .int .i64 r4], .bool r5, .int .i64 r6]) ∧ Below w.heap.size w w' := by
  have hu37 := Try.underlying37
  have hu23 := Try.underlying23
  have HB := Aside0.mk (Below.refl w.heap.size w)
  have H : ((door_Check.f k a0_0 a0_1 a0_2 a0_3 a1_0 a1_1 a1_2).bind fun t155 => (if t155 = 0 then ((door_tick.f a0_0 a0_1 a0_2 a0_3 a1_0 a1_1 a1_2 a2).bind fun bt156 => (if a0_0 = 1 then (some (bt156.1, bt156.2.1, bt156.2.2.1, bt156.2.2.2, (bt156.1 == 2), 0)) else (some (bt156.1, bt156.2.1, bt156.2.2.1, bt156.2.2.2, false, 0)))) else (some (0, 0, 0, 0, false, t155)))) = some (r1, r2, r3, r4, r5, r6) := h
  clear h
  replace H := Option.bind_eq_some_iff.mp H
  obtain ⟨t155, A40, H⟩ := H
  replace H : (if t155 = 0 then ((door_tick.f a0_0 a0_1 a0_2 a0_3 a1_0 a1_1 a1_2 a2).bind fun bt156 => (if a0_0 = 1 then (some (bt156.1, bt156.2.1, bt156.2.2.1, bt156.2.2.2, (bt156.1 == 2), 0)) else (some (bt156.1, bt156.2.1, bt156.2.2.1, bt156.2.2.2, false, 0)))) else (some (0, 0, 0, 0, false, t155))) = some (r1, r2, r3, r4, r5, r6) := H
  have A4 := Aside0.mk A40
  clear A40
  by_cases c5 : t155 = 0
  · rw [if_pos c5] at H
    have c5b0 : (t155 == 0) = true := beq_iff_eq.mpr c5
    have c5b1 : (t155 != 0) = false := bne_eq_false_iff_eq.mpr c5
    clear c5
    replace H := Option.bind_eq_some_iff.mp H
    obtain ⟨⟨t156, t157, t158, t159⟩, A60, H⟩ := H
    replace H : (if a0_0 = 1 then (some (t156, t157, t158, t159, (t156 == 2), 0)) else (some (t156, t157, t158, t159, false, 0))) = some (r1, r2, r3, r4, r5, r6) := H
    have A6 := Aside0.mk A60
    clear A60
    by_cases c7 : a0_0 = 1
    · rw [if_pos c7] at H
      have c7b0 : (a0_0 == 1) = true := beq_iff_eq.mpr c7
      have c7b1 : (a0_0 != 1) = false := bne_eq_false_iff_eq.mpr c7
      clear c7
      simp only [Option.some.injEq, Prod.mk.injEq] at H
      obtain ⟨rfl, rfl, rfl, rfl, rfl, rfl⟩ := H
      go_enter Try.func52, Try.ntmps52
      go_wp2_with (first | ((with_reducible refine gate_dst (N := 3) rfl ?_); refine bxe (cs := #[.int .i64 a0_0, .int .i64 a0_1, .int .i64 a0_2, .int .i64 a0_3]) (t := 37) ?_; intro gb152 hg w8 hbox hb; have BK152 := Aside0.mk (hbox); have GW152 := Aside0.mk (bge hg HB.out); have GE152 := Aside0.mk (bge hg HB.out); replace HB := Aside0.mk (bst HB.out hb); clear hb hbox hg) | ((with_reducible refine gate_dst (N := 4) rfl ?_); refine bxe (cs := #[.int .i64 a1_0, .int .i64 a1_1, .int .i64 a1_2]) (t := 23) ?_; intro gb153 hg w9 hbox hb; have BK153 := Aside0.mk (hbox); have GW153 := Aside0.mk (bge hg HB.out); have GE153 := Aside0.mk (bge hg HB.out); have NB152_153 := Aside0.mk ((bkl hg BK152.out)); have NB153_152 := Aside0.mk ((bkg hg BK152.out)); replace BK152 := Aside0.mk (bkb BK152.out hb); replace HB := Aside0.mk (bst HB.out hb); clear hb hbox hg) | ((with_reducible refine gate_dst (N := 6) rfl ?_); refine bxe (cs := #[.int .i64 0, .int .i64 0, .int .i64 0, .int .i64 0]) (t := 37) ?_; intro gb154 hg w10 hbox hb; have BK154 := Aside0.mk (hbox); have GW154 := Aside0.mk (bge hg HB.out); have GE154 := Aside0.mk (bge hg HB.out); have NB152_154 := Aside0.mk ((bkl hg BK152.out)); have NB154_152 := Aside0.mk ((bkg hg BK152.out)); have NB153_154 := Aside0.mk ((bkl hg BK153.out)); have NB154_153 := Aside0.mk ((bkg hg BK153.out)); replace BK152 := Aside0.mk (bkb BK152.out hb); replace BK153 := Aside0.mk (bkb BK153.out hb); replace HB := Aside0.mk (bst HB.out hb); clear hb hbox hg; have hnb11 := NB152_153.out; have hnc11 := NB153_152.out; have hnb12 := NB152_154.out; have hnc12 := NB154_152.out; have hcz13_0 := cz4 BK152.out; have hfz13_0 := blk_frozen BK152.out; have hnb14 := NB153_154.out; have hnc14 := NB154_153.out; have hcz15_0 := cz3 BK153.out; have hfz15_0 := blk_frozen BK153.out) | ((with_reducible refine gate_callee (f := 36) rfl ?_); refine gsl (some 12) Try.func36 #[.agg #[.int .i64 a0_0, .int .i64 a0_1, .int .i64 a0_2, .int .i64 a0_3], .agg #[.int .i64 a1_0, .int .i64 a1_1, .int .i64 a1_2]] ?_; (with_reducible refine (door_Check.calls k a0_0 a0_1 a0_2 a0_3 a1_0 a1_1 a1_2 t155 _ A4.out).mono ?_); rintro e w16 ⟨rfl, hb⟩; refine ⟨_, rfl, ?_⟩; replace BK152 := Aside0.mk (bkb BK152.out hb); replace BK153 := Aside0.mk (bkb BK153.out hb); replace BK154 := Aside0.mk (bkb BK154.out hb); replace HB := Aside0.mk (bst HB.out hb); (try clear hb); (try clear hb2); (try clear hk); (try clear hi); have hcz17_0 := cz4 BK152.out; have hfz17_0 := blk_frozen BK152.out; have hcz18_0 := cz3 BK153.out; have hfz18_0 := blk_frozen BK153.out) | ((with_reducible refine gate_callee (f := 54) rfl ?_); refine gsl (some 20) Try.func54 #[.agg #[.int .i64 a0_0, .int .i64 a0_1, .int .i64 a0_2, .int .i64 a0_3], .agg #[.int .i64 a1_0, .int .i64 a1_1, .int .i64 a1_2], .bool a2] ?_; (with_reducible refine (door_tick.calls a0_0 a0_1 a0_2 a0_3 a1_0 a1_1 a1_2 a2 t156 t157 t158 t159 _ A6.out).mono ?_); rintro e w19 ⟨rfl, hb⟩; refine ⟨_, rfl, ?_⟩; replace BK152 := Aside0.mk (bkb BK152.out hb); replace BK153 := Aside0.mk (bkb BK153.out hb); replace BK154 := Aside0.mk (bkb BK154.out hb); replace HB := Aside0.mk (bst HB.out hb); (try clear hb); (try clear hb2); (try clear hk); (try clear hi); have hcz20_0 := cz4 BK154.out; have hfz20_0 := blk_frozen BK154.out; have hcz21_0 := cz4 BK152.out; have hfz21_0 := blk_frozen BK152.out))
      refine bodyPost_ret (results_ctt rfl _ _ gb154 37 #[.int .i64 t156, .int .i64 t157, .int .i64 t158, .int .i64 t159] (0, 0) _ rfl (bkt BK154.out) Try.underlying37 rfl (by kernel_rfl)) rfl ?_
      exact bfin (bel HB.out)
    · rw [if_neg c7] at H
      have c7b0 : (a0_0 == 1) = false := beq_eq_false_iff_ne.mpr c7
      have c7b1 : (a0_0 != 1) = true := bne_iff_ne.mpr c7
      simp only [Option.some.injEq, Prod.mk.injEq] at H
      obtain ⟨rfl, rfl, rfl, rfl, rfl, rfl⟩ := H
      go_enter Try.func52, Try.ntmps52
      go_wp2_with (first | ((with_reducible refine gate_dst (N := 3) rfl ?_); refine bxe (cs := #[.int .i64 a0_0, .int .i64 a0_1, .int .i64 a0_2, .int .i64 a0_3]) (t := 37) ?_; intro gb152 hg w22 hbox hb; have BK152 := Aside0.mk (hbox); have GW152 := Aside0.mk (bge hg HB.out); have GE152 := Aside0.mk (bge hg HB.out); replace HB := Aside0.mk (bst HB.out hb); clear hb hbox hg) | ((with_reducible refine gate_dst (N := 4) rfl ?_); refine bxe (cs := #[.int .i64 a1_0, .int .i64 a1_1, .int .i64 a1_2]) (t := 23) ?_; intro gb153 hg w23 hbox hb; have BK153 := Aside0.mk (hbox); have GW153 := Aside0.mk (bge hg HB.out); have GE153 := Aside0.mk (bge hg HB.out); have NB152_153 := Aside0.mk ((bkl hg BK152.out)); have NB153_152 := Aside0.mk ((bkg hg BK152.out)); replace BK152 := Aside0.mk (bkb BK152.out hb); replace HB := Aside0.mk (bst HB.out hb); clear hb hbox hg) | ((with_reducible refine gate_dst (N := 6) rfl ?_); refine bxe (cs := #[.int .i64 0, .int .i64 0, .int .i64 0, .int .i64 0]) (t := 37) ?_; intro gb154 hg w24 hbox hb; have BK154 := Aside0.mk (hbox); have GW154 := Aside0.mk (bge hg HB.out); have GE154 := Aside0.mk (bge hg HB.out); have NB152_154 := Aside0.mk ((bkl hg BK152.out)); have NB154_152 := Aside0.mk ((bkg hg BK152.out)); have NB153_154 := Aside0.mk ((bkl hg BK153.out)); have NB154_153 := Aside0.mk ((bkg hg BK153.out)); replace BK152 := Aside0.mk (bkb BK152.out hb); replace BK153 := Aside0.mk (bkb BK153.out hb); replace HB := Aside0.mk (bst HB.out hb); clear hb hbox hg; have hnb25 := NB152_153.out; have hnc25 := NB153_152.out; have hnb26 := NB152_154.out; have hnc26 := NB154_152.out; have hcz27_0 := cz4 BK152.out; have hfz27_0 := blk_frozen BK152.out; have hnb28 := NB153_154.out; have hnc28 := NB154_153.out; have hcz29_0 := cz3 BK153.out; have hfz29_0 := blk_frozen BK153.out) | ((with_reducible refine gate_callee (f := 36) rfl ?_); refine gsl (some 12) Try.func36 #[.agg #[.int .i64 a0_0, .int .i64 a0_1, .int .i64 a0_2, .int .i64 a0_3], .agg #[.int .i64 a1_0, .int .i64 a1_1, .int .i64 a1_2]] ?_; (with_reducible refine (door_Check.calls k a0_0 a0_1 a0_2 a0_3 a1_0 a1_1 a1_2 t155 _ A4.out).mono ?_); rintro e w30 ⟨rfl, hb⟩; refine ⟨_, rfl, ?_⟩; replace BK152 := Aside0.mk (bkb BK152.out hb); replace BK153 := Aside0.mk (bkb BK153.out hb); replace BK154 := Aside0.mk (bkb BK154.out hb); replace HB := Aside0.mk (bst HB.out hb); (try clear hb); (try clear hb2); (try clear hk); (try clear hi); have hcz31_0 := cz4 BK152.out; have hfz31_0 := blk_frozen BK152.out; have hcz32_0 := cz3 BK153.out; have hfz32_0 := blk_frozen BK153.out) | ((with_reducible refine gate_callee (f := 54) rfl ?_); refine gsl (some 20) Try.func54 #[.agg #[.int .i64 a0_0, .int .i64 a0_1, .int .i64 a0_2, .int .i64 a0_3], .agg #[.int .i64 a1_0, .int .i64 a1_1, .int .i64 a1_2], .bool a2] ?_; (with_reducible refine (door_tick.calls a0_0 a0_1 a0_2 a0_3 a1_0 a1_1 a1_2 a2 t156 t157 t158 t159 _ A6.out).mono ?_); rintro e w33 ⟨rfl, hb⟩; refine ⟨_, rfl, ?_⟩; replace BK152 := Aside0.mk (bkb BK152.out hb); replace BK153 := Aside0.mk (bkb BK153.out hb); replace BK154 := Aside0.mk (bkb BK154.out hb); replace HB := Aside0.mk (bst HB.out hb); (try clear hb); (try clear hb2); (try clear hk); (try clear hi); have hcz34_0 := cz4 BK154.out; have hfz34_0 := blk_frozen BK154.out; have hcz35_0 := cz4 BK152.out; have hfz35_0 := blk_frozen BK152.out))
      refine bodyPost_ret (results_ctt rfl _ _ gb154 37 #[.int .i64 t156, .int .i64 t157, .int .i64 t158, .int .i64 t159] (0, 0) _ rfl (bkt BK154.out) Try.underlying37 rfl (by kernel_rfl)) rfl ?_
      exact bfin (bel HB.out)
  · rw [if_neg c5] at H
    have c5b0 : (t155 == 0) = false := beq_eq_false_iff_ne.mpr c5
    have c5b1 : (t155 != 0) = true := bne_iff_ne.mpr c5
    simp only [Option.some.injEq, Prod.mk.injEq] at H
    obtain ⟨rfl, rfl, rfl, rfl, rfl, rfl⟩ := H
    go_enter Try.func52, Try.ntmps52
    go_wp2_with (first | ((with_reducible refine gate_dst (N := 3) rfl ?_); refine bxe (cs := #[.int .i64 a0_0, .int .i64 a0_1, .int .i64 a0_2, .int .i64 a0_3]) (t := 37) ?_; intro gb152 hg w36 hbox hb; have BK152 := Aside0.mk (hbox); have GW152 := Aside0.mk (bge hg HB.out); have GE152 := Aside0.mk (bge hg HB.out); replace HB := Aside0.mk (bst HB.out hb); clear hb hbox hg) | ((with_reducible refine gate_dst (N := 4) rfl ?_); refine bxe (cs := #[.int .i64 a1_0, .int .i64 a1_1, .int .i64 a1_2]) (t := 23) ?_; intro gb153 hg w37 hbox hb; have BK153 := Aside0.mk (hbox); have GW153 := Aside0.mk (bge hg HB.out); have GE153 := Aside0.mk (bge hg HB.out); have NB152_153 := Aside0.mk ((bkl hg BK152.out)); have NB153_152 := Aside0.mk ((bkg hg BK152.out)); replace BK152 := Aside0.mk (bkb BK152.out hb); replace HB := Aside0.mk (bst HB.out hb); clear hb hbox hg) | ((with_reducible refine gate_dst (N := 6) rfl ?_); refine bxe (cs := #[.int .i64 0, .int .i64 0, .int .i64 0, .int .i64 0]) (t := 37) ?_; intro gb154 hg w38 hbox hb; have BK154 := Aside0.mk (hbox); have GW154 := Aside0.mk (bge hg HB.out); have GE154 := Aside0.mk (bge hg HB.out); have NB152_154 := Aside0.mk ((bkl hg BK152.out)); have NB154_152 := Aside0.mk ((bkg hg BK152.out)); have NB153_154 := Aside0.mk ((bkl hg BK153.out)); have NB154_153 := Aside0.mk ((bkg hg BK153.out)); replace BK152 := Aside0.mk (bkb BK152.out hb); replace BK153 := Aside0.mk (bkb BK153.out hb); replace HB := Aside0.mk (bst HB.out hb); clear hb hbox hg; have hnb39 := NB152_153.out; have hnc39 := NB153_152.out; have hnb40 := NB152_154.out; have hnc40 := NB154_152.out; have hcz41_0 := cz4 BK152.out; have hfz41_0 := blk_frozen BK152.out; have hnb42 := NB153_154.out; have hnc42 := NB154_153.out; have hcz43_0 := cz3 BK153.out; have hfz43_0 := blk_frozen BK153.out) | ((with_reducible refine gate_callee (f := 36) rfl ?_); refine gsl (some 12) Try.func36 #[.agg #[.int .i64 a0_0, .int .i64 a0_1, .int .i64 a0_2, .int .i64 a0_3], .agg #[.int .i64 a1_0, .int .i64 a1_1, .int .i64 a1_2]] ?_; (with_reducible refine (door_Check.calls k a0_0 a0_1 a0_2 a0_3 a1_0 a1_1 a1_2 t155 _ A4.out).mono ?_); rintro e w44 ⟨rfl, hb⟩; refine ⟨_, rfl, ?_⟩; replace BK152 := Aside0.mk (bkb BK152.out hb); replace BK153 := Aside0.mk (bkb BK153.out hb); replace BK154 := Aside0.mk (bkb BK154.out hb); replace HB := Aside0.mk (bst HB.out hb); (try clear hb); (try clear hb2); (try clear hk); (try clear hi); have hcz45_0 := cz4 BK154.out; have hfz45_0 := blk_frozen BK154.out))
    refine bodyPost_ret (results_ctt rfl _ _ gb154 37 #[.int .i64 0, .int .i64 0, .int .i64 0, .int .i64 0] (0, 0) _ rfl (bkt BK154.out) Try.underlying37 rfl (by kernel_rfl)) rfl ?_
    exact bfin (bel HB.out)

end Go.Proofs.Ytmjmdnpenpdmhaa.P
