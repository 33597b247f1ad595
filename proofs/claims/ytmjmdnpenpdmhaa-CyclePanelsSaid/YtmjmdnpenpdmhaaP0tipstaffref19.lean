-- Printed by wip/myprint.py of this repo (over the kit's printer). Not trusted: Lean checks it.
import Derived.Test.YtmjmdnpenpdmhaaP0
import Derived.Test.YtmjmdnpenpdmhaaP0tipstaffref18
import Derived.Test.YtmjmdnpenpdmhaaP0tipstaffref18a
namespace Go.Proofs.Ytmjmdnpenpdmhaa.P
open Go.RowKit Go.Proofs.YtmjmdnpenpdmhaaW.PrintWords Go.Proofs.YtmjmdnpenpdmhaaW.PrintLast Go.Proofs.YtmjmdnpenpdmhaaW.PrintMore
attribute [local go_sem] cell_same1 cell_some1
attribute [local go_sem] max2_int min2_int max_two min_two max_three min_three max_four min_four   -- for this text's walks alone
set_option linter.unusedVariables false
set_option linter.unusedSimpArgs false

/-! ### ref_Begin: function 26 -/
def ref_Begin.f (k : Nat) (a0_0 : Int) (a0_1 : Int) (a0_2 : Int) (a1 : Bool) : Option (Int × Int × Int × Int × Int × Bool × Int) := (r18_Rule.f a0_0 a0_1 a0_2).bind fun t256 => (if t256 = 0 then (if a1 = true then ((r18_Open.f k 0 0 0 0 a0_0 a0_1 a0_2).bind fun bt258 => (some (bt258.1, bt258.2.1, bt258.2.2.1, bt258.2.2.2.1, 0, !a1, 0))) else (some (0, 0, 0, 0, 0, !a1, 0))) else (some (0, 0, 0, 0, 0, false, t256)))
theorem ref_Begin.mono : ∀ a0 a1 a2 a3 k, LeO (ref_Begin.f k a0 a1 a2 a3) (ref_Begin.f (k + 1) a0 a1 a2 a3) := by
  intro a0 a1 a2 a3 k
  unfold ref_Begin.f
  repeat' first
      | (with_reducible exact r18_Open.mono _ _ _ _ _ _ _ _)
      | (with_reducible exact LeO.refl _)
      | (with_reducible exact LeO.none _)
      | (with_reducible refine LeO.ite ?_ ?_)
      | (with_reducible refine LeO.bind ?_ (fun _ => ?_))
      | exact r18_Open.mono _ _ _ _ _ _ _ _
      | exact LeO.none _
      | refine LeO.ite ?_ ?_
      | refine LeO.bind ?_ (fun _ => ?_)
set_option maxHeartbeats 8000000 in
set_option maxRecDepth 100000 in
theorem ref_Begin.calls (k : Nat) (a0_0 : Int) (a0_1 : Int) (a0_2 : Int) (a1 : Bool) (r1 : Int) (r2 : Int) (r3 : Int) (r4 : Int) (r5 : Int) (r6 : Bool) (r7 : Int) (w : World) (h : ref_Begin.f k a0_0 a0_1 a0_2 a1 = some (r1, r2, r3, r4, r5, r6, r7)) :
    Calls Try.prog 26 #[.agg #[.int .i64 a0_0, .int .i64 a0_1, .int .i64 a0_2], .bool a1] w fun e w' => e = .returned (.tuple #[.agg #[.int .i64 r1, .int .i64 r2, .int .i64 r3, .int .i64 r4, .int .i64 r5, .bool r6], .int .i64 r7]) ∧ Below w.heap.size w w' := by
  have hu23 := Try.underlying23
  have hu39 := Try.underlying39
  have hu37 := Try.underlying37
  have HB := Aside0.mk (Below.refl w.heap.size w)
  have H : ((r18_Rule.f a0_0 a0_1 a0_2).bind fun t256 => (if t256 = 0 then (if a1 = true then ((r18_Open.f k 0 0 0 0 a0_0 a0_1 a0_2).bind fun bt258 => (some (bt258.1, bt258.2.1, bt258.2.2.1, bt258.2.2.2.1, 0, !a1, 0))) else (some (0, 0, 0, 0, 0, !a1, 0))) else (some (0, 0, 0, 0, 0, false, t256)))) = some (r1, r2, r3, r4, r5, r6, r7) := h
  clear h
  replace H := Option.bind_eq_some_iff.mp H
  obtain ⟨t256, A30, H⟩ := H
  replace H : (if t256 = 0 then (if a1 = true then ((r18_Open.f k 0 0 0 0 a0_0 a0_1 a0_2).bind fun bt258 => (some (bt258.1, bt258.2.1, bt258.2.2.1, bt258.2.2.2.1, 0, !a1, 0))) else (some (0, 0, 0, 0, 0, !a1, 0))) else (some (0, 0, 0, 0, 0, false, t256))) = some (r1, r2, r3, r4, r5, r6, r7) := H
  have A3 := Aside0.mk A30
  clear A30
  by_cases c4 : t256 = 0
  · rw [if_pos c4] at H
    have c4b0 : (t256 == 0) = true := beq_iff_eq.mpr c4
    have c4b1 : (t256 != 0) = false := bne_eq_false_iff_eq.mpr c4
    clear c4
    by_cases c5 : a1 = true
    · subst c5
      have H1 : ((r18_Open.f k 0 0 0 0 a0_0 a0_1 a0_2).bind fun bt258 => (some (bt258.1, bt258.2.1, bt258.2.2.1, bt258.2.2.2.1, 0, !true, 0))) = some (r1, r2, r3, r4, r5, r6, r7) := by rw [if_pos rfl] at H; exact H
      clear H
      have H := H1
      clear H1
      replace H := Option.bind_eq_some_iff.mp H
      obtain ⟨⟨t258, t259, t260, t261, t262⟩, A60, H⟩ := H
      replace H : (some (t258, t259, t260, t261, 0, !true, 0)) = some (r1, r2, r3, r4, r5, r6, r7) := H
      have A6 := Aside0.mk A60
      clear A60
      simp only [Option.some.injEq, Prod.mk.injEq] at H
      obtain ⟨rfl, rfl, rfl, rfl, rfl, rfl, rfl⟩ := H
      go_enter Try.func26, Try.ntmps26
      go_wp2_with (first | ((with_reducible refine gate_dst (N := 2) rfl ?_); refine bxe (cs := #[.int .i64 a0_0, .int .i64 a0_1, .int .i64 a0_2]) (t := 23) ?_; intro gb254 hg w7 hbox hb; have BK254 := Aside0.mk (hbox); have GW254 := Aside0.mk (bge hg HB.out); have GE254 := Aside0.mk (bge hg HB.out); replace HB := Aside0.mk (bst HB.out hb); clear hb hbox hg) | ((with_reducible refine gate_dst (N := 4) rfl ?_); refine bxe (cs := #[.int .i64 0, .int .i64 0, .int .i64 0, .int .i64 0, .int .i64 0, .bool false]) (t := 39) ?_; intro gb255 hg w8 hbox hb; have BK255 := Aside0.mk (hbox); have GW255 := Aside0.mk (bge hg HB.out); have GE255 := Aside0.mk (bge hg HB.out); have NB254_255 := Aside0.mk ((bkl hg BK254.out)); have NB255_254 := Aside0.mk ((bkg hg BK254.out)); replace BK254 := Aside0.mk (bkb BK254.out hb); replace HB := Aside0.mk (bst HB.out hb); clear hb hbox hg; have hnb9 := NB254_255.out; have hnc9 := NB255_254.out; have hcz10_0 := cz3 BK254.out; have hfz10_0 := blk_frozen BK254.out) | ((with_reducible refine gate_callee (f := 40) rfl ?_); refine gsl (some 9) Try.func40 #[.agg #[.int .i64 a0_0, .int .i64 a0_1, .int .i64 a0_2]] ?_; (with_reducible refine (r18_Rule.calls a0_0 a0_1 a0_2 t256 _ A3.out).mono ?_); rintro e w11 ⟨rfl, hb⟩; refine ⟨_, rfl, ?_⟩; replace BK254 := Aside0.mk (bkb BK254.out hb); replace BK255 := Aside0.mk (bkb BK255.out hb); replace HB := Aside0.mk (bst HB.out hb); (try clear hb); (try clear hb2); (try clear hk); (try clear hi)) | ((with_reducible refine gate_dst (N := 7) rfl ?_); refine bxe (cs := #[.int .i64 0, .int .i64 0, .int .i64 0, .int .i64 0, .int .i64 0, .bool false]) (t := 39) ?_; intro gb257 hg w12 hbox hb; have BK257 := Aside0.mk (hbox); have GW257 := Aside0.mk (bge hg HB.out); have GE257 := Aside0.mk (bge hg HB.out); have NB254_257 := Aside0.mk ((bkl hg BK254.out)); have NB257_254 := Aside0.mk ((bkg hg BK254.out)); have NB255_257 := Aside0.mk ((bkl hg BK255.out)); have NB257_255 := Aside0.mk ((bkg hg BK255.out)); replace BK254 := Aside0.mk (bkb BK254.out hb); replace BK255 := Aside0.mk (bkb BK255.out hb); replace HB := Aside0.mk (bst HB.out hb); clear hb hbox hg; have hnb13 := NB257_254.out; have hnc13 := NB254_257.out; have hnb14 := NB257_255.out; have hnc14 := NB255_257.out; have hcz15_0 := cz6 BK257.out; have hfz15_0 := blk_frozen BK257.out; have hcz16_0 := cz3 BK254.out; have hfz16_0 := blk_frozen BK254.out) | ((with_reducible refine gate_callee (f := 41) rfl ?_); refine gsl (some 22) Try.func41 #[.agg #[.int .i64 0, .int .i64 0, .int .i64 0, .int .i64 0], .agg #[.int .i64 a0_0, .int .i64 a0_1, .int .i64 a0_2]] ?_; (with_reducible refine (r18_Open.calls k 0 0 0 0 a0_0 a0_1 a0_2 t258 t259 t260 t261 t262 _ A6.out).mono ?_); rintro e w17 ⟨rfl, hb⟩; refine ⟨_, rfl, ?_⟩; replace BK254 := Aside0.mk (bkb BK254.out hb); replace BK255 := Aside0.mk (bkb BK255.out hb); replace BK257 := Aside0.mk (blk_below (g := gb257) (o := .cells #[.int .i64 0, .int .i64 0, .int .i64 0, .int .i64 0, .int .i64 0, .bool (!true)] 39 (0, 0)) (bkt BK257.out) hb); replace HB := Aside0.mk (bst HB.out hb); (try clear hb); (try clear hb2); (try clear hk); (try clear hi); have hcz18_0 := cz6 BK257.out; have hfz18_0 := blk_frozen BK257.out; have hcz19_0 := cz6 BK255.out; have hfz19_0 := blk_frozen BK255.out))
      refine bodyPost_ret (results_ct rfl _ _ gb255 39 #[.int .i64 t258, .int .i64 t259, .int .i64 t260, .int .i64 t261, .int .i64 0, .bool (!true)] (0, 0) _ rfl (bkt BK255.out) Try.underlying39 rfl (by kernel_rfl)) rfl ?_
      exact bfin (bel HB.out)
    · replace c5 := Bool.eq_false_iff.mpr c5
      subst c5
      have H1 : (some (0, 0, 0, 0, 0, !false, 0)) = some (r1, r2, r3, r4, r5, r6, r7) := by rw [if_neg (show ¬ (false = true) by decide)] at H; exact H
      clear H
      have H := H1
      clear H1
      simp only [Option.some.injEq, Prod.mk.injEq] at H
      obtain ⟨rfl, rfl, rfl, rfl, rfl, rfl, rfl⟩ := H
      go_enter Try.func26, Try.ntmps26
      go_wp2_with (first | ((with_reducible refine gate_dst (N := 2) rfl ?_); refine bxe (cs := #[.int .i64 a0_0, .int .i64 a0_1, .int .i64 a0_2]) (t := 23) ?_; intro gb254 hg w20 hbox hb; have BK254 := Aside0.mk (hbox); have GW254 := Aside0.mk (bge hg HB.out); have GE254 := Aside0.mk (bge hg HB.out); replace HB := Aside0.mk (bst HB.out hb); clear hb hbox hg) | ((with_reducible refine gate_dst (N := 4) rfl ?_); refine bxe (cs := #[.int .i64 0, .int .i64 0, .int .i64 0, .int .i64 0, .int .i64 0, .bool false]) (t := 39) ?_; intro gb255 hg w21 hbox hb; have BK255 := Aside0.mk (hbox); have GW255 := Aside0.mk (bge hg HB.out); have GE255 := Aside0.mk (bge hg HB.out); have NB254_255 := Aside0.mk ((bkl hg BK254.out)); have NB255_254 := Aside0.mk ((bkg hg BK254.out)); replace BK254 := Aside0.mk (bkb BK254.out hb); replace HB := Aside0.mk (bst HB.out hb); clear hb hbox hg; have hnb22 := NB254_255.out; have hnc22 := NB255_254.out; have hcz23_0 := cz3 BK254.out; have hfz23_0 := blk_frozen BK254.out) | ((with_reducible refine gate_callee (f := 40) rfl ?_); refine gsl (some 9) Try.func40 #[.agg #[.int .i64 a0_0, .int .i64 a0_1, .int .i64 a0_2]] ?_; (with_reducible refine (r18_Rule.calls a0_0 a0_1 a0_2 t256 _ A3.out).mono ?_); rintro e w24 ⟨rfl, hb⟩; refine ⟨_, rfl, ?_⟩; replace BK254 := Aside0.mk (bkb BK254.out hb); replace BK255 := Aside0.mk (bkb BK255.out hb); replace HB := Aside0.mk (bst HB.out hb); (try clear hb); (try clear hb2); (try clear hk); (try clear hi)) | ((with_reducible refine gate_dst (N := 7) rfl ?_); refine bxe (cs := #[.int .i64 0, .int .i64 0, .int .i64 0, .int .i64 0, .int .i64 0, .bool false]) (t := 39) ?_; intro gb257 hg w25 hbox hb; have BK257 := Aside0.mk (hbox); have GW257 := Aside0.mk (bge hg HB.out); have GE257 := Aside0.mk (bge hg HB.out); have NB254_257 := Aside0.mk ((bkl hg BK254.out)); have NB257_254 := Aside0.mk ((bkg hg BK254.out)); have NB255_257 := Aside0.mk ((bkl hg BK255.out)); have NB257_255 := Aside0.mk ((bkg hg BK255.out)); replace BK254 := Aside0.mk (bkb BK254.out hb); replace BK255 := Aside0.mk (bkb BK255.out hb); replace HB := Aside0.mk (bst HB.out hb); clear hb hbox hg; have hnb26 := NB257_254.out; have hnc26 := NB254_257.out; have hnb27 := NB257_255.out; have hnc27 := NB255_257.out; have hcz28_0 := cz6 BK257.out; have hfz28_0 := blk_frozen BK257.out; have hcz29_0 := cz6 BK255.out; have hfz29_0 := blk_frozen BK255.out))
      refine bodyPost_ret (results_ct rfl _ _ gb255 39 #[.int .i64 0, .int .i64 0, .int .i64 0, .int .i64 0, .int .i64 0, .bool (!false)] (0, 0) _ rfl (bkt BK255.out) Try.underlying39 rfl (by kernel_rfl)) rfl ?_
      exact bfin (bel HB.out)
  · rw [if_neg c4] at H
    have c4b0 : (t256 == 0) = false := beq_eq_false_iff_ne.mpr c4
    have c4b1 : (t256 != 0) = true := bne_iff_ne.mpr c4
    simp only [Option.some.injEq, Prod.mk.injEq] at H
    obtain ⟨rfl, rfl, rfl, rfl, rfl, rfl, rfl⟩ := H
    go_enter Try.func26, Try.ntmps26
    go_wp2_with (first | ((with_reducible refine gate_dst (N := 2) rfl ?_); refine bxe (cs := #[.int .i64 a0_0, .int .i64 a0_1, .int .i64 a0_2]) (t := 23) ?_; intro gb254 hg w30 hbox hb; have BK254 := Aside0.mk (hbox); have GW254 := Aside0.mk (bge hg HB.out); have GE254 := Aside0.mk (bge hg HB.out); replace HB := Aside0.mk (bst HB.out hb); clear hb hbox hg) | ((with_reducible refine gate_dst (N := 4) rfl ?_); refine bxe (cs := #[.int .i64 0, .int .i64 0, .int .i64 0, .int .i64 0, .int .i64 0, .bool false]) (t := 39) ?_; intro gb255 hg w31 hbox hb; have BK255 := Aside0.mk (hbox); have GW255 := Aside0.mk (bge hg HB.out); have GE255 := Aside0.mk (bge hg HB.out); have NB254_255 := Aside0.mk ((bkl hg BK254.out)); have NB255_254 := Aside0.mk ((bkg hg BK254.out)); replace BK254 := Aside0.mk (bkb BK254.out hb); replace HB := Aside0.mk (bst HB.out hb); clear hb hbox hg; have hnb32 := NB254_255.out; have hnc32 := NB255_254.out; have hcz33_0 := cz3 BK254.out; have hfz33_0 := blk_frozen BK254.out) | ((with_reducible refine gate_callee (f := 40) rfl ?_); refine gsl (some 9) Try.func40 #[.agg #[.int .i64 a0_0, .int .i64 a0_1, .int .i64 a0_2]] ?_; (with_reducible refine (r18_Rule.calls a0_0 a0_1 a0_2 t256 _ A3.out).mono ?_); rintro e w34 ⟨rfl, hb⟩; refine ⟨_, rfl, ?_⟩; replace BK254 := Aside0.mk (bkb BK254.out hb); replace BK255 := Aside0.mk (bkb BK255.out hb); replace HB := Aside0.mk (bst HB.out hb); (try clear hb); (try clear hb2); (try clear hk); (try clear hi); have hcz35_0 := cz6 BK255.out; have hfz35_0 := blk_frozen BK255.out))
    refine bodyPost_ret (results_ct rfl _ _ gb255 39 #[.int .i64 0, .int .i64 0, .int .i64 0, .int .i64 0, .int .i64 0, .bool false] (0, 0) _ rfl (bkt BK255.out) Try.underlying39 rfl (by kernel_rfl)) rfl ?_
    exact bfin (bel HB.out)

end Go.Proofs.Ytmjmdnpenpdmhaa.P
