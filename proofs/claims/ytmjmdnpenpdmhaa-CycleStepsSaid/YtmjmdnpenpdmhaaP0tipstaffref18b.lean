-- Printed by wip/myprint.py of this repo (over the kit's printer). Not trusted: Lean checks it.
import Derived.Test.YtmjmdnpenpdmhaaP0
import Derived.Test.YtmjmdnpenpdmhaaP0tipstaffref18a
namespace Go.Proofs.Ytmjmdnpenpdmhaa.P
open Go.RowKit Go.Proofs.YtmjmdnpenpdmhaaW.PrintWords Go.Proofs.YtmjmdnpenpdmhaaW.PrintLast Go.Proofs.YtmjmdnpenpdmhaaW.PrintMore
attribute [local go_sem] cell_same1 cell_some1
attribute [local go_sem] max2_int min2_int max_two min_two max_three min_three max_four min_four   -- for this text's walks alone
set_option linter.unusedVariables false
set_option linter.unusedSimpArgs false

/-! ### r18_step: function 58 -/
def r18_step.f (a0_0 : Int) (a0_1 : Int) (a0_2 : Int) (a0_3 : Int) (a1_0 : Int) (a1_1 : Int) (a1_2 : Int) (a2 : Bool) : Option (Int × Int × Int × Int × Bool) := if a0_0 = 1 then (if (wrap64 (a0_1 + 1)) = a1_0 then (some (2, wrap64 (a0_1 + 1), a1_1, a0_3, true)) else (some (a0_0, wrap64 (a0_1 + 1), a0_2, a0_3, false))) else (if a0_0 = 2 then (if (wrap64 (a0_2 - 1)) = 0 then (some (3, a0_1, wrap64 (a0_2 - 1), a0_3, false)) else (some (a0_0, a0_1, wrap64 (a0_2 - 1), a0_3, false))) else (if a0_0 = 3 then (if a2 = true then (if a0_3 = a1_2 then ((r18_fall.f 4 a0_1 a0_2 a0_3).bind fun bt270 => (some (bt270.1, bt270.2.1, bt270.2.2.1, bt270.2.2.2, false))) else (if a0_1 = a1_0 then (some (2, a0_1, a1_1, wrap64 (a0_3 + 1), false)) else (some (1, a0_1, a0_2, wrap64 (a0_3 + 1), false)))) else ((r18_fall.f a0_0 a0_1 a0_2 a0_3).bind fun bt274 => (some (bt274.1, bt274.2.1, bt274.2.2.1, bt274.2.2.2, false)))) else (if a0_0 = 4 then ((r18_fall.f a0_0 a0_1 a0_2 a0_3).bind fun bt278 => (some (bt278.1, bt278.2.1, bt278.2.2.1, bt278.2.2.2, false))) else (if a0_0 = 5 then ((r18_fall.f a0_0 a0_1 a0_2 a0_3).bind fun bt282 => (some (bt282.1, bt282.2.1, bt282.2.2.1, bt282.2.2.2, false))) else (some (a0_0, a0_1, a0_2, a0_3, false))))))
set_option maxHeartbeats 8000000 in
set_option maxRecDepth 100000 in
theorem r18_step.calls (a0_0 : Int) (a0_1 : Int) (a0_2 : Int) (a0_3 : Int) (a1_0 : Int) (a1_1 : Int) (a1_2 : Int) (a2 : Bool) (r1 : Int) (r2 : Int) (r3 : Int) (r4 : Int) (r5 : Bool) (w : World) (h : r18_step.f a0_0 a0_1 a0_2 a0_3 a1_0 a1_1 a1_2 a2 = some (r1, r2, r3, r4, r5)) :
  Calls Try.prog 58 #[.agg #[.int .i64 a0_0, .int .i64 a0_1, .int .i64 a0_2, .int .i64 a0_3], .agg #[.int .i64 a1_0, .int .i64 a1_1, .int .i64 a1_2], .bool a2] w fun e w' => e = .returned (.tuple #[.agg #[.int .i64 r1, .int .i64 r2, .int .i64 r3, .int .i64 r4], .bool r5]) ∧ Below w.heap.size w w' := by
 have hu37 := Try.underlying37
 have hu23 := Try.underlying23
 have HB := Aside0.mk (Below.refl w.heap.size w)
 have H : (if a0_0 = 1 then (if (wrap64 (a0_1 + 1)) = a1_0 then (some (2, wrap64 (a0_1 + 1), a1_1, a0_3, true)) else (some (a0_0, wrap64 (a0_1 + 1), a0_2, a0_3, false))) else (if a0_0 = 2 then (if (wrap64 (a0_2 - 1)) = 0 then (some (3, a0_1, wrap64 (a0_2 - 1), a0_3, false)) else (some (a0_0, a0_1, wrap64 (a0_2 - 1), a0_3, false))) else (if a0_0 = 3 then (if a2 = true then (if a0_3 = a1_2 then ((r18_fall.f 4 a0_1 a0_2 a0_3).bind fun bt270 => (some (bt270.1, bt270.2.1, bt270.2.2.1, bt270.2.2.2, false))) else (if a0_1 = a1_0 then (some (2, a0_1, a1_1, wrap64 (a0_3 + 1), false)) else (some (1, a0_1, a0_2, wrap64 (a0_3 + 1), false)))) else ((r18_fall.f a0_0 a0_1 a0_2 a0_3).bind fun bt274 => (some (bt274.1, bt274.2.1, bt274.2.2.1, bt274.2.2.2, false)))) else (if a0_0 = 4 then ((r18_fall.f a0_0 a0_1 a0_2 a0_3).bind fun bt278 => (some (bt278.1, bt278.2.1, bt278.2.2.1, bt278.2.2.2, false))) else (if a0_0 = 5 then ((r18_fall.f a0_0 a0_1 a0_2 a0_3).bind fun bt282 => (some (bt282.1, bt282.2.1, bt282.2.2.1, bt282.2.2.2, false))) else (some (a0_0, a0_1, a0_2, a0_3, false))))))) = some (r1, r2, r3, r4, r5) := h
 clear h
 by_cases c4 : a0_0 = 1
 ·rw [if_pos c4] at H
  have c4b0 : (a0_0 == 1) = true := beq_iff_eq.mpr c4
  have c4b1 : (a0_0 != 1) = false := bne_eq_false_iff_eq.mpr c4
  clear c4
  by_cases c5 : (wrap64 (a0_1 + 1)) = a1_0
  ·rw [if_pos c5] at H
   have c5b0 : ((wrap64 (a0_1 + 1)) == a1_0) = true := beq_iff_eq.mpr c5
   have c5b1 : ((wrap64 (a0_1 + 1)) != a1_0) = false := bne_eq_false_iff_eq.mpr c5
   clear c5
   simp only [Option.some.injEq, Prod.mk.injEq] at H
   obtain ⟨rfl, rfl, rfl, rfl, rfl⟩ := H
   go_enter Try.func58, Try.ntmps58
   try go_wp2_with (first | ((with_reducible refine gate_dst (N := 3) rfl ?_); refine bxe (cs := #[.int .i64 a0_0, .int .i64 a0_1, .int .i64 a0_2, .int .i64 a0_3]) (t := 37) ?_; intro gb267 hg w6 hbox hb; have BK267 := Aside0.mk (hbox); have GW267 := Aside0.mk (bge hg HB.out); have GE267 := Aside0.mk (bge hg HB.out); replace HB := Aside0.mk (bst HB.out hb); clear hb hbox hg) | ((with_reducible refine gate_dst (N := 4) rfl ?_); refine bxe (cs := #[.int .i64 a1_0, .int .i64 a1_1, .int .i64 a1_2]) (t := 23) ?_; intro gb268 hg w7 hbox hb; have BK268 := Aside0.mk (hbox); have GW268 := Aside0.mk (bge hg HB.out); have GE268 := Aside0.mk (bge hg HB.out); have NB267_268 := Aside0.mk ((bkl hg BK267.out)); have NB268_267 := Aside0.mk ((bkg hg BK267.out)); replace BK267 := Aside0.mk (bkb BK267.out hb); replace HB := Aside0.mk (bst HB.out hb); clear hb hbox hg) | ((with_reducible refine gate_dst (N := 6) rfl ?_); refine bxe (cs := #[.int .i64 0, .int .i64 0, .int .i64 0, .int .i64 0]) (t := 37) ?_; intro gb269 hg w8 hbox hb; have BK269 := Aside0.mk (hbox); have GW269 := Aside0.mk (bge hg HB.out); have GE269 := Aside0.mk (bge hg HB.out); have NB267_269 := Aside0.mk ((bkl hg BK267.out)); have NB269_267 := Aside0.mk ((bkg hg BK267.out)); have NB268_269 := Aside0.mk ((bkl hg BK268.out)); have NB269_268 := Aside0.mk ((bkg hg BK268.out)); replace BK267 := Aside0.mk (bkb BK267.out hb); replace BK268 := Aside0.mk (bkb BK268.out hb); replace HB := Aside0.mk (bst HB.out hb); clear hb hbox hg; have hnb9 := NB267_268.out; have hnc9 := NB268_267.out; have hnb10 := NB267_269.out; have hnc10 := NB269_267.out; have hcz11_0 := cz4 BK267.out; have hfz11_0 := blk_frozen BK267.out; have hnb12 := NB268_269.out; have hnc12 := NB269_268.out; have hcz13_0 := cz3 BK268.out; have hfz13_0 := blk_frozen BK268.out))
   have n0_ : Aside0 ((w8.setCell ⟨gb267, 1, none⟩ (.int .i64 (wrap64 (a0_1 + 1)))).heap[gb267]? = some (.cells #[.int .i64 a0_0, .int .i64 (wrap64 (a0_1 + 1)), .int .i64 a0_2, .int .i64 a0_3] 37 (0, 0))) := ⟨bkt BK267.out⟩
   have n1_ : Aside0 ((w8.setCell ⟨gb267, 1, none⟩ (.int .i64 (wrap64 (a0_1 + 1)))).heap[gb268]? = some (.cells #[.int .i64 a1_0, .int .i64 a1_1, .int .i64 a1_2] 23 (0, 0))) := ⟨bkt BK268.out⟩
   have n2_ : Aside0 ((w8.setCell ⟨gb267, 1, none⟩ (.int .i64 (wrap64 (a0_1 + 1)))).heap[gb269]? = some (.cells #[.int .i64 0, .int .i64 0, .int .i64 0, .int .i64 0] 37 (0, 0))) := ⟨bkt BK269.out⟩
   have n3_ : Aside0 (Below w.heap.size w (w8.setCell ⟨gb267, 1, none⟩ (.int .i64 (wrap64 (a0_1 + 1))))) := ⟨bel HB.out⟩
   (try clear BK267)
   (try clear BK268)
   (try clear BK269)
   (try clear HB)
   generalize (w8.setCell ⟨gb267, 1, none⟩ (.int .i64 (wrap64 (a0_1 + 1)))) = w14 at n0_ n1_ n2_ n3_ ⊢
   have BK267 := n0_
   have BK268 := n1_
   have BK269 := n2_
   have HB := n3_
   clear n0_ n1_ n2_ n3_
   have n0_ := Aside0.mk (blk_drew BK267.out)
   have n1_ := Aside0.mk (blk_drew BK268.out)
   have n2_ := Aside0.mk (blk_drew BK269.out)
   have n3_ := Aside0.mk (below_drew1 HB.out)
   clear BK267
   clear BK268
   clear BK269
   clear HB
   have BK267 := n0_
   have BK268 := n1_
   have BK269 := n2_
   have HB := n3_
   clear n0_ n1_ n2_ n3_
   refine start_ (n := 6) (S := fun w' => w'.cell? ⟨gb268, 0, none⟩ = some (.int .i64 a1_0) ∧ w'.cell? ⟨gb268, 1, none⟩ = some (.int .i64 a1_1) ∧ w'.cell? ⟨gb268, 2, none⟩ = some (.int .i64 a1_2)) (ds := []) #[false, false, false, false, false, false] (by kernel_rfl) rfl rfl ⟨(blk_cell BK268.out 0).trans rfl, (blk_cell BK268.out 1).trans rfl, (blk_cell BK268.out 2).trans rfl⟩ (fun hHeld => ?_)
   generalize w14.drew = w15 at BK267 BK268 BK269 HB hHeld ⊢
   refine purk 0 (some 21) #[true, false, false, false, false, false] ?_
   refine purk 2 (some 23) #[true, false, true, false, false, false] ?_
   refine take_ (i := 1) (N := some 22) (v := ?_) (a' := ?_) #[true, true, true, false, false, false] rfl rfl (by kernel_rfl) (fun _ _ _ h => h) (Or.inl ⟨by rfl, ?_⟩) hHeld ?_ ?_
   rotate_left
   ·rintro w' ⟨s0, s1, s2⟩
    go_simp
    with_reducible rfl
   rotate_left
   ·simp only [Act.put, List.setIfInBounds_toArray, List.set_cons_zero, List.set_cons_succ, i64_w, i32_w]
    rfl
   refine one_ (i := 3) (N := none) #[true, true, true, true, false, false] rfl rfl (by kernel_rfl) (by decide) (fun K hK => ?_)
   have hs16 : w15.cell? ⟨gb267, 0, none⟩ = some (.int .i64 a0_0) := (blk_cell BK267.out 0).trans rfl
   have hfs16 := blk_frozen BK267.out 0
   have hns16_1 := NB268_267.out
   have hns16_2 := NB269_267.out
   have hms16_1 := NB267_268.out
   have hms16_2 := NB267_269.out
   refine skip_ (w1 := ?_) (by rfl) rfl ?_ ?_
   rotate_left
   ·go_simp
    rfl
   refine hK.out _ _ ⟨(clr hHeld.1), (clr hHeld.2.1), (clr hHeld.2.2)⟩ (fun hHeld => ?_)
   clear hK K
   refine purk 4 (some 24) #[true, true, true, true, true, false] ?_
   refine one_ (i := 5) (N := none) #[true, true, true, true, true, true] rfl rfl (by kernel_rfl) (by decide) (fun K hK => ?_)
   have hs17 : w15.cell? ⟨gb267, 2, none⟩ = some (.int .i64 a0_2) := (blk_cell BK267.out 2).trans rfl
   have hfs17 := blk_frozen BK267.out 2
   have hns17_1 := NB268_267.out
   have hns17_2 := NB269_267.out
   have hms17_1 := NB267_268.out
   have hms17_2 := NB267_269.out
   refine skip_ (w1 := ?_) (by rfl) rfl ?_ ?_
   rotate_left
   ·go_simp
    rfl
   refine hK.out _ _ ⟨(clr hHeld.1), (clr hHeld.2.1), (clr hHeld.2.2)⟩ (fun hHeld => ?_)
   clear hK K
   refine done_ (by kernel_rfl) ?_
   have hcz18_0 := cz4 BK267.out
   have hfz18_0 := blk_frozen BK267.out
   have hcz19_0 := cz4 BK269.out
   have hfz19_0 := blk_frozen BK269.out
   try go_wp2
   refine bodyPost_ret (results_ct rfl _ _ gb269 37 #[.int .i64 2, .int .i64 (wrap64 (a0_1 + 1)), .int .i64 a1_1, .int .i64 a0_3] (0, 0) _ rfl (bkt BK269.out) Try.underlying37 rfl (by kernel_rfl)) rfl ?_
   exact bfin (bel HB.out)
  ·rw [if_neg c5] at H
   have c5b0 : ((wrap64 (a0_1 + 1)) == a1_0) = false := beq_eq_false_iff_ne.mpr c5
   have c5b1 : ((wrap64 (a0_1 + 1)) != a1_0) = true := bne_iff_ne.mpr c5
   simp only [Option.some.injEq, Prod.mk.injEq] at H
   obtain ⟨rfl, rfl, rfl, rfl, rfl⟩ := H
   go_enter Try.func58, Try.ntmps58
   go_wp2_with (first | ((with_reducible refine gate_dst (N := 3) rfl ?_); refine bxe (cs := #[.int .i64 a0_0, .int .i64 a0_1, .int .i64 a0_2, .int .i64 a0_3]) (t := 37) ?_; intro gb267 hg w20 hbox hb; have BK267 := Aside0.mk (hbox); have GW267 := Aside0.mk (bge hg HB.out); have GE267 := Aside0.mk (bge hg HB.out); replace HB := Aside0.mk (bst HB.out hb); clear hb hbox hg) | ((with_reducible refine gate_dst (N := 4) rfl ?_); refine bxe (cs := #[.int .i64 a1_0, .int .i64 a1_1, .int .i64 a1_2]) (t := 23) ?_; intro gb268 hg w21 hbox hb; have BK268 := Aside0.mk (hbox); have GW268 := Aside0.mk (bge hg HB.out); have GE268 := Aside0.mk (bge hg HB.out); have NB267_268 := Aside0.mk ((bkl hg BK267.out)); have NB268_267 := Aside0.mk ((bkg hg BK267.out)); replace BK267 := Aside0.mk (bkb BK267.out hb); replace HB := Aside0.mk (bst HB.out hb); clear hb hbox hg) | ((with_reducible refine gate_dst (N := 6) rfl ?_); refine bxe (cs := #[.int .i64 0, .int .i64 0, .int .i64 0, .int .i64 0]) (t := 37) ?_; intro gb269 hg w22 hbox hb; have BK269 := Aside0.mk (hbox); have GW269 := Aside0.mk (bge hg HB.out); have GE269 := Aside0.mk (bge hg HB.out); have NB267_269 := Aside0.mk ((bkl hg BK267.out)); have NB269_267 := Aside0.mk ((bkg hg BK267.out)); have NB268_269 := Aside0.mk ((bkl hg BK268.out)); have NB269_268 := Aside0.mk ((bkg hg BK268.out)); replace BK267 := Aside0.mk (bkb BK267.out hb); replace BK268 := Aside0.mk (bkb BK268.out hb); replace HB := Aside0.mk (bst HB.out hb); clear hb hbox hg; have hnb23 := NB267_268.out; have hnc23 := NB268_267.out; have hnb24 := NB267_269.out; have hnc24 := NB269_267.out; have hcz25_0 := cz4 BK267.out; have hfz25_0 := blk_frozen BK267.out; have hnb26 := NB268_269.out; have hnc26 := NB269_268.out; have hcz27_0 := cz3 BK268.out; have hfz27_0 := blk_frozen BK268.out; have hcz28_0 := cz4 BK269.out; have hfz28_0 := blk_frozen BK269.out))
   refine bodyPost_ret (results_ct rfl _ _ gb269 37 #[.int .i64 a0_0, .int .i64 (wrap64 (a0_1 + 1)), .int .i64 a0_2, .int .i64 a0_3] (0, 0) _ rfl (bkt BK269.out) Try.underlying37 rfl (by kernel_rfl)) rfl ?_
   exact bfin (bel HB.out)
 ·rw [if_neg c4] at H
  have c4b0 : (a0_0 == 1) = false := beq_eq_false_iff_ne.mpr c4
  have c4b1 : (a0_0 != 1) = true := bne_iff_ne.mpr c4
  by_cases c29 : a0_0 = 2
  ·rw [if_pos c29] at H
   have c29b0 : (a0_0 == 2) = true := beq_iff_eq.mpr c29
   have c29b1 : (a0_0 != 2) = false := bne_eq_false_iff_eq.mpr c29
   clear c29
   by_cases c30 : (wrap64 (a0_2 - 1)) = 0
   ·rw [if_pos c30] at H
    have c30b0 : ((wrap64 (a0_2 - 1)) == 0) = true := beq_iff_eq.mpr c30
    have c30b1 : ((wrap64 (a0_2 - 1)) != 0) = false := bne_eq_false_iff_eq.mpr c30
    clear c30
    simp only [Option.some.injEq, Prod.mk.injEq] at H
    obtain ⟨rfl, rfl, rfl, rfl, rfl⟩ := H
    go_enter Try.func58, Try.ntmps58
    go_wp2_with (first | ((with_reducible refine gate_dst (N := 3) rfl ?_); refine bxe (cs := #[.int .i64 a0_0, .int .i64 a0_1, .int .i64 a0_2, .int .i64 a0_3]) (t := 37) ?_; intro gb267 hg w31 hbox hb; have BK267 := Aside0.mk (hbox); have GW267 := Aside0.mk (bge hg HB.out); have GE267 := Aside0.mk (bge hg HB.out); replace HB := Aside0.mk (bst HB.out hb); clear hb hbox hg) | ((with_reducible refine gate_dst (N := 4) rfl ?_); refine bxe (cs := #[.int .i64 a1_0, .int .i64 a1_1, .int .i64 a1_2]) (t := 23) ?_; intro gb268 hg w32 hbox hb; have BK268 := Aside0.mk (hbox); have GW268 := Aside0.mk (bge hg HB.out); have GE268 := Aside0.mk (bge hg HB.out); have NB267_268 := Aside0.mk ((bkl hg BK267.out)); have NB268_267 := Aside0.mk ((bkg hg BK267.out)); replace BK267 := Aside0.mk (bkb BK267.out hb); replace HB := Aside0.mk (bst HB.out hb); clear hb hbox hg) | ((with_reducible refine gate_dst (N := 6) rfl ?_); refine bxe (cs := #[.int .i64 0, .int .i64 0, .int .i64 0, .int .i64 0]) (t := 37) ?_; intro gb269 hg w33 hbox hb; have BK269 := Aside0.mk (hbox); have GW269 := Aside0.mk (bge hg HB.out); have GE269 := Aside0.mk (bge hg HB.out); have NB267_269 := Aside0.mk ((bkl hg BK267.out)); have NB269_267 := Aside0.mk ((bkg hg BK267.out)); have NB268_269 := Aside0.mk ((bkl hg BK268.out)); have NB269_268 := Aside0.mk ((bkg hg BK268.out)); replace BK267 := Aside0.mk (bkb BK267.out hb); replace BK268 := Aside0.mk (bkb BK268.out hb); replace HB := Aside0.mk (bst HB.out hb); clear hb hbox hg; have hnb34 := NB267_268.out; have hnc34 := NB268_267.out; have hnb35 := NB267_269.out; have hnc35 := NB269_267.out; have hcz36_0 := cz4 BK267.out; have hfz36_0 := blk_frozen BK267.out; have hnb37 := NB269_268.out; have hnc37 := NB268_269.out; have hcz38_0 := cz4 BK269.out; have hfz38_0 := blk_frozen BK269.out))
    refine bodyPost_ret (results_ct rfl _ _ gb269 37 #[.int .i64 3, .int .i64 a0_1, .int .i64 (wrap64 (a0_2 - 1)), .int .i64 a0_3] (0, 0) _ rfl (bkt BK269.out) Try.underlying37 rfl (by kernel_rfl)) rfl ?_
    exact bfin (bel HB.out)
   ·rw [if_neg c30] at H
    have c30b0 : ((wrap64 (a0_2 - 1)) == 0) = false := beq_eq_false_iff_ne.mpr c30
    have c30b1 : ((wrap64 (a0_2 - 1)) != 0) = true := bne_iff_ne.mpr c30
    simp only [Option.some.injEq, Prod.mk.injEq] at H
    obtain ⟨rfl, rfl, rfl, rfl, rfl⟩ := H
    go_enter Try.func58, Try.ntmps58
    go_wp2_with (first | ((with_reducible refine gate_dst (N := 3) rfl ?_); refine bxe (cs := #[.int .i64 a0_0, .int .i64 a0_1, .int .i64 a0_2, .int .i64 a0_3]) (t := 37) ?_; intro gb267 hg w39 hbox hb; have BK267 := Aside0.mk (hbox); have GW267 := Aside0.mk (bge hg HB.out); have GE267 := Aside0.mk (bge hg HB.out); replace HB := Aside0.mk (bst HB.out hb); clear hb hbox hg) | ((with_reducible refine gate_dst (N := 4) rfl ?_); refine bxe (cs := #[.int .i64 a1_0, .int .i64 a1_1, .int .i64 a1_2]) (t := 23) ?_; intro gb268 hg w40 hbox hb; have BK268 := Aside0.mk (hbox); have GW268 := Aside0.mk (bge hg HB.out); have GE268 := Aside0.mk (bge hg HB.out); have NB267_268 := Aside0.mk ((bkl hg BK267.out)); have NB268_267 := Aside0.mk ((bkg hg BK267.out)); replace BK267 := Aside0.mk (bkb BK267.out hb); replace HB := Aside0.mk (bst HB.out hb); clear hb hbox hg) | ((with_reducible refine gate_dst (N := 6) rfl ?_); refine bxe (cs := #[.int .i64 0, .int .i64 0, .int .i64 0, .int .i64 0]) (t := 37) ?_; intro gb269 hg w41 hbox hb; have BK269 := Aside0.mk (hbox); have GW269 := Aside0.mk (bge hg HB.out); have GE269 := Aside0.mk (bge hg HB.out); have NB267_269 := Aside0.mk ((bkl hg BK267.out)); have NB269_267 := Aside0.mk ((bkg hg BK267.out)); have NB268_269 := Aside0.mk ((bkl hg BK268.out)); have NB269_268 := Aside0.mk ((bkg hg BK268.out)); replace BK267 := Aside0.mk (bkb BK267.out hb); replace BK268 := Aside0.mk (bkb BK268.out hb); replace HB := Aside0.mk (bst HB.out hb); clear hb hbox hg; have hnb42 := NB267_268.out; have hnc42 := NB268_267.out; have hnb43 := NB267_269.out; have hnc43 := NB269_267.out; have hcz44_0 := cz4 BK267.out; have hfz44_0 := blk_frozen BK267.out; have hnb45 := NB269_268.out; have hnc45 := NB268_269.out; have hcz46_0 := cz4 BK269.out; have hfz46_0 := blk_frozen BK269.out))
    refine bodyPost_ret (results_ct rfl _ _ gb269 37 #[.int .i64 a0_0, .int .i64 a0_1, .int .i64 (wrap64 (a0_2 - 1)), .int .i64 a0_3] (0, 0) _ rfl (bkt BK269.out) Try.underlying37 rfl (by kernel_rfl)) rfl ?_
    exact bfin (bel HB.out)
  ·rw [if_neg c29] at H
   have c29b0 : (a0_0 == 2) = false := beq_eq_false_iff_ne.mpr c29
   have c29b1 : (a0_0 != 2) = true := bne_iff_ne.mpr c29
   by_cases c47 : a0_0 = 3
   ·rw [if_pos c47] at H
    have c47b0 : (a0_0 == 3) = true := beq_iff_eq.mpr c47
    have c47b1 : (a0_0 != 3) = false := bne_eq_false_iff_eq.mpr c47
    clear c47
    by_cases c48 : a2 = true
    ·subst c48
     have H1 : (if a0_3 = a1_2 then ((r18_fall.f 4 a0_1 a0_2 a0_3).bind fun bt270 => (some (bt270.1, bt270.2.1, bt270.2.2.1, bt270.2.2.2, false))) else (if a0_1 = a1_0 then (some (2, a0_1, a1_1, wrap64 (a0_3 + 1), false)) else (some (1, a0_1, a0_2, wrap64 (a0_3 + 1), false)))) = some (r1, r2, r3, r4, r5) := by rw [if_pos rfl] at H; exact H
     clear H
     have H := H1
     clear H1
     by_cases c49 : a0_3 = a1_2
     ·rw [if_pos c49] at H
      have c49b0 : (a0_3 == a1_2) = true := beq_iff_eq.mpr c49
      have c49b1 : (a0_3 != a1_2) = false := bne_eq_false_iff_eq.mpr c49
      clear c49
      replace H := Option.bind_eq_some_iff.mp H
      obtain ⟨⟨t270, t271, t272, t273⟩, A500, H⟩ := H
      replace H : (some (t270, t271, t272, t273, false)) = some (r1, r2, r3, r4, r5) := H
      have A50 := Aside0.mk A500
      clear A500
      simp only [Option.some.injEq, Prod.mk.injEq] at H
      obtain ⟨rfl, rfl, rfl, rfl, rfl⟩ := H
      go_enter Try.func58, Try.ntmps58
      go_wp2_with (first | ((with_reducible refine gate_dst (N := 3) rfl ?_); refine bxe (cs := #[.int .i64 a0_0, .int .i64 a0_1, .int .i64 a0_2, .int .i64 a0_3]) (t := 37) ?_; intro gb267 hg w51 hbox hb; have BK267 := Aside0.mk (hbox); have GW267 := Aside0.mk (bge hg HB.out); have GE267 := Aside0.mk (bge hg HB.out); replace HB := Aside0.mk (bst HB.out hb); clear hb hbox hg) | ((with_reducible refine gate_dst (N := 4) rfl ?_); refine bxe (cs := #[.int .i64 a1_0, .int .i64 a1_1, .int .i64 a1_2]) (t := 23) ?_; intro gb268 hg w52 hbox hb; have BK268 := Aside0.mk (hbox); have GW268 := Aside0.mk (bge hg HB.out); have GE268 := Aside0.mk (bge hg HB.out); have NB267_268 := Aside0.mk ((bkl hg BK267.out)); have NB268_267 := Aside0.mk ((bkg hg BK267.out)); replace BK267 := Aside0.mk (bkb BK267.out hb); replace HB := Aside0.mk (bst HB.out hb); clear hb hbox hg) | ((with_reducible refine gate_dst (N := 6) rfl ?_); refine bxe (cs := #[.int .i64 0, .int .i64 0, .int .i64 0, .int .i64 0]) (t := 37) ?_; intro gb269 hg w53 hbox hb; have BK269 := Aside0.mk (hbox); have GW269 := Aside0.mk (bge hg HB.out); have GE269 := Aside0.mk (bge hg HB.out); have NB267_269 := Aside0.mk ((bkl hg BK267.out)); have NB269_267 := Aside0.mk ((bkg hg BK267.out)); have NB268_269 := Aside0.mk ((bkl hg BK268.out)); have NB269_268 := Aside0.mk ((bkg hg BK268.out)); replace BK267 := Aside0.mk (bkb BK267.out hb); replace BK268 := Aside0.mk (bkb BK268.out hb); replace HB := Aside0.mk (bst HB.out hb); clear hb hbox hg; have hnb54 := NB267_268.out; have hnc54 := NB268_267.out; have hnb55 := NB267_269.out; have hnc55 := NB269_267.out; have hcz56_0 := cz4 BK267.out; have hfz56_0 := blk_frozen BK267.out; have hnb57 := NB268_269.out; have hnc57 := NB269_268.out; have hcz58_0 := cz3 BK268.out; have hfz58_0 := blk_frozen BK268.out) | ((with_reducible refine gate_callee (f := 62) rfl ?_); refine gsl (some 51) Try.func62 #[.agg #[.int .i64 4, .int .i64 a0_1, .int .i64 a0_2, .int .i64 a0_3]] ?_; (with_reducible refine (r18_fall.calls 4 a0_1 a0_2 a0_3 t270 t271 t272 t273 _ A50.out).mono ?_); rintro e w59 ⟨rfl, hb⟩; refine ⟨_, rfl, ?_⟩; replace BK267 := Aside0.mk (blk_below (g := gb267) (o := .cells #[.int .i64 4, .int .i64 a0_1, .int .i64 a0_2, .int .i64 a0_3] 37 (0, 0)) (bkt BK267.out) hb); replace BK268 := Aside0.mk (bkb BK268.out hb); replace BK269 := Aside0.mk (bkb BK269.out hb); replace HB := Aside0.mk (bst HB.out hb); (try clear hb); (try clear hb2); (try clear hk); (try clear hi); have hcz60_0 := cz4 BK269.out; have hfz60_0 := blk_frozen BK269.out))
      refine bodyPost_ret (results_ct rfl _ _ gb269 37 #[.int .i64 t270, .int .i64 t271, .int .i64 t272, .int .i64 t273] (0, 0) _ rfl (bkt BK269.out) Try.underlying37 rfl (by kernel_rfl)) rfl ?_
      exact bfin (bel HB.out)
     ·rw [if_neg c49] at H
      have c49b0 : (a0_3 == a1_2) = false := beq_eq_false_iff_ne.mpr c49
      have c49b1 : (a0_3 != a1_2) = true := bne_iff_ne.mpr c49
      by_cases c61 : a0_1 = a1_0
      ·rw [if_pos c61] at H
       have c61b0 : (a0_1 == a1_0) = true := beq_iff_eq.mpr c61
       have c61b1 : (a0_1 != a1_0) = false := bne_eq_false_iff_eq.mpr c61
       clear c61
       simp only [Option.some.injEq, Prod.mk.injEq] at H
       obtain ⟨rfl, rfl, rfl, rfl, rfl⟩ := H
       go_enter Try.func58, Try.ntmps58
       try go_wp2_with (first | ((with_reducible refine gate_dst (N := 3) rfl ?_); refine bxe (cs := #[.int .i64 a0_0, .int .i64 a0_1, .int .i64 a0_2, .int .i64 a0_3]) (t := 37) ?_; intro gb267 hg w62 hbox hb; have BK267 := Aside0.mk (hbox); have GW267 := Aside0.mk (bge hg HB.out); have GE267 := Aside0.mk (bge hg HB.out); replace HB := Aside0.mk (bst HB.out hb); clear hb hbox hg) | ((with_reducible refine gate_dst (N := 4) rfl ?_); refine bxe (cs := #[.int .i64 a1_0, .int .i64 a1_1, .int .i64 a1_2]) (t := 23) ?_; intro gb268 hg w63 hbox hb; have BK268 := Aside0.mk (hbox); have GW268 := Aside0.mk (bge hg HB.out); have GE268 := Aside0.mk (bge hg HB.out); have NB267_268 := Aside0.mk ((bkl hg BK267.out)); have NB268_267 := Aside0.mk ((bkg hg BK267.out)); replace BK267 := Aside0.mk (bkb BK267.out hb); replace HB := Aside0.mk (bst HB.out hb); clear hb hbox hg) | ((with_reducible refine gate_dst (N := 6) rfl ?_); refine bxe (cs := #[.int .i64 0, .int .i64 0, .int .i64 0, .int .i64 0]) (t := 37) ?_; intro gb269 hg w64 hbox hb; have BK269 := Aside0.mk (hbox); have GW269 := Aside0.mk (bge hg HB.out); have GE269 := Aside0.mk (bge hg HB.out); have NB267_269 := Aside0.mk ((bkl hg BK267.out)); have NB269_267 := Aside0.mk ((bkg hg BK267.out)); have NB268_269 := Aside0.mk ((bkl hg BK268.out)); have NB269_268 := Aside0.mk ((bkg hg BK268.out)); replace BK267 := Aside0.mk (bkb BK267.out hb); replace BK268 := Aside0.mk (bkb BK268.out hb); replace HB := Aside0.mk (bst HB.out hb); clear hb hbox hg; have hnb65 := NB267_268.out; have hnc65 := NB268_267.out; have hnb66 := NB267_269.out; have hnc66 := NB269_267.out; have hcz67_0 := cz4 BK267.out; have hfz67_0 := blk_frozen BK267.out; have hnb68 := NB268_269.out; have hnc68 := NB269_268.out; have hcz69_0 := cz3 BK268.out; have hfz69_0 := blk_frozen BK268.out))
       have n0_ : Aside0 (((w64.setCell ⟨gb267, 3, none⟩ (.int .i64 (wrap64 (a0_3 + 1)))).setCell ⟨gb267, 0, none⟩ (.int .i64 1)).heap[gb267]? = some (.cells #[.int .i64 1, .int .i64 a0_1, .int .i64 a0_2, .int .i64 (wrap64 (a0_3 + 1))] 37 (0, 0))) := ⟨bkt BK267.out⟩
       have n1_ : Aside0 (((w64.setCell ⟨gb267, 3, none⟩ (.int .i64 (wrap64 (a0_3 + 1)))).setCell ⟨gb267, 0, none⟩ (.int .i64 1)).heap[gb268]? = some (.cells #[.int .i64 a1_0, .int .i64 a1_1, .int .i64 a1_2] 23 (0, 0))) := ⟨bkt BK268.out⟩
       have n2_ : Aside0 (((w64.setCell ⟨gb267, 3, none⟩ (.int .i64 (wrap64 (a0_3 + 1)))).setCell ⟨gb267, 0, none⟩ (.int .i64 1)).heap[gb269]? = some (.cells #[.int .i64 0, .int .i64 0, .int .i64 0, .int .i64 0] 37 (0, 0))) := ⟨bkt BK269.out⟩
       have n3_ : Aside0 (Below w.heap.size w ((w64.setCell ⟨gb267, 3, none⟩ (.int .i64 (wrap64 (a0_3 + 1)))).setCell ⟨gb267, 0, none⟩ (.int .i64 1))) := ⟨bel HB.out⟩
       (try clear BK267)
       (try clear BK268)
       (try clear BK269)
       (try clear HB)
       generalize ((w64.setCell ⟨gb267, 3, none⟩ (.int .i64 (wrap64 (a0_3 + 1)))).setCell ⟨gb267, 0, none⟩ (.int .i64 1)) = w70 at n0_ n1_ n2_ n3_ ⊢
       have BK267 := n0_
       have BK268 := n1_
       have BK269 := n2_
       have HB := n3_
       clear n0_ n1_ n2_ n3_
       have n0_ := Aside0.mk (blk_drew BK267.out)
       have n1_ := Aside0.mk (blk_drew BK268.out)
       have n2_ := Aside0.mk (blk_drew BK269.out)
       have n3_ := Aside0.mk (below_drew1 HB.out)
       clear BK267
       clear BK268
       clear BK269
       clear HB
       have BK267 := n0_
       have BK268 := n1_
       have BK269 := n2_
       have HB := n3_
       clear n0_ n1_ n2_ n3_
       refine start_ (n := 6) (S := fun w' => w'.cell? ⟨gb268, 0, none⟩ = some (.int .i64 a1_0) ∧ w'.cell? ⟨gb268, 1, none⟩ = some (.int .i64 a1_1) ∧ w'.cell? ⟨gb268, 2, none⟩ = some (.int .i64 a1_2)) (ds := []) #[false, false, false, false, false, false] (by kernel_rfl) rfl rfl ⟨(blk_cell BK268.out 0).trans rfl, (blk_cell BK268.out 1).trans rfl, (blk_cell BK268.out 2).trans rfl⟩ (fun hHeld => ?_)
       generalize w70.drew = w71 at BK267 BK268 BK269 HB hHeld ⊢
       refine purk 0 (some 62) #[true, false, false, false, false, false] ?_
       refine purk 2 (some 64) #[true, false, true, false, false, false] ?_
       refine take_ (i := 1) (N := some 63) (v := ?_) (a' := ?_) #[true, true, true, false, false, false] rfl rfl (by kernel_rfl) (fun _ _ _ h => h) (Or.inl ⟨by rfl, ?_⟩) hHeld ?_ ?_
       rotate_left
       ·rintro w' ⟨s0, s1, s2⟩
        go_simp
        with_reducible rfl
       rotate_left
       ·simp only [Act.put, List.setIfInBounds_toArray, List.set_cons_zero, List.set_cons_succ, i64_w, i32_w]
        rfl
       refine one_ (i := 3) (N := none) #[true, true, true, true, false, false] rfl rfl (by kernel_rfl) (by decide) (fun K hK => ?_)
       have hs72 : w71.cell? ⟨gb267, 0, none⟩ = some (.int .i64 1) := (blk_cell BK267.out 0).trans rfl
       have hfs72 := blk_frozen BK267.out 0
       have hns72_1 := NB268_267.out
       have hns72_2 := NB269_267.out
       have hms72_1 := NB267_268.out
       have hms72_2 := NB267_269.out
       refine skip_ (w1 := ?_) (by rfl) rfl ?_ ?_
       rotate_left
       ·go_simp
        rfl
       refine hK.out _ _ ⟨(clr hHeld.1), (clr hHeld.2.1), (clr hHeld.2.2)⟩ (fun hHeld => ?_)
       clear hK K
       refine purk 4 (some 65) #[true, true, true, true, true, false] ?_
       refine one_ (i := 5) (N := none) #[true, true, true, true, true, true] rfl rfl (by kernel_rfl) (by decide) (fun K hK => ?_)
       have hs73 : w71.cell? ⟨gb267, 2, none⟩ = some (.int .i64 a0_2) := (blk_cell BK267.out 2).trans rfl
       have hfs73 := blk_frozen BK267.out 2
       have hns73_1 := NB268_267.out
       have hns73_2 := NB269_267.out
       have hms73_1 := NB267_268.out
       have hms73_2 := NB267_269.out
       refine skip_ (w1 := ?_) (by rfl) rfl ?_ ?_
       rotate_left
       ·go_simp
        rfl
       refine hK.out _ _ ⟨(clr hHeld.1), (clr hHeld.2.1), (clr hHeld.2.2)⟩ (fun hHeld => ?_)
       clear hK K
       refine done_ (by kernel_rfl) ?_
       have hcz74_0 := cz4 BK267.out
       have hfz74_0 := blk_frozen BK267.out
       have hcz75_0 := cz4 BK269.out
       have hfz75_0 := blk_frozen BK269.out
       try go_wp2
       refine bodyPost_ret (results_ct rfl _ _ gb269 37 #[.int .i64 2, .int .i64 a0_1, .int .i64 a1_1, .int .i64 (wrap64 (a0_3 + 1))] (0, 0) _ rfl (bkt BK269.out) Try.underlying37 rfl (by kernel_rfl)) rfl ?_
       exact bfin (bel HB.out)
      ·rw [if_neg c61] at H
       have c61b0 : (a0_1 == a1_0) = false := beq_eq_false_iff_ne.mpr c61
       have c61b1 : (a0_1 != a1_0) = true := bne_iff_ne.mpr c61
       simp only [Option.some.injEq, Prod.mk.injEq] at H
       obtain ⟨rfl, rfl, rfl, rfl, rfl⟩ := H
       go_enter Try.func58, Try.ntmps58
       go_wp2_with (first | ((with_reducible refine gate_dst (N := 3) rfl ?_); refine bxe (cs := #[.int .i64 a0_0, .int .i64 a0_1, .int .i64 a0_2, .int .i64 a0_3]) (t := 37) ?_; intro gb267 hg w76 hbox hb; have BK267 := Aside0.mk (hbox); have GW267 := Aside0.mk (bge hg HB.out); have GE267 := Aside0.mk (bge hg HB.out); replace HB := Aside0.mk (bst HB.out hb); clear hb hbox hg) | ((with_reducible refine gate_dst (N := 4) rfl ?_); refine bxe (cs := #[.int .i64 a1_0, .int .i64 a1_1, .int .i64 a1_2]) (t := 23) ?_; intro gb268 hg w77 hbox hb; have BK268 := Aside0.mk (hbox); have GW268 := Aside0.mk (bge hg HB.out); have GE268 := Aside0.mk (bge hg HB.out); have NB267_268 := Aside0.mk ((bkl hg BK267.out)); have NB268_267 := Aside0.mk ((bkg hg BK267.out)); replace BK267 := Aside0.mk (bkb BK267.out hb); replace HB := Aside0.mk (bst HB.out hb); clear hb hbox hg) | ((with_reducible refine gate_dst (N := 6) rfl ?_); refine bxe (cs := #[.int .i64 0, .int .i64 0, .int .i64 0, .int .i64 0]) (t := 37) ?_; intro gb269 hg w78 hbox hb; have BK269 := Aside0.mk (hbox); have GW269 := Aside0.mk (bge hg HB.out); have GE269 := Aside0.mk (bge hg HB.out); have NB267_269 := Aside0.mk ((bkl hg BK267.out)); have NB269_267 := Aside0.mk ((bkg hg BK267.out)); have NB268_269 := Aside0.mk ((bkl hg BK268.out)); have NB269_268 := Aside0.mk ((bkg hg BK268.out)); replace BK267 := Aside0.mk (bkb BK267.out hb); replace BK268 := Aside0.mk (bkb BK268.out hb); replace HB := Aside0.mk (bst HB.out hb); clear hb hbox hg; have hnb79 := NB267_268.out; have hnc79 := NB268_267.out; have hnb80 := NB267_269.out; have hnc80 := NB269_267.out; have hcz81_0 := cz4 BK267.out; have hfz81_0 := blk_frozen BK267.out; have hnb82 := NB268_269.out; have hnc82 := NB269_268.out; have hcz83_0 := cz3 BK268.out; have hfz83_0 := blk_frozen BK268.out; have hcz84_0 := cz4 BK269.out; have hfz84_0 := blk_frozen BK269.out))
       refine bodyPost_ret (results_ct rfl _ _ gb269 37 #[.int .i64 1, .int .i64 a0_1, .int .i64 a0_2, .int .i64 (wrap64 (a0_3 + 1))] (0, 0) _ rfl (bkt BK269.out) Try.underlying37 rfl (by kernel_rfl)) rfl ?_
       exact bfin (bel HB.out)
    ·replace c48 := Bool.eq_false_iff.mpr c48
     subst c48
     have H1 : ((r18_fall.f a0_0 a0_1 a0_2 a0_3).bind fun bt274 => (some (bt274.1, bt274.2.1, bt274.2.2.1, bt274.2.2.2, false))) = some (r1, r2, r3, r4, r5) := by rw [if_neg (show ¬ (false = true) by decide)] at H; exact H
     clear H
     have H := H1
     clear H1
     replace H := Option.bind_eq_some_iff.mp H
     obtain ⟨⟨t274, t275, t276, t277⟩, A850, H⟩ := H
     replace H : (some (t274, t275, t276, t277, false)) = some (r1, r2, r3, r4, r5) := H
     have A85 := Aside0.mk A850
     clear A850
     simp only [Option.some.injEq, Prod.mk.injEq] at H
     obtain ⟨rfl, rfl, rfl, rfl, rfl⟩ := H
     go_enter Try.func58, Try.ntmps58
     go_wp2_with (first | ((with_reducible refine gate_dst (N := 3) rfl ?_); refine bxe (cs := #[.int .i64 a0_0, .int .i64 a0_1, .int .i64 a0_2, .int .i64 a0_3]) (t := 37) ?_; intro gb267 hg w86 hbox hb; have BK267 := Aside0.mk (hbox); have GW267 := Aside0.mk (bge hg HB.out); have GE267 := Aside0.mk (bge hg HB.out); replace HB := Aside0.mk (bst HB.out hb); clear hb hbox hg) | ((with_reducible refine gate_dst (N := 4) rfl ?_); refine bxe (cs := #[.int .i64 a1_0, .int .i64 a1_1, .int .i64 a1_2]) (t := 23) ?_; intro gb268 hg w87 hbox hb; have BK268 := Aside0.mk (hbox); have GW268 := Aside0.mk (bge hg HB.out); have GE268 := Aside0.mk (bge hg HB.out); have NB267_268 := Aside0.mk ((bkl hg BK267.out)); have NB268_267 := Aside0.mk ((bkg hg BK267.out)); replace BK267 := Aside0.mk (bkb BK267.out hb); replace HB := Aside0.mk (bst HB.out hb); clear hb hbox hg) | ((with_reducible refine gate_dst (N := 6) rfl ?_); refine bxe (cs := #[.int .i64 0, .int .i64 0, .int .i64 0, .int .i64 0]) (t := 37) ?_; intro gb269 hg w88 hbox hb; have BK269 := Aside0.mk (hbox); have GW269 := Aside0.mk (bge hg HB.out); have GE269 := Aside0.mk (bge hg HB.out); have NB267_269 := Aside0.mk ((bkl hg BK267.out)); have NB269_267 := Aside0.mk ((bkg hg BK267.out)); have NB268_269 := Aside0.mk ((bkl hg BK268.out)); have NB269_268 := Aside0.mk ((bkg hg BK268.out)); replace BK267 := Aside0.mk (bkb BK267.out hb); replace BK268 := Aside0.mk (bkb BK268.out hb); replace HB := Aside0.mk (bst HB.out hb); clear hb hbox hg; have hnb89 := NB267_268.out; have hnc89 := NB268_267.out; have hnb90 := NB267_269.out; have hnc90 := NB269_267.out; have hcz91_0 := cz4 BK267.out; have hfz91_0 := blk_frozen BK267.out) | ((with_reducible refine gate_callee (f := 62) rfl ?_); refine gsl (some 42) Try.func62 #[.agg #[.int .i64 a0_0, .int .i64 a0_1, .int .i64 a0_2, .int .i64 a0_3]] ?_; (with_reducible refine (r18_fall.calls a0_0 a0_1 a0_2 a0_3 t274 t275 t276 t277 _ A85.out).mono ?_); rintro e w92 ⟨rfl, hb⟩; refine ⟨_, rfl, ?_⟩; replace BK267 := Aside0.mk (bkb BK267.out hb); replace BK268 := Aside0.mk (bkb BK268.out hb); replace BK269 := Aside0.mk (bkb BK269.out hb); replace HB := Aside0.mk (bst HB.out hb); (try clear hb); (try clear hb2); (try clear hk); (try clear hi); have hnb93 := NB269_268.out; have hnc93 := NB268_269.out; have hcz94_0 := cz4 BK269.out; have hfz94_0 := blk_frozen BK269.out))
     refine bodyPost_ret (results_ct rfl _ _ gb269 37 #[.int .i64 t274, .int .i64 t275, .int .i64 t276, .int .i64 t277] (0, 0) _ rfl (bkt BK269.out) Try.underlying37 rfl (by kernel_rfl)) rfl ?_
     exact bfin (bel HB.out)
   ·rw [if_neg c47] at H
    have c47b0 : (a0_0 == 3) = false := beq_eq_false_iff_ne.mpr c47
    have c47b1 : (a0_0 != 3) = true := bne_iff_ne.mpr c47
    by_cases c95 : a0_0 = 4
    ·rw [if_pos c95] at H
     have c95b0 : (a0_0 == 4) = true := beq_iff_eq.mpr c95
     have c95b1 : (a0_0 != 4) = false := bne_eq_false_iff_eq.mpr c95
     clear c95
     replace H := Option.bind_eq_some_iff.mp H
     obtain ⟨⟨t278, t279, t280, t281⟩, A960, H⟩ := H
     replace H : (some (t278, t279, t280, t281, false)) = some (r1, r2, r3, r4, r5) := H
     have A96 := Aside0.mk A960
     clear A960
     simp only [Option.some.injEq, Prod.mk.injEq] at H
     obtain ⟨rfl, rfl, rfl, rfl, rfl⟩ := H
     go_enter Try.func58, Try.ntmps58
     go_wp2_with (first | ((with_reducible refine gate_dst (N := 3) rfl ?_); refine bxe (cs := #[.int .i64 a0_0, .int .i64 a0_1, .int .i64 a0_2, .int .i64 a0_3]) (t := 37) ?_; intro gb267 hg w97 hbox hb; have BK267 := Aside0.mk (hbox); have GW267 := Aside0.mk (bge hg HB.out); have GE267 := Aside0.mk (bge hg HB.out); replace HB := Aside0.mk (bst HB.out hb); clear hb hbox hg) | ((with_reducible refine gate_dst (N := 4) rfl ?_); refine bxe (cs := #[.int .i64 a1_0, .int .i64 a1_1, .int .i64 a1_2]) (t := 23) ?_; intro gb268 hg w98 hbox hb; have BK268 := Aside0.mk (hbox); have GW268 := Aside0.mk (bge hg HB.out); have GE268 := Aside0.mk (bge hg HB.out); have NB267_268 := Aside0.mk ((bkl hg BK267.out)); have NB268_267 := Aside0.mk ((bkg hg BK267.out)); replace BK267 := Aside0.mk (bkb BK267.out hb); replace HB := Aside0.mk (bst HB.out hb); clear hb hbox hg) | ((with_reducible refine gate_dst (N := 6) rfl ?_); refine bxe (cs := #[.int .i64 0, .int .i64 0, .int .i64 0, .int .i64 0]) (t := 37) ?_; intro gb269 hg w99 hbox hb; have BK269 := Aside0.mk (hbox); have GW269 := Aside0.mk (bge hg HB.out); have GE269 := Aside0.mk (bge hg HB.out); have NB267_269 := Aside0.mk ((bkl hg BK267.out)); have NB269_267 := Aside0.mk ((bkg hg BK267.out)); have NB268_269 := Aside0.mk ((bkl hg BK268.out)); have NB269_268 := Aside0.mk ((bkg hg BK268.out)); replace BK267 := Aside0.mk (bkb BK267.out hb); replace BK268 := Aside0.mk (bkb BK268.out hb); replace HB := Aside0.mk (bst HB.out hb); clear hb hbox hg; have hnb100 := NB267_268.out; have hnc100 := NB268_267.out; have hnb101 := NB267_269.out; have hnc101 := NB269_267.out; have hcz102_0 := cz4 BK267.out; have hfz102_0 := blk_frozen BK267.out) | ((with_reducible refine gate_callee (f := 62) rfl ?_); refine gsl (some 70) Try.func62 #[.agg #[.int .i64 a0_0, .int .i64 a0_1, .int .i64 a0_2, .int .i64 a0_3]] ?_; (with_reducible refine (r18_fall.calls a0_0 a0_1 a0_2 a0_3 t278 t279 t280 t281 _ A96.out).mono ?_); rintro e w103 ⟨rfl, hb⟩; refine ⟨_, rfl, ?_⟩; replace BK267 := Aside0.mk (bkb BK267.out hb); replace BK268 := Aside0.mk (bkb BK268.out hb); replace BK269 := Aside0.mk (bkb BK269.out hb); replace HB := Aside0.mk (bst HB.out hb); (try clear hb); (try clear hb2); (try clear hk); (try clear hi); have hnb104 := NB269_268.out; have hnc104 := NB268_269.out; have hcz105_0 := cz4 BK269.out; have hfz105_0 := blk_frozen BK269.out))
     refine bodyPost_ret (results_ct rfl _ _ gb269 37 #[.int .i64 t278, .int .i64 t279, .int .i64 t280, .int .i64 t281] (0, 0) _ rfl (bkt BK269.out) Try.underlying37 rfl (by kernel_rfl)) rfl ?_
     exact bfin (bel HB.out)
    ·rw [if_neg c95] at H
     have c95b0 : (a0_0 == 4) = false := beq_eq_false_iff_ne.mpr c95
     have c95b1 : (a0_0 != 4) = true := bne_iff_ne.mpr c95
     by_cases c106 : a0_0 = 5
     ·rw [if_pos c106] at H
      have c106b0 : (a0_0 == 5) = true := beq_iff_eq.mpr c106
      have c106b1 : (a0_0 != 5) = false := bne_eq_false_iff_eq.mpr c106
      clear c106
      replace H := Option.bind_eq_some_iff.mp H
      obtain ⟨⟨t282, t283, t284, t285⟩, A1070, H⟩ := H
      replace H : (some (t282, t283, t284, t285, false)) = some (r1, r2, r3, r4, r5) := H
      have A107 := Aside0.mk A1070
      clear A1070
      simp only [Option.some.injEq, Prod.mk.injEq] at H
      obtain ⟨rfl, rfl, rfl, rfl, rfl⟩ := H
      go_enter Try.func58, Try.ntmps58
      go_wp2_with (first | ((with_reducible refine gate_dst (N := 3) rfl ?_); refine bxe (cs := #[.int .i64 a0_0, .int .i64 a0_1, .int .i64 a0_2, .int .i64 a0_3]) (t := 37) ?_; intro gb267 hg w108 hbox hb; have BK267 := Aside0.mk (hbox); have GW267 := Aside0.mk (bge hg HB.out); have GE267 := Aside0.mk (bge hg HB.out); replace HB := Aside0.mk (bst HB.out hb); clear hb hbox hg) | ((with_reducible refine gate_dst (N := 4) rfl ?_); refine bxe (cs := #[.int .i64 a1_0, .int .i64 a1_1, .int .i64 a1_2]) (t := 23) ?_; intro gb268 hg w109 hbox hb; have BK268 := Aside0.mk (hbox); have GW268 := Aside0.mk (bge hg HB.out); have GE268 := Aside0.mk (bge hg HB.out); have NB267_268 := Aside0.mk ((bkl hg BK267.out)); have NB268_267 := Aside0.mk ((bkg hg BK267.out)); replace BK267 := Aside0.mk (bkb BK267.out hb); replace HB := Aside0.mk (bst HB.out hb); clear hb hbox hg) | ((with_reducible refine gate_dst (N := 6) rfl ?_); refine bxe (cs := #[.int .i64 0, .int .i64 0, .int .i64 0, .int .i64 0]) (t := 37) ?_; intro gb269 hg w110 hbox hb; have BK269 := Aside0.mk (hbox); have GW269 := Aside0.mk (bge hg HB.out); have GE269 := Aside0.mk (bge hg HB.out); have NB267_269 := Aside0.mk ((bkl hg BK267.out)); have NB269_267 := Aside0.mk ((bkg hg BK267.out)); have NB268_269 := Aside0.mk ((bkl hg BK268.out)); have NB269_268 := Aside0.mk ((bkg hg BK268.out)); replace BK267 := Aside0.mk (bkb BK267.out hb); replace BK268 := Aside0.mk (bkb BK268.out hb); replace HB := Aside0.mk (bst HB.out hb); clear hb hbox hg; have hnb111 := NB267_268.out; have hnc111 := NB268_267.out; have hnb112 := NB267_269.out; have hnc112 := NB269_267.out; have hcz113_0 := cz4 BK267.out; have hfz113_0 := blk_frozen BK267.out) | ((with_reducible refine gate_callee (f := 62) rfl ?_); refine gsl (some 70) Try.func62 #[.agg #[.int .i64 a0_0, .int .i64 a0_1, .int .i64 a0_2, .int .i64 a0_3]] ?_; (with_reducible refine (r18_fall.calls a0_0 a0_1 a0_2 a0_3 t282 t283 t284 t285 _ A107.out).mono ?_); rintro e w114 ⟨rfl, hb⟩; refine ⟨_, rfl, ?_⟩; replace BK267 := Aside0.mk (bkb BK267.out hb); replace BK268 := Aside0.mk (bkb BK268.out hb); replace BK269 := Aside0.mk (bkb BK269.out hb); replace HB := Aside0.mk (bst HB.out hb); (try clear hb); (try clear hb2); (try clear hk); (try clear hi); have hnb115 := NB269_268.out; have hnc115 := NB268_269.out; have hcz116_0 := cz4 BK269.out; have hfz116_0 := blk_frozen BK269.out))
      refine bodyPost_ret (results_ct rfl _ _ gb269 37 #[.int .i64 t282, .int .i64 t283, .int .i64 t284, .int .i64 t285] (0, 0) _ rfl (bkt BK269.out) Try.underlying37 rfl (by kernel_rfl)) rfl ?_
      exact bfin (bel HB.out)
     ·rw [if_neg c106] at H
      have c106b0 : (a0_0 == 5) = false := beq_eq_false_iff_ne.mpr c106
      have c106b1 : (a0_0 != 5) = true := bne_iff_ne.mpr c106
      simp only [Option.some.injEq, Prod.mk.injEq] at H
      obtain ⟨rfl, rfl, rfl, rfl, rfl⟩ := H
      go_enter Try.func58, Try.ntmps58
      go_wp2_with (first | ((with_reducible refine gate_dst (N := 3) rfl ?_); refine bxe (cs := #[.int .i64 a0_0, .int .i64 a0_1, .int .i64 a0_2, .int .i64 a0_3]) (t := 37) ?_; intro gb267 hg w117 hbox hb; have BK267 := Aside0.mk (hbox); have GW267 := Aside0.mk (bge hg HB.out); have GE267 := Aside0.mk (bge hg HB.out); replace HB := Aside0.mk (bst HB.out hb); clear hb hbox hg) | ((with_reducible refine gate_dst (N := 4) rfl ?_); refine bxe (cs := #[.int .i64 a1_0, .int .i64 a1_1, .int .i64 a1_2]) (t := 23) ?_; intro gb268 hg w118 hbox hb; have BK268 := Aside0.mk (hbox); have GW268 := Aside0.mk (bge hg HB.out); have GE268 := Aside0.mk (bge hg HB.out); have NB267_268 := Aside0.mk ((bkl hg BK267.out)); have NB268_267 := Aside0.mk ((bkg hg BK267.out)); replace BK267 := Aside0.mk (bkb BK267.out hb); replace HB := Aside0.mk (bst HB.out hb); clear hb hbox hg) | ((with_reducible refine gate_dst (N := 6) rfl ?_); refine bxe (cs := #[.int .i64 0, .int .i64 0, .int .i64 0, .int .i64 0]) (t := 37) ?_; intro gb269 hg w119 hbox hb; have BK269 := Aside0.mk (hbox); have GW269 := Aside0.mk (bge hg HB.out); have GE269 := Aside0.mk (bge hg HB.out); have NB267_269 := Aside0.mk ((bkl hg BK267.out)); have NB269_267 := Aside0.mk ((bkg hg BK267.out)); have NB268_269 := Aside0.mk ((bkl hg BK268.out)); have NB269_268 := Aside0.mk ((bkg hg BK268.out)); replace BK267 := Aside0.mk (bkb BK267.out hb); replace BK268 := Aside0.mk (bkb BK268.out hb); replace HB := Aside0.mk (bst HB.out hb); clear hb hbox hg; have hnb120 := NB267_268.out; have hnc120 := NB268_267.out; have hnb121 := NB267_269.out; have hnc121 := NB269_267.out; have hcz122_0 := cz4 BK267.out; have hfz122_0 := blk_frozen BK267.out; have hnb123 := NB269_268.out; have hnc123 := NB268_269.out; have hcz124_0 := cz4 BK269.out; have hfz124_0 := blk_frozen BK269.out))
      refine bodyPost_ret (results_ct rfl _ _ gb269 37 #[.int .i64 a0_0, .int .i64 a0_1, .int .i64 a0_2, .int .i64 a0_3] (0, 0) _ rfl (bkt BK269.out) Try.underlying37 rfl (by kernel_rfl)) rfl ?_
      exact bfin (bel HB.out)

end Go.Proofs.Ytmjmdnpenpdmhaa.P
