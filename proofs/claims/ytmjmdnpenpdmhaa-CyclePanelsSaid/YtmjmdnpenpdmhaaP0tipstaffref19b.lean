-- Printed by wip/myprint.py of this repo (over the kit's printer). Not trusted: Lean checks it.
import Derived.Test.YtmjmdnpenpdmhaaP0
import Derived.Test.YtmjmdnpenpdmhaaP0tipstaffref18a
import Derived.Test.YtmjmdnpenpdmhaaP0tipstaffref18c
import Derived.Test.YtmjmdnpenpdmhaaP0tipstaffref18d
import Derived.Test.YtmjmdnpenpdmhaaP0tipstaffref19a
namespace Go.Proofs.Ytmjmdnpenpdmhaa.P
open Go.RowKit Go.Proofs.YtmjmdnpenpdmhaaW.PrintWords Go.Proofs.YtmjmdnpenpdmhaaW.PrintLast Go.Proofs.YtmjmdnpenpdmhaaW.PrintMore
attribute [local go_sem] cell_same1 cell_some1
attribute [local go_sem] max2_int min2_int max_two min_two max_three min_three max_four min_four   -- for this text's walks alone
set_option linter.unusedVariables false
set_option linter.unusedSimpArgs false

/-! ### ref_Left: function 31 -/
def ref_Left.f (k : Nat) (a0_0 : Int) (a0_1 : Int) (a0_2 : Int) (a0_3 : Int) (a0_4 : Int) (a0_5 : Bool) (a1_0 : Int) (a1_1 : Int) (a1_2 : Int) : Option (Int × Int) := (ref_Check.f k a0_0 a0_1 a0_2 a0_3 a0_4 a0_5 a1_0 a1_1 a1_2).bind fun t333 => (if t333 = 0 then ((r18_Worst.f a1_0 a1_1 a1_2).bind fun bt334 => (some (wrap64 (bt334.1 - a0_4), 0))) else (some (0, t333)))
theorem ref_Left.mono : ∀ a0 a1 a2 a3 a4 a5 a6 a7 a8 k, LeO (ref_Left.f k a0 a1 a2 a3 a4 a5 a6 a7 a8) (ref_Left.f (k + 1) a0 a1 a2 a3 a4 a5 a6 a7 a8) := by
 intro a0 a1 a2 a3 a4 a5 a6 a7 a8 k
 unfold ref_Left.f
 repeat' first
   | (with_reducible exact ref_Check.mono _ _ _ _ _ _ _ _ _ _)
   | (with_reducible exact LeO.refl _)
   | (with_reducible exact LeO.none _)
   | (with_reducible refine LeO.ite ?_ ?_)
   | (with_reducible refine LeO.bind ?_ (fun _ => ?_))
   | exact ref_Check.mono _ _ _ _ _ _ _ _ _ _
   | exact LeO.none _
   | refine LeO.ite ?_ ?_
   | refine LeO.bind ?_ (fun _ => ?_)
set_option maxHeartbeats 8000000 in
set_option maxRecDepth 100000 in
theorem ref_Left.calls (k : Nat) (a0_0 : Int) (a0_1 : Int) (a0_2 : Int) (a0_3 : Int) (a0_4 : Int) (a0_5 : Bool) (a1_0 : Int) (a1_1 : Int) (a1_2 : Int) (r1 : Int) (r2 : Int) (w : World) (h : ref_Left.f k a0_0 a0_1 a0_2 a0_3 a0_4 a0_5 a1_0 a1_1 a1_2 = some (r1, r2)) :
  Calls Try.prog 31 #[.agg #[.int .i64 a0_0, .int .i64 a0_1, .int .i64 a0_2, .int .i64 a0_3, .int .i64 a0_4, .bool a0_5], .agg #[.int .i64 a1_0, .int .i64 a1_1, .int .i64 a1_2]] w fun e w' => e = .returned (.tuple #[.int .i64 r1, .int .i64 r2]) ∧ Below w.heap.size w w' := by
 have hu39 := Try.underlying39
 have hu23 := Try.underlying23
 have HB := Aside0.mk (Below.refl w.heap.size w)
 have H : ((ref_Check.f k a0_0 a0_1 a0_2 a0_3 a0_4 a0_5 a1_0 a1_1 a1_2).bind fun t333 => (if t333 = 0 then ((r18_Worst.f a1_0 a1_1 a1_2).bind fun bt334 => (some (wrap64 (bt334.1 - a0_4), 0))) else (some (0, t333)))) = some (r1, r2) := h
 clear h
 replace H := Option.bind_eq_some_iff.mp H
 obtain ⟨t333, A30, H⟩ := H
 replace H : (if t333 = 0 then ((r18_Worst.f a1_0 a1_1 a1_2).bind fun bt334 => (some (wrap64 (bt334.1 - a0_4), 0))) else (some (0, t333))) = some (r1, r2) := H
 have A3 := Aside0.mk A30
 clear A30
 by_cases c4 : t333 = 0
 ·rw [if_pos c4] at H
  have c4b0 : (t333 == 0) = true := beq_iff_eq.mpr c4
  have c4b1 : (t333 != 0) = false := bne_eq_false_iff_eq.mpr c4
  clear c4
  replace H := Option.bind_eq_some_iff.mp H
  obtain ⟨⟨t334, t335⟩, A50, H⟩ := H
  replace H : (some (wrap64 (t334 - a0_4), 0)) = some (r1, r2) := H
  have A5 := Aside0.mk A50
  clear A50
  simp only [Option.some.injEq, Prod.mk.injEq] at H
  obtain ⟨rfl, rfl⟩ := H
  go_enter Try.func31, Try.ntmps31
  go_wp2_with (first | ((with_reducible refine gate_dst (N := 2) rfl ?_); refine bxe (cs := #[.int .i64 a0_0, .int .i64 a0_1, .int .i64 a0_2, .int .i64 a0_3, .int .i64 a0_4, .bool a0_5]) (t := 39) ?_; intro gb331 hg w6 hbox hb; have BK331 := Aside0.mk (hbox); have GW331 := Aside0.mk (bge hg HB.out); have GE331 := Aside0.mk (bge hg HB.out); replace HB := Aside0.mk (bst HB.out hb); clear hb hbox hg) | ((with_reducible refine gate_dst (N := 3) rfl ?_); refine bxe (cs := #[.int .i64 a1_0, .int .i64 a1_1, .int .i64 a1_2]) (t := 23) ?_; intro gb332 hg w7 hbox hb; have BK332 := Aside0.mk (hbox); have GW332 := Aside0.mk (bge hg HB.out); have GE332 := Aside0.mk (bge hg HB.out); have NB331_332 := Aside0.mk ((bkl hg BK331.out)); have NB332_331 := Aside0.mk ((bkg hg BK331.out)); replace BK331 := Aside0.mk (bkb BK331.out hb); replace HB := Aside0.mk (bst HB.out hb); clear hb hbox hg; have hnb8 := NB331_332.out; have hnc8 := NB332_331.out; have hcz9_0 := cz6 BK331.out; have hfz9_0 := blk_frozen BK331.out; have hcz10_0 := cz3 BK332.out; have hfz10_0 := blk_frozen BK332.out) | ((with_reducible refine gate_callee (f := 27) rfl ?_); refine gsl (some 11) Try.func27 #[.agg #[.int .i64 a0_0, .int .i64 a0_1, .int .i64 a0_2, .int .i64 a0_3, .int .i64 a0_4, .bool a0_5], .agg #[.int .i64 a1_0, .int .i64 a1_1, .int .i64 a1_2]] ?_; (with_reducible refine (ref_Check.calls k a0_0 a0_1 a0_2 a0_3 a0_4 a0_5 a1_0 a1_1 a1_2 t333 _ A3.out).mono ?_); rintro e w11 ⟨rfl, hb⟩; refine ⟨_, rfl, ?_⟩; replace BK331 := Aside0.mk (bkb BK331.out hb); replace BK332 := Aside0.mk (bkb BK332.out hb); replace HB := Aside0.mk (bst HB.out hb); (try clear hb); (try clear hb2); (try clear hk); (try clear hi); have hcz12_0 := cz3 BK332.out; have hfz12_0 := blk_frozen BK332.out) | ((with_reducible refine gate_callee (f := 42) rfl ?_); refine gsl (some 17) Try.func42 #[.agg #[.int .i64 a1_0, .int .i64 a1_1, .int .i64 a1_2]] ?_; (with_reducible refine (r18_Worst.calls a1_0 a1_1 a1_2 t334 t335 _ A5.out).mono ?_); rintro e w13 ⟨rfl, hb⟩; refine ⟨_, rfl, ?_⟩; replace BK331 := Aside0.mk (bkb BK331.out hb); replace BK332 := Aside0.mk (bkb BK332.out hb); replace HB := Aside0.mk (bst HB.out hb); (try clear hb); (try clear hb2); (try clear hk); (try clear hi); have hcz14_0 := cz6 BK331.out; have hfz14_0 := blk_frozen BK331.out))
  go_ret2
  exact bfin (bel HB.out)
 ·rw [if_neg c4] at H
  have c4b0 : (t333 == 0) = false := beq_eq_false_iff_ne.mpr c4
  have c4b1 : (t333 != 0) = true := bne_iff_ne.mpr c4
  simp only [Option.some.injEq, Prod.mk.injEq] at H
  obtain ⟨rfl, rfl⟩ := H
  go_enter Try.func31, Try.ntmps31
  go_wp2_with (first | ((with_reducible refine gate_dst (N := 2) rfl ?_); refine bxe (cs := #[.int .i64 a0_0, .int .i64 a0_1, .int .i64 a0_2, .int .i64 a0_3, .int .i64 a0_4, .bool a0_5]) (t := 39) ?_; intro gb331 hg w15 hbox hb; have BK331 := Aside0.mk (hbox); have GW331 := Aside0.mk (bge hg HB.out); have GE331 := Aside0.mk (bge hg HB.out); replace HB := Aside0.mk (bst HB.out hb); clear hb hbox hg) | ((with_reducible refine gate_dst (N := 3) rfl ?_); refine bxe (cs := #[.int .i64 a1_0, .int .i64 a1_1, .int .i64 a1_2]) (t := 23) ?_; intro gb332 hg w16 hbox hb; have BK332 := Aside0.mk (hbox); have GW332 := Aside0.mk (bge hg HB.out); have GE332 := Aside0.mk (bge hg HB.out); have NB331_332 := Aside0.mk ((bkl hg BK331.out)); have NB332_331 := Aside0.mk ((bkg hg BK331.out)); replace BK331 := Aside0.mk (bkb BK331.out hb); replace HB := Aside0.mk (bst HB.out hb); clear hb hbox hg; have hnb17 := NB331_332.out; have hnc17 := NB332_331.out; have hcz18_0 := cz6 BK331.out; have hfz18_0 := blk_frozen BK331.out; have hcz19_0 := cz3 BK332.out; have hfz19_0 := blk_frozen BK332.out) | ((with_reducible refine gate_callee (f := 27) rfl ?_); refine gsl (some 11) Try.func27 #[.agg #[.int .i64 a0_0, .int .i64 a0_1, .int .i64 a0_2, .int .i64 a0_3, .int .i64 a0_4, .bool a0_5], .agg #[.int .i64 a1_0, .int .i64 a1_1, .int .i64 a1_2]] ?_; (with_reducible refine (ref_Check.calls k a0_0 a0_1 a0_2 a0_3 a0_4 a0_5 a1_0 a1_1 a1_2 t333 _ A3.out).mono ?_); rintro e w20 ⟨rfl, hb⟩; refine ⟨_, rfl, ?_⟩; replace BK331 := Aside0.mk (bkb BK331.out hb); replace BK332 := Aside0.mk (bkb BK332.out hb); replace HB := Aside0.mk (bst HB.out hb); (try clear hb); (try clear hb2); (try clear hk); (try clear hi)))
  go_ret2
  exact bfin (bel HB.out)

/-! ### ref_Step: function 28 -/
def ref_Step.j0 : Nat → Bool → Int → Bool → Int → Int → Int → Int → Int → Bool → Int → Int → Int → Option (Int × Int × Int × Int × Int × Bool × Bool × Int)
 | 0, _, _, _, _, _, _, _, _, _, _, _, _ => none
 | k + 1, x2, x10, x25, x347000, x347001, x347002, x347003, x347004, x347005, x348000, x348001, x348002 => if x25 = true then (some (0, 0, 0, 0, 0, false, false, 9)) else (if x10 = 0 then ((r18_Step.f k x347000 x347001 x347002 x347003 x348000 x348001 x348002 x2).bind fun bt351 => (some (bt351.1, bt351.2.1, bt351.2.2.1, bt351.2.2.2.1, wrap64 (x347004 + 1), x347005, bt351.2.2.2.2.1, 0))) else (some (0, 0, 0, 0, 0, false, false, x10)))
def ref_Step.f (k : Nat) (a0_0 : Int) (a0_1 : Int) (a0_2 : Int) (a0_3 : Int) (a0_4 : Int) (a0_5 : Bool) (a1_0 : Int) (a1_1 : Int) (a1_2 : Int) (a2 : Bool) : Option (Int × Int × Int × Int × Int × Bool × Bool × Int) := (ref_Left.f k a0_0 a0_1 a0_2 a0_3 a0_4 a0_5 a1_0 a1_1 a1_2).bind fun bt349 => (if bt349.2 = 0 then (ref_Step.j0 k a2 bt349.2 (bt349.1 == 0) a0_0 a0_1 a0_2 a0_3 a0_4 a0_5 a1_0 a1_1 a1_2) else (ref_Step.j0 k a2 bt349.2 false a0_0 a0_1 a0_2 a0_3 a0_4 a0_5 a1_0 a1_1 a1_2))
theorem ref_Step.mono_l : ∀ k, (∀ y0 y1 y2 y3 y4 y5 y6 y7 y8 y9 y10 y11, LeO (ref_Step.j0 k y0 y1 y2 y3 y4 y5 y6 y7 y8 y9 y10 y11) (ref_Step.j0 (k + 1) y0 y1 y2 y3 y4 y5 y6 y7 y8 y9 y10 y11))
 | 0 => fun _ _ _ _ _ _ _ _ _ _ _ _ r h => by simp [ref_Step.j0] at h
 | k + 1 => by
  have ih0 := ref_Step.mono_l k
  ·intro y0 y1 y2 y3 y4 y5 y6 y7 y8 y9 y10 y11
   unfold ref_Step.j0
   repeat' first
   | (with_reducible exact ih0 _ _ _ _ _ _ _ _ _ _ _ _)
   | (with_reducible exact r18_Step.mono _ _ _ _ _ _ _ _ _)
   | (with_reducible exact ref_Left.mono _ _ _ _ _ _ _ _ _ _)
   | (with_reducible exact LeO.refl _)
   | (with_reducible exact LeO.none _)
   | (with_reducible refine LeO.ite ?_ ?_)
   | (with_reducible refine LeO.bind ?_ (fun _ => ?_))
   | exact ih0 _ _ _ _ _ _ _ _ _ _ _ _
   | exact r18_Step.mono _ _ _ _ _ _ _ _ _
   | exact ref_Left.mono _ _ _ _ _ _ _ _ _ _
   | exact LeO.none _
   | refine LeO.ite ?_ ?_
   | refine LeO.bind ?_ (fun _ => ?_)
theorem ref_Step.mono : ∀ a0 a1 a2 a3 a4 a5 a6 a7 a8 a9 k, LeO (ref_Step.f k a0 a1 a2 a3 a4 a5 a6 a7 a8 a9) (ref_Step.f (k + 1) a0 a1 a2 a3 a4 a5 a6 a7 a8 a9) := by
 intro a0 a1 a2 a3 a4 a5 a6 a7 a8 a9 k
 have ih0 := ref_Step.mono_l k
 unfold ref_Step.f
 repeat' first
   | (with_reducible exact ih0 _ _ _ _ _ _ _ _ _ _ _ _)
   | (with_reducible exact r18_Step.mono _ _ _ _ _ _ _ _ _)
   | (with_reducible exact ref_Left.mono _ _ _ _ _ _ _ _ _ _)
   | (with_reducible exact LeO.refl _)
   | (with_reducible exact LeO.none _)
   | (with_reducible refine LeO.ite ?_ ?_)
   | (with_reducible refine LeO.bind ?_ (fun _ => ?_))
   | exact ih0 _ _ _ _ _ _ _ _ _ _ _ _
   | exact r18_Step.mono _ _ _ _ _ _ _ _ _
   | exact ref_Left.mono _ _ _ _ _ _ _ _ _ _
   | exact LeO.none _
   | refine LeO.ite ?_ ?_
   | refine LeO.bind ?_ (fun _ => ?_)
set_option maxHeartbeats 8000000 in
set_option maxRecDepth 100000 in
theorem ref_Step.calls (k : Nat) (a0_0 : Int) (a0_1 : Int) (a0_2 : Int) (a0_3 : Int) (a0_4 : Int) (a0_5 : Bool) (a1_0 : Int) (a1_1 : Int) (a1_2 : Int) (a2 : Bool) (r1 : Int) (r2 : Int) (r3 : Int) (r4 : Int) (r5 : Int) (r6 : Bool) (r7 : Bool) (r8 : Int) (w : World) (h : ref_Step.f k a0_0 a0_1 a0_2 a0_3 a0_4 a0_5 a1_0 a1_1 a1_2 a2 = some (r1, r2, r3, r4, r5, r6, r7, r8)) :
  Calls Try.prog 28 #[.agg #[.int .i64 a0_0, .int .i64 a0_1, .int .i64 a0_2, .int .i64 a0_3, .int .i64 a0_4, .bool a0_5], .agg #[.int .i64 a1_0, .int .i64 a1_1, .int .i64 a1_2], .bool a2] w fun e w' => e = .returned (.tuple #[.agg #[.int .i64 r1, .int .i64 r2, .int .i64 r3, .int .i64 r4, .int .i64 r5, .bool r6], .bool r7, .int .i64 r8]) ∧ Below w.heap.size w w' := by
 have hu39 := Try.underlying39
 have hu23 := Try.underlying23
 have hu37 := Try.underlying37
 have HB := Aside0.mk (Below.refl w.heap.size w)
 have H : ((ref_Left.f k a0_0 a0_1 a0_2 a0_3 a0_4 a0_5 a1_0 a1_1 a1_2).bind fun bt349 => (if bt349.2 = 0 then (ref_Step.j0 k a2 bt349.2 (bt349.1 == 0) a0_0 a0_1 a0_2 a0_3 a0_4 a0_5 a1_0 a1_1 a1_2) else (ref_Step.j0 k a2 bt349.2 false a0_0 a0_1 a0_2 a0_3 a0_4 a0_5 a1_0 a1_1 a1_2))) = some (r1, r2, r3, r4, r5, r6, r7, r8) := h
 clear h
 replace H := Option.bind_eq_some_iff.mp H
 obtain ⟨⟨t349, t350⟩, A40, H⟩ := H
 replace H : (if t350 = 0 then (ref_Step.j0 k a2 t350 (t349 == 0) a0_0 a0_1 a0_2 a0_3 a0_4 a0_5 a1_0 a1_1 a1_2) else (ref_Step.j0 k a2 t350 false a0_0 a0_1 a0_2 a0_3 a0_4 a0_5 a1_0 a1_1 a1_2)) = some (r1, r2, r3, r4, r5, r6, r7, r8) := H
 have A4 := Aside0.mk A40
 clear A40
 have HC5 := Aside0.mk H
 clear H
 go_enter Try.func28, Try.ntmps28
 go_upto_region 2 with (first | ((with_reducible refine gate_dst (N := 3) rfl ?_); refine bxe (cs := #[.int .i64 a0_0, .int .i64 a0_1, .int .i64 a0_2, .int .i64 a0_3, .int .i64 a0_4, .bool a0_5]) (t := 39) ?_; intro gb346 hg w6 hbox hb; have BK346 := Aside0.mk (hbox); have GW346 := Aside0.mk (bge hg HB.out); have GE346 := Aside0.mk (bge hg HB.out); replace HB := Aside0.mk (bst HB.out hb); clear hb hbox hg) | ((with_reducible refine gate_dst (N := 4) rfl ?_); refine bxe (cs := #[.int .i64 a1_0, .int .i64 a1_1, .int .i64 a1_2]) (t := 23) ?_; intro gb347 hg w7 hbox hb; have BK347 := Aside0.mk (hbox); have GW347 := Aside0.mk (bge hg HB.out); have GE347 := Aside0.mk (bge hg HB.out); have NB346_347 := Aside0.mk ((bkl hg BK346.out)); have NB347_346 := Aside0.mk ((bkg hg BK346.out)); replace BK346 := Aside0.mk (bkb BK346.out hb); replace HB := Aside0.mk (bst HB.out hb); clear hb hbox hg) | ((with_reducible refine gate_dst (N := 6) rfl ?_); refine bxe (cs := #[.int .i64 0, .int .i64 0, .int .i64 0, .int .i64 0, .int .i64 0, .bool false]) (t := 39) ?_; intro gb348 hg w8 hbox hb; have BK348 := Aside0.mk (hbox); have GW348 := Aside0.mk (bge hg HB.out); have GE348 := Aside0.mk (bge hg HB.out); have NB346_348 := Aside0.mk ((bkl hg BK346.out)); have NB348_346 := Aside0.mk ((bkg hg BK346.out)); have NB347_348 := Aside0.mk ((bkl hg BK347.out)); have NB348_347 := Aside0.mk ((bkg hg BK347.out)); replace BK346 := Aside0.mk (bkb BK346.out hb); replace BK347 := Aside0.mk (bkb BK347.out hb); replace HB := Aside0.mk (bst HB.out hb); clear hb hbox hg; have hnb9 := NB346_347.out; have hnc9 := NB347_346.out; have hnb10 := NB346_348.out; have hnc10 := NB348_346.out; have hcz11_0 := cz6 BK346.out; have hfz11_0 := blk_frozen BK346.out; have hnb12 := NB347_348.out; have hnc12 := NB348_347.out; have hcz13_0 := cz3 BK347.out; have hfz13_0 := blk_frozen BK347.out) | ((with_reducible refine gate_callee (f := 31) rfl ?_); refine gsl (some 17) Try.func31 #[.agg #[.int .i64 a0_0, .int .i64 a0_1, .int .i64 a0_2, .int .i64 a0_3, .int .i64 a0_4, .bool a0_5], .agg #[.int .i64 a1_0, .int .i64 a1_1, .int .i64 a1_2]] ?_; (with_reducible refine (ref_Left.calls k a0_0 a0_1 a0_2 a0_3 a0_4 a0_5 a1_0 a1_1 a1_2 t349 t350 _ A4.out).mono ?_); rintro e w14 ⟨rfl, hb⟩; refine ⟨_, rfl, ?_⟩; replace BK346 := Aside0.mk (bkb BK346.out hb); replace BK347 := Aside0.mk (bkb BK347.out hb); replace BK348 := Aside0.mk (bkb BK348.out hb); replace HB := Aside0.mk (bst HB.out hb); (try clear hb); (try clear hb2); (try clear hk); (try clear hi)))
 (try simp only [Act.put, List.setIfInBounds_toArray, List.set_cons_zero, List.set_cons_succ])
 go_cut [25] (fun v25 wc => ∃ (kq : Nat) (x25_4 : Bool), v25 = .bool x25_4 ∧ Aside0 (ref_Step.j0 kq a2 t350 x25_4 a0_0 a0_1 a0_2 a0_3 a0_4 a0_5 a1_0 a1_1 a1_2 = some (r1, r2, r3, r4, r5, r6, r7, r8)) ∧ Aside0 (kq ≤ k) ∧ Aside0 (wc.heap[gb346]? = some (.cells #[.int .i64 a0_0, .int .i64 a0_1, .int .i64 a0_2, .int .i64 a0_3, .int .i64 a0_4, .bool a0_5] 39 (0, 0))) ∧ Aside0 (wc.heap[gb347]? = some (.cells #[.int .i64 a1_0, .int .i64 a1_1, .int .i64 a1_2] 23 (0, 0))) ∧ Aside0 (wc.heap[gb348]? = some (.cells #[.int .i64 0, .int .i64 0, .int .i64 0, .int .i64 0, .int .i64 0, .bool false] 39 (0, 0))) ∧ Aside0 (Below w.heap.size w wc))
 case first =>
  have H := HC5.out
  clear HC5
  by_cases c15 : t350 = 0
  ·rw [if_pos c15] at H
   have c15b0 : (t350 == 0) = true := beq_iff_eq.mpr c15
   have c15b1 : (t350 != 0) = false := bne_eq_false_iff_eq.mpr c15
   clear c15
   (first | rw [c15b0] | (simp only [i64_w, i32_w]; rw [c15b0]) | skip)
   have H' := Aside0.mk H
   clear H
   go_wp2
   go_meet
   case rel => exact ⟨_, ((t349 == 0)), (by first | rfl | (simp; done) | (simp [*]; done)), H', ⟨by first | omega | exact Nat.le_refl _⟩, ⟨bkt BK346.out⟩, ⟨bkt BK347.out⟩, ⟨bkt BK348.out⟩, ⟨bel HB.out⟩⟩
  ·rw [if_neg c15] at H
   have c15b0 : (t350 == 0) = false := beq_eq_false_iff_ne.mpr c15
   have c15b1 : (t350 != 0) = true := bne_iff_ne.mpr c15
   (first | rw [c15b0] | (simp only [i64_w, i32_w]; rw [c15b0]) | skip)
   have H' := Aside0.mk H
   clear H
   go_wp2
   go_meet
   case rel => exact ⟨_, (false), (by first | rfl | (simp; done) | (simp [*]; done)), H', ⟨by first | omega | exact Nat.le_refl _⟩, ⟨bkt BK346.out⟩, ⟨bkt BK347.out⟩, ⟨bkt BK348.out⟩, ⟨bel HB.out⟩⟩
 case rest =>
  clear HC5
  try clear c1
  try clear c2
  try clear p2
  try clear c3
  try clear c9
  try clear c10
  try clear c12
  try clear c15
  try clear c15b0
  try clear c15b1
  try clear hcz11_0
  try clear hcz13_0
  try clear hfz11_0
  try clear hfz13_0
  obtain ⟨kq, x25_4, rfl, HA, HJ4, BK346, BK347, BK348, HB⟩ := hcut
  cases kq with
  | zero => exact absurd HA.out (by simp [ref_Step.j0])
  | succ kj4 =>
   have H := HA.out
   clear HA
   simp only [ref_Step.j0] at H
   by_cases c16 : x25_4 = true
   ·subst c16
    have H1 : (some (0, 0, 0, 0, 0, false, false, 9)) = some (r1, r2, r3, r4, r5, r6, r7, r8) := by rw [if_pos rfl] at H; exact H
    clear H
    have H := H1
    clear H1
    simp only [Option.some.injEq, Prod.mk.injEq] at H
    obtain ⟨rfl, rfl, rfl, rfl, rfl, rfl, rfl, rfl⟩ := H
    have hnb17 := NB348_346.out
    have hnc17 := NB346_348.out
    have hnb18 := NB348_347.out
    have hnc18 := NB347_348.out
    have hcz19_0 := cz6 BK348.out
    have hfz19_0 := blk_frozen BK348.out
    go_wp2
    refine bodyPost_ret (results_ctt rfl _ _ gb348 39 #[.int .i64 0, .int .i64 0, .int .i64 0, .int .i64 0, .int .i64 0, .bool false] (0, 0) _ rfl (bkt BK348.out) Try.underlying39 rfl (by kernel_rfl)) rfl ?_
    exact bfin (bel HB.out)
   ·replace c16 := Bool.eq_false_iff.mpr c16
    subst c16
    have H1 : (if t350 = 0 then ((r18_Step.f kj4 a0_0 a0_1 a0_2 a0_3 a1_0 a1_1 a1_2 a2).bind fun bt351 => (some (bt351.1, bt351.2.1, bt351.2.2.1, bt351.2.2.2.1, wrap64 (a0_4 + 1), a0_5, bt351.2.2.2.2.1, 0))) else (some (0, 0, 0, 0, 0, false, false, t350))) = some (r1, r2, r3, r4, r5, r6, r7, r8) := by rw [if_neg (show ¬ (false = true) by decide)] at H; exact H
    clear H
    have H := H1
    clear H1
    by_cases c20 : t350 = 0
    ·rw [if_pos c20] at H
     have c20b0 : (t350 == 0) = true := beq_iff_eq.mpr c20
     have c20b1 : (t350 != 0) = false := bne_eq_false_iff_eq.mpr c20
     clear c20
     replace H := Option.bind_eq_some_iff.mp H
     obtain ⟨⟨t351, t352, t353, t354, t355, t356⟩, A210, H⟩ := H
     replace H : (some (t351, t352, t353, t354, wrap64 (a0_4 + 1), a0_5, t355, 0)) = some (r1, r2, r3, r4, r5, r6, r7, r8) := H
     have A21 := Aside0.mk A210
     clear A210
     simp only [Option.some.injEq, Prod.mk.injEq] at H
     obtain ⟨rfl, rfl, rfl, rfl, rfl, rfl, rfl, rfl⟩ := H
     have hnb22 := NB346_347.out
     have hnc22 := NB347_346.out
     have hnb23 := NB346_348.out
     have hnc23 := NB348_346.out
     have hcz24_0 := cz6 BK346.out
     have hfz24_0 := blk_frozen BK346.out
     have hnb25 := NB347_348.out
     have hnc25 := NB348_347.out
     have hcz26_0 := cz3 BK347.out
     have hfz26_0 := blk_frozen BK347.out
     go_wp2_with (first | ((with_reducible refine gate_callee (f := 45) rfl ?_); refine gsl (some 35) Try.func45 #[.agg #[.int .i64 a0_0, .int .i64 a0_1, .int .i64 a0_2, .int .i64 a0_3], .agg #[.int .i64 a1_0, .int .i64 a1_1, .int .i64 a1_2], .bool a2] ?_; (with_reducible refine (r18_Step.calls kj4 a0_0 a0_1 a0_2 a0_3 a1_0 a1_1 a1_2 a2 t351 t352 t353 t354 t355 t356 _ A21.out).mono ?_); rintro e w27 ⟨rfl, hb⟩; refine ⟨_, rfl, ?_⟩; replace BK346 := Aside0.mk (bkb BK346.out hb); replace BK347 := Aside0.mk (bkb BK347.out hb); replace BK348 := Aside0.mk (bkb BK348.out hb); replace HB := Aside0.mk (bst HB.out hb); (try clear hb); (try clear hb2); (try clear hk); (try clear hi)) | ((with_reducible refine gate_dst (N := 11) rfl ?_); refine bxe (cs := #[.int .i64 0, .int .i64 0, .int .i64 0, .int .i64 0]) (t := 37) ?_; intro gb357 hg w28 hbox hb; have BK357 := Aside0.mk (hbox); have GW357 := Aside0.mk (bge hg HB.out); have GE357 := Aside0.mk (bge hg HB.out); have NB346_357 := Aside0.mk ((bkl hg BK346.out)); have NB357_346 := Aside0.mk ((bkg hg BK346.out)); have NB347_357 := Aside0.mk ((bkl hg BK347.out)); have NB357_347 := Aside0.mk ((bkg hg BK347.out)); have NB348_357 := Aside0.mk ((bkl hg BK348.out)); have NB357_348 := Aside0.mk ((bkg hg BK348.out)); replace BK346 := Aside0.mk (bkb BK346.out hb); replace BK347 := Aside0.mk (bkb BK347.out hb); replace BK348 := Aside0.mk (bkb BK348.out hb); replace HB := Aside0.mk (bst HB.out hb); clear hb hbox hg; have hnb29 := NB357_346.out; have hnc29 := NB346_357.out; have hnb30 := NB357_347.out; have hnc30 := NB347_357.out; have hnb31 := NB357_348.out; have hnc31 := NB348_357.out; have hcz32_0 := cz4 BK357.out; have hfz32_0 := blk_frozen BK357.out; have hcz33_0 := cz6 BK346.out; have hfz33_0 := blk_frozen BK346.out; have hcz34_0 := cz6 BK348.out; have hfz34_0 := blk_frozen BK348.out))
     refine bodyPost_ret (results_ctt rfl _ _ gb348 39 #[.int .i64 t351, .int .i64 t352, .int .i64 t353, .int .i64 t354, .int .i64 (wrap64 (a0_4 + 1)), .bool a0_5] (0, 0) _ rfl (bkt BK348.out) Try.underlying39 rfl (by kernel_rfl)) rfl ?_
     exact bfin (bel HB.out)
    ·rw [if_neg c20] at H
     have c20b0 : (t350 == 0) = false := beq_eq_false_iff_ne.mpr c20
     have c20b1 : (t350 != 0) = true := bne_iff_ne.mpr c20
     simp only [Option.some.injEq, Prod.mk.injEq] at H
     obtain ⟨rfl, rfl, rfl, rfl, rfl, rfl, rfl, rfl⟩ := H
     have hnb35 := NB348_346.out
     have hnc35 := NB346_348.out
     have hnb36 := NB348_347.out
     have hnc36 := NB347_348.out
     have hcz37_0 := cz6 BK348.out
     have hfz37_0 := blk_frozen BK348.out
     go_wp2
     refine bodyPost_ret (results_ctt rfl _ _ gb348 39 #[.int .i64 0, .int .i64 0, .int .i64 0, .int .i64 0, .int .i64 0, .bool false] (0, 0) _ rfl (bkt BK348.out) Try.underlying39 rfl (by kernel_rfl)) rfl ?_
     exact bfin (bel HB.out)

/-! ### ref_Force: function 30 -/
def ref_Force.f (k : Nat) (a0_0 : Int) (a0_1 : Int) (a0_2 : Int) (a0_3 : Int) (a0_4 : Int) (a0_5 : Bool) (a1_0 : Int) (a1_1 : Int) (a1_2 : Int) : Option (Int × Int × Int × Int × Int × Bool × Int) := (ref_Check.f k a0_0 a0_1 a0_2 a0_3 a0_4 a0_5 a1_0 a1_1 a1_2).bind fun t365 => (if t365 = 0 then ((r18_Force.f k a0_0 a0_1 a0_2 a0_3 a1_0 a1_1 a1_2).bind fun bt366 => (if bt366.1 = 0 then (some (bt366.1, bt366.2.1, bt366.2.2.1, bt366.2.2.2.1, a0_4, true, 0)) else (some (bt366.1, bt366.2.1, bt366.2.2.1, bt366.2.2.2.1, a0_4, a0_5, 0)))) else (some (0, 0, 0, 0, 0, false, t365)))
theorem ref_Force.mono : ∀ a0 a1 a2 a3 a4 a5 a6 a7 a8 k, LeO (ref_Force.f k a0 a1 a2 a3 a4 a5 a6 a7 a8) (ref_Force.f (k + 1) a0 a1 a2 a3 a4 a5 a6 a7 a8) := by
 intro a0 a1 a2 a3 a4 a5 a6 a7 a8 k
 unfold ref_Force.f
 repeat' first
   | (with_reducible exact r18_Force.mono _ _ _ _ _ _ _ _)
   | (with_reducible exact ref_Check.mono _ _ _ _ _ _ _ _ _ _)
   | (with_reducible exact LeO.refl _)
   | (with_reducible exact LeO.none _)
   | (with_reducible refine LeO.ite ?_ ?_)
   | (with_reducible refine LeO.bind ?_ (fun _ => ?_))
   | exact r18_Force.mono _ _ _ _ _ _ _ _
   | exact ref_Check.mono _ _ _ _ _ _ _ _ _ _
   | exact LeO.none _
   | refine LeO.ite ?_ ?_
   | refine LeO.bind ?_ (fun _ => ?_)
set_option maxHeartbeats 8000000 in
set_option maxRecDepth 100000 in
theorem ref_Force.calls (k : Nat) (a0_0 : Int) (a0_1 : Int) (a0_2 : Int) (a0_3 : Int) (a0_4 : Int) (a0_5 : Bool) (a1_0 : Int) (a1_1 : Int) (a1_2 : Int) (r1 : Int) (r2 : Int) (r3 : Int) (r4 : Int) (r5 : Int) (r6 : Bool) (r7 : Int) (w : World) (h : ref_Force.f k a0_0 a0_1 a0_2 a0_3 a0_4 a0_5 a1_0 a1_1 a1_2 = some (r1, r2, r3, r4, r5, r6, r7)) :
  Calls Try.prog 30 #[.agg #[.int .i64 a0_0, .int .i64 a0_1, .int .i64 a0_2, .int .i64 a0_3, .int .i64 a0_4, .bool a0_5], .agg #[.int .i64 a1_0, .int .i64 a1_1, .int .i64 a1_2]] w fun e w' => e = .returned (.tuple #[.agg #[.int .i64 r1, .int .i64 r2, .int .i64 r3, .int .i64 r4, .int .i64 r5, .bool r6], .int .i64 r7]) ∧ Below w.heap.size w w' := by
 have hu39 := Try.underlying39
 have hu23 := Try.underlying23
 have hu37 := Try.underlying37
 have HB := Aside0.mk (Below.refl w.heap.size w)
 have H : ((ref_Check.f k a0_0 a0_1 a0_2 a0_3 a0_4 a0_5 a1_0 a1_1 a1_2).bind fun t365 => (if t365 = 0 then ((r18_Force.f k a0_0 a0_1 a0_2 a0_3 a1_0 a1_1 a1_2).bind fun bt366 => (if bt366.1 = 0 then (some (bt366.1, bt366.2.1, bt366.2.2.1, bt366.2.2.2.1, a0_4, true, 0)) else (some (bt366.1, bt366.2.1, bt366.2.2.1, bt366.2.2.2.1, a0_4, a0_5, 0)))) else (some (0, 0, 0, 0, 0, false, t365)))) = some (r1, r2, r3, r4, r5, r6, r7) := h
 clear h
 replace H := Option.bind_eq_some_iff.mp H
 obtain ⟨t365, A30, H⟩ := H
 replace H : (if t365 = 0 then ((r18_Force.f k a0_0 a0_1 a0_2 a0_3 a1_0 a1_1 a1_2).bind fun bt366 => (if bt366.1 = 0 then (some (bt366.1, bt366.2.1, bt366.2.2.1, bt366.2.2.2.1, a0_4, true, 0)) else (some (bt366.1, bt366.2.1, bt366.2.2.1, bt366.2.2.2.1, a0_4, a0_5, 0)))) else (some (0, 0, 0, 0, 0, false, t365))) = some (r1, r2, r3, r4, r5, r6, r7) := H
 have A3 := Aside0.mk A30
 clear A30
 by_cases c4 : t365 = 0
 ·rw [if_pos c4] at H
  have c4b0 : (t365 == 0) = true := beq_iff_eq.mpr c4
  have c4b1 : (t365 != 0) = false := bne_eq_false_iff_eq.mpr c4
  clear c4
  replace H := Option.bind_eq_some_iff.mp H
  obtain ⟨⟨t366, t367, t368, t369, t370⟩, A50, H⟩ := H
  replace H : (if t366 = 0 then (some (t366, t367, t368, t369, a0_4, true, 0)) else (some (t366, t367, t368, t369, a0_4, a0_5, 0))) = some (r1, r2, r3, r4, r5, r6, r7) := H
  have A5 := Aside0.mk A50
  clear A50
  by_cases c6 : t366 = 0
  ·rw [if_pos c6] at H
   have c6b0 : (t366 == 0) = true := beq_iff_eq.mpr c6
   have c6b1 : (t366 != 0) = false := bne_eq_false_iff_eq.mpr c6
   clear c6
   simp only [Option.some.injEq, Prod.mk.injEq] at H
   obtain ⟨rfl, rfl, rfl, rfl, rfl, rfl, rfl⟩ := H
   go_enter Try.func30, Try.ntmps30
   go_wp2_with (first | ((with_reducible refine gate_dst (N := 2) rfl ?_); refine bxe (cs := #[.int .i64 a0_0, .int .i64 a0_1, .int .i64 a0_2, .int .i64 a0_3, .int .i64 a0_4, .bool a0_5]) (t := 39) ?_; intro gb362 hg w7 hbox hb; have BK362 := Aside0.mk (hbox); have GW362 := Aside0.mk (bge hg HB.out); have GE362 := Aside0.mk (bge hg HB.out); replace HB := Aside0.mk (bst HB.out hb); clear hb hbox hg) | ((with_reducible refine gate_dst (N := 3) rfl ?_); refine bxe (cs := #[.int .i64 a1_0, .int .i64 a1_1, .int .i64 a1_2]) (t := 23) ?_; intro gb363 hg w8 hbox hb; have BK363 := Aside0.mk (hbox); have GW363 := Aside0.mk (bge hg HB.out); have GE363 := Aside0.mk (bge hg HB.out); have NB362_363 := Aside0.mk ((bkl hg BK362.out)); have NB363_362 := Aside0.mk ((bkg hg BK362.out)); replace BK362 := Aside0.mk (bkb BK362.out hb); replace HB := Aside0.mk (bst HB.out hb); clear hb hbox hg) | ((with_reducible refine gate_dst (N := 4) rfl ?_); refine bxe (cs := #[.int .i64 0, .int .i64 0, .int .i64 0, .int .i64 0, .int .i64 0, .bool false]) (t := 39) ?_; intro gb364 hg w9 hbox hb; have BK364 := Aside0.mk (hbox); have GW364 := Aside0.mk (bge hg HB.out); have GE364 := Aside0.mk (bge hg HB.out); have NB362_364 := Aside0.mk ((bkl hg BK362.out)); have NB364_362 := Aside0.mk ((bkg hg BK362.out)); have NB363_364 := Aside0.mk ((bkl hg BK363.out)); have NB364_363 := Aside0.mk ((bkg hg BK363.out)); replace BK362 := Aside0.mk (bkb BK362.out hb); replace BK363 := Aside0.mk (bkb BK363.out hb); replace HB := Aside0.mk (bst HB.out hb); clear hb hbox hg; have hnb10 := NB362_363.out; have hnc10 := NB363_362.out; have hnb11 := NB362_364.out; have hnc11 := NB364_362.out; have hcz12_0 := cz6 BK362.out; have hfz12_0 := blk_frozen BK362.out; have hnb13 := NB363_364.out; have hnc13 := NB364_363.out; have hcz14_0 := cz3 BK363.out; have hfz14_0 := blk_frozen BK363.out) | ((with_reducible refine gate_callee (f := 27) rfl ?_); refine gsl (some 9) Try.func27 #[.agg #[.int .i64 a0_0, .int .i64 a0_1, .int .i64 a0_2, .int .i64 a0_3, .int .i64 a0_4, .bool a0_5], .agg #[.int .i64 a1_0, .int .i64 a1_1, .int .i64 a1_2]] ?_; (with_reducible refine (ref_Check.calls k a0_0 a0_1 a0_2 a0_3 a0_4 a0_5 a1_0 a1_1 a1_2 t365 _ A3.out).mono ?_); rintro e w15 ⟨rfl, hb⟩; refine ⟨_, rfl, ?_⟩; replace BK362 := Aside0.mk (bkb BK362.out hb); replace BK363 := Aside0.mk (bkb BK363.out hb); replace BK364 := Aside0.mk (bkb BK364.out hb); replace HB := Aside0.mk (bst HB.out hb); (try clear hb); (try clear hb2); (try clear hk); (try clear hi); have hcz16_0 := cz6 BK362.out; have hfz16_0 := blk_frozen BK362.out; have hcz17_0 := cz3 BK363.out; have hfz17_0 := blk_frozen BK363.out) | ((with_reducible refine gate_callee (f := 47) rfl ?_); refine gsl (some 18) Try.func47 #[.agg #[.int .i64 a0_0, .int .i64 a0_1, .int .i64 a0_2, .int .i64 a0_3], .agg #[.int .i64 a1_0, .int .i64 a1_1, .int .i64 a1_2]] ?_; (with_reducible refine (r18_Force.calls k a0_0 a0_1 a0_2 a0_3 a1_0 a1_1 a1_2 t366 t367 t368 t369 t370 _ A5.out).mono ?_); rintro e w18 ⟨rfl, hb⟩; refine ⟨_, rfl, ?_⟩; replace BK362 := Aside0.mk (bkb BK362.out hb); replace BK363 := Aside0.mk (bkb BK363.out hb); replace BK364 := Aside0.mk (bkb BK364.out hb); replace HB := Aside0.mk (bst HB.out hb); (try clear hb); (try clear hb2); (try clear hk); (try clear hi); have hcz19_0 := cz6 BK362.out; have hfz19_0 := blk_frozen BK362.out; have hcz20_0 := cz6 BK364.out; have hfz20_0 := blk_frozen BK364.out))
   refine bodyPost_ret (results_ct rfl _ _ gb364 39 #[.int .i64 t366, .int .i64 t367, .int .i64 t368, .int .i64 t369, .int .i64 a0_4, .bool true] (0, 0) _ rfl (bkt BK364.out) Try.underlying39 rfl (by kernel_rfl)) rfl ?_
   exact bfin (bel HB.out)
  ·rw [if_neg c6] at H
   have c6b0 : (t366 == 0) = false := beq_eq_false_iff_ne.mpr c6
   have c6b1 : (t366 != 0) = true := bne_iff_ne.mpr c6
   simp only [Option.some.injEq, Prod.mk.injEq] at H
   obtain ⟨rfl, rfl, rfl, rfl, rfl, rfl, rfl⟩ := H
   go_enter Try.func30, Try.ntmps30
   go_wp2_with (first | ((with_reducible refine gate_dst (N := 2) rfl ?_); refine bxe (cs := #[.int .i64 a0_0, .int .i64 a0_1, .int .i64 a0_2, .int .i64 a0_3, .int .i64 a0_4, .bool a0_5]) (t := 39) ?_; intro gb362 hg w21 hbox hb; have BK362 := Aside0.mk (hbox); have GW362 := Aside0.mk (bge hg HB.out); have GE362 := Aside0.mk (bge hg HB.out); replace HB := Aside0.mk (bst HB.out hb); clear hb hbox hg) | ((with_reducible refine gate_dst (N := 3) rfl ?_); refine bxe (cs := #[.int .i64 a1_0, .int .i64 a1_1, .int .i64 a1_2]) (t := 23) ?_; intro gb363 hg w22 hbox hb; have BK363 := Aside0.mk (hbox); have GW363 := Aside0.mk (bge hg HB.out); have GE363 := Aside0.mk (bge hg HB.out); have NB362_363 := Aside0.mk ((bkl hg BK362.out)); have NB363_362 := Aside0.mk ((bkg hg BK362.out)); replace BK362 := Aside0.mk (bkb BK362.out hb); replace HB := Aside0.mk (bst HB.out hb); clear hb hbox hg) | ((with_reducible refine gate_dst (N := 4) rfl ?_); refine bxe (cs := #[.int .i64 0, .int .i64 0, .int .i64 0, .int .i64 0, .int .i64 0, .bool false]) (t := 39) ?_; intro gb364 hg w23 hbox hb; have BK364 := Aside0.mk (hbox); have GW364 := Aside0.mk (bge hg HB.out); have GE364 := Aside0.mk (bge hg HB.out); have NB362_364 := Aside0.mk ((bkl hg BK362.out)); have NB364_362 := Aside0.mk ((bkg hg BK362.out)); have NB363_364 := Aside0.mk ((bkl hg BK363.out)); have NB364_363 := Aside0.mk ((bkg hg BK363.out)); replace BK362 := Aside0.mk (bkb BK362.out hb); replace BK363 := Aside0.mk (bkb BK363.out hb); replace HB := Aside0.mk (bst HB.out hb); clear hb hbox hg; have hnb24 := NB362_363.out; have hnc24 := NB363_362.out; have hnb25 := NB362_364.out; have hnc25 := NB364_362.out; have hcz26_0 := cz6 BK362.out; have hfz26_0 := blk_frozen BK362.out; have hnb27 := NB363_364.out; have hnc27 := NB364_363.out; have hcz28_0 := cz3 BK363.out; have hfz28_0 := blk_frozen BK363.out) | ((with_reducible refine gate_callee (f := 27) rfl ?_); refine gsl (some 9) Try.func27 #[.agg #[.int .i64 a0_0, .int .i64 a0_1, .int .i64 a0_2, .int .i64 a0_3, .int .i64 a0_4, .bool a0_5], .agg #[.int .i64 a1_0, .int .i64 a1_1, .int .i64 a1_2]] ?_; (with_reducible refine (ref_Check.calls k a0_0 a0_1 a0_2 a0_3 a0_4 a0_5 a1_0 a1_1 a1_2 t365 _ A3.out).mono ?_); rintro e w29 ⟨rfl, hb⟩; refine ⟨_, rfl, ?_⟩; replace BK362 := Aside0.mk (bkb BK362.out hb); replace BK363 := Aside0.mk (bkb BK363.out hb); replace BK364 := Aside0.mk (bkb BK364.out hb); replace HB := Aside0.mk (bst HB.out hb); (try clear hb); (try clear hb2); (try clear hk); (try clear hi); have hcz30_0 := cz6 BK362.out; have hfz30_0 := blk_frozen BK362.out; have hcz31_0 := cz3 BK363.out; have hfz31_0 := blk_frozen BK363.out) | ((with_reducible refine gate_callee (f := 47) rfl ?_); refine gsl (some 18) Try.func47 #[.agg #[.int .i64 a0_0, .int .i64 a0_1, .int .i64 a0_2, .int .i64 a0_3], .agg #[.int .i64 a1_0, .int .i64 a1_1, .int .i64 a1_2]] ?_; (with_reducible refine (r18_Force.calls k a0_0 a0_1 a0_2 a0_3 a1_0 a1_1 a1_2 t366 t367 t368 t369 t370 _ A5.out).mono ?_); rintro e w32 ⟨rfl, hb⟩; refine ⟨_, rfl, ?_⟩; replace BK362 := Aside0.mk (bkb BK362.out hb); replace BK363 := Aside0.mk (bkb BK363.out hb); replace BK364 := Aside0.mk (bkb BK364.out hb); replace HB := Aside0.mk (bst HB.out hb); (try clear hb); (try clear hb2); (try clear hk); (try clear hi); have hcz33_0 := cz6 BK362.out; have hfz33_0 := blk_frozen BK362.out; have hcz34_0 := cz6 BK364.out; have hfz34_0 := blk_frozen BK364.out))
   refine bodyPost_ret (results_ct rfl _ _ gb364 39 #[.int .i64 t366, .int .i64 t367, .int .i64 t368, .int .i64 t369, .int .i64 a0_4, .bool a0_5] (0, 0) _ rfl (bkt BK364.out) Try.underlying39 rfl (by kernel_rfl)) rfl ?_
   exact bfin (bel HB.out)
 ·rw [if_neg c4] at H
  have c4b0 : (t365 == 0) = false := beq_eq_false_iff_ne.mpr c4
  have c4b1 : (t365 != 0) = true := bne_iff_ne.mpr c4
  simp only [Option.some.injEq, Prod.mk.injEq] at H
  obtain ⟨rfl, rfl, rfl, rfl, rfl, rfl, rfl⟩ := H
  go_enter Try.func30, Try.ntmps30
  go_wp2_with (first | ((with_reducible refine gate_dst (N := 2) rfl ?_); refine bxe (cs := #[.int .i64 a0_0, .int .i64 a0_1, .int .i64 a0_2, .int .i64 a0_3, .int .i64 a0_4, .bool a0_5]) (t := 39) ?_; intro gb362 hg w35 hbox hb; have BK362 := Aside0.mk (hbox); have GW362 := Aside0.mk (bge hg HB.out); have GE362 := Aside0.mk (bge hg HB.out); replace HB := Aside0.mk (bst HB.out hb); clear hb hbox hg) | ((with_reducible refine gate_dst (N := 3) rfl ?_); refine bxe (cs := #[.int .i64 a1_0, .int .i64 a1_1, .int .i64 a1_2]) (t := 23) ?_; intro gb363 hg w36 hbox hb; have BK363 := Aside0.mk (hbox); have GW363 := Aside0.mk (bge hg HB.out); have GE363 := Aside0.mk (bge hg HB.out); have NB362_363 := Aside0.mk ((bkl hg BK362.out)); have NB363_362 := Aside0.mk ((bkg hg BK362.out)); replace BK362 := Aside0.mk (bkb BK362.out hb); replace HB := Aside0.mk (bst HB.out hb); clear hb hbox hg) | ((with_reducible refine gate_dst (N := 4) rfl ?_); refine bxe (cs := #[.int .i64 0, .int .i64 0, .int .i64 0, .int .i64 0, .int .i64 0, .bool false]) (t := 39) ?_; intro gb364 hg w37 hbox hb; have BK364 := Aside0.mk (hbox); have GW364 := Aside0.mk (bge hg HB.out); have GE364 := Aside0.mk (bge hg HB.out); have NB362_364 := Aside0.mk ((bkl hg BK362.out)); have NB364_362 := Aside0.mk ((bkg hg BK362.out)); have NB363_364 := Aside0.mk ((bkl hg BK363.out)); have NB364_363 := Aside0.mk ((bkg hg BK363.out)); replace BK362 := Aside0.mk (bkb BK362.out hb); replace BK363 := Aside0.mk (bkb BK363.out hb); replace HB := Aside0.mk (bst HB.out hb); clear hb hbox hg; have hnb38 := NB362_363.out; have hnc38 := NB363_362.out; have hnb39 := NB362_364.out; have hnc39 := NB364_362.out; have hcz40_0 := cz6 BK362.out; have hfz40_0 := blk_frozen BK362.out; have hnb41 := NB363_364.out; have hnc41 := NB364_363.out; have hcz42_0 := cz3 BK363.out; have hfz42_0 := blk_frozen BK363.out) | ((with_reducible refine gate_callee (f := 27) rfl ?_); refine gsl (some 9) Try.func27 #[.agg #[.int .i64 a0_0, .int .i64 a0_1, .int .i64 a0_2, .int .i64 a0_3, .int .i64 a0_4, .bool a0_5], .agg #[.int .i64 a1_0, .int .i64 a1_1, .int .i64 a1_2]] ?_; (with_reducible refine (ref_Check.calls k a0_0 a0_1 a0_2 a0_3 a0_4 a0_5 a1_0 a1_1 a1_2 t365 _ A3.out).mono ?_); rintro e w43 ⟨rfl, hb⟩; refine ⟨_, rfl, ?_⟩; replace BK362 := Aside0.mk (bkb BK362.out hb); replace BK363 := Aside0.mk (bkb BK363.out hb); replace BK364 := Aside0.mk (bkb BK364.out hb); replace HB := Aside0.mk (bst HB.out hb); (try clear hb); (try clear hb2); (try clear hk); (try clear hi); have hcz44_0 := cz6 BK364.out; have hfz44_0 := blk_frozen BK364.out))
  refine bodyPost_ret (results_ct rfl _ _ gb364 39 #[.int .i64 0, .int .i64 0, .int .i64 0, .int .i64 0, .int .i64 0, .bool false] (0, 0) _ rfl (bkt BK364.out) Try.underlying39 rfl (by kernel_rfl)) rfl ?_
  exact bfin (bel HB.out)

end Go.Proofs.Ytmjmdnpenpdmhaa.P
