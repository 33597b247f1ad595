-- Printed by wip/myprint.py of this repo (over the kit's printer). Not trusted: Lean checks it.
import Derived.Test.YtmjmdnpenpdmhaaP0
import Derived.Test.YtmjmdnpenpdmhaaP0cycle
import Derived.Test.YtmjmdnpenpdmhaaP1cycle
import Derived.Test.YtmjmdnpenpdmhaaP2cycle
namespace Go.Proofs.Ytmjmdnpenpdmhaa.P
open Go.RowKit Go.Proofs.YtmjmdnpenpdmhaaW.PrintWords Go.Proofs.YtmjmdnpenpdmhaaW.PrintLast Go.Proofs.YtmjmdnpenpdmhaaW.PrintMore
attribute [local go_sem] cell_same1 cell_some1
attribute [local go_sem] max2_int min2_int max_two min_two max_three min_three max_four min_four   -- for this text's walks alone
set_option linter.unusedVariables false
set_option linter.unusedSimpArgs false

/-! ### cycle_Left: function 24 -/
def cycle_Left.f (k : Nat) (a0_0 : Int) (a0_1 : Int) (a0_2 : Int) (a0_3 : Int) (a0_4 : Int) (a0_5 : Bool) (a1_0 : Int) (a1_1 : Int) (a1_2 : Int) : Option (Int × Int) := (cycle_Check.f k a0_0 a0_1 a0_2 a0_3 a0_4 a0_5 a1_0 a1_1 a1_2).bind fun t206 => (if t206 = 0 then ((cycle_worst.f a1_0 a1_1 a1_2).bind fun bt207 => (some (wrap64 (bt207.1 - a0_4), bt207.2))) else (some (0, t206)))
theorem cycle_Left.mono : ∀ a0 a1 a2 a3 a4 a5 a6 a7 a8 k, LeO (cycle_Left.f k a0 a1 a2 a3 a4 a5 a6 a7 a8) (cycle_Left.f (k + 1) a0 a1 a2 a3 a4 a5 a6 a7 a8) := by
  intro a0 a1 a2 a3 a4 a5 a6 a7 a8 k
  unfold cycle_Left.f
  repeat' first
      | (with_reducible exact cycle_Check.mono _ _ _ _ _ _ _ _ _ _)
      | (with_reducible exact LeO.refl _)
      | (with_reducible exact LeO.none _)
      | (with_reducible refine LeO.ite ?_ ?_)
      | (with_reducible refine LeO.bind ?_ (fun _ => ?_))
      | exact cycle_Check.mono _ _ _ _ _ _ _ _ _ _
      | exact LeO.none _
      | refine LeO.ite ?_ ?_
      | refine LeO.bind ?_ (fun _ => ?_)
set_option maxHeartbeats 8000000 in
set_option maxRecDepth 100000 in
theorem cycle_Left.calls (k : Nat) (a0_0 : Int) (a0_1 : Int) (a0_2 : Int) (a0_3 : Int) (a0_4 : Int) (a0_5 : Bool) (a1_0 : Int) (a1_1 : Int) (a1_2 : Int) (r1 : Int) (r2 : Int) (w : World) (h : cycle_Left.f k a0_0 a0_1 a0_2 a0_3 a0_4 a0_5 a1_0 a1_1 a1_2 = some (r1, r2)) :
    Calls Try.prog 24 #[.agg #[.int .i64 a0_0, .int .i64 a0_1, .int .i64 a0_2, .int .i64 a0_3, .int .i64 a0_4, .bool a0_5], .agg #[.int .i64 a1_0, .int .i64 a1_1, .int .i64 a1_2]] w fun e w' => e = .returned (.tuple #[.int .i64 r1, .int .i64 r2]) ∧ Below w.heap.size w w' := by
  have hu39 := Try.underlying39
  have hu23 := Try.underlying23
  have HB := Aside0.mk (Below.refl w.heap.size w)
  have H : ((cycle_Check.f k a0_0 a0_1 a0_2 a0_3 a0_4 a0_5 a1_0 a1_1 a1_2).bind fun t206 => (if t206 = 0 then ((cycle_worst.f a1_0 a1_1 a1_2).bind fun bt207 => (some (wrap64 (bt207.1 - a0_4), bt207.2))) else (some (0, t206)))) = some (r1, r2) := h
  clear h
  replace H := Option.bind_eq_some_iff.mp H
  obtain ⟨t206, A30, H⟩ := H
  replace H : (if t206 = 0 then ((cycle_worst.f a1_0 a1_1 a1_2).bind fun bt207 => (some (wrap64 (bt207.1 - a0_4), bt207.2))) else (some (0, t206))) = some (r1, r2) := H
  have A3 := Aside0.mk A30
  clear A30
  by_cases c4 : t206 = 0
  · rw [if_pos c4] at H
    have c4b0 : (t206 == 0) = true := beq_iff_eq.mpr c4
    have c4b1 : (t206 != 0) = false := bne_eq_false_iff_eq.mpr c4
    clear c4
    replace H := Option.bind_eq_some_iff.mp H
    obtain ⟨⟨t207, t208⟩, A50, H⟩ := H
    replace H : (some (wrap64 (t207 - a0_4), t208)) = some (r1, r2) := H
    have A5 := Aside0.mk A50
    clear A50
    simp only [Option.some.injEq, Prod.mk.injEq] at H
    obtain ⟨rfl, rfl⟩ := H
    go_enter Try.func24, Try.ntmps24
    go_wp2_with (first | ((with_reducible refine gate_dst (N := 2) rfl ?_); refine bxe (cs := #[.int .i64 a0_0, .int .i64 a0_1, .int .i64 a0_2, .int .i64 a0_3, .int .i64 a0_4, .bool a0_5]) (t := 39) ?_; intro gb204 hg w6 hbox hb; have BK204 := Aside0.mk (hbox); have GW204 := Aside0.mk (bge hg HB.out); have GE204 := Aside0.mk (bge hg HB.out); replace HB := Aside0.mk (bst HB.out hb); clear hb hbox hg) | ((with_reducible refine gate_dst (N := 3) rfl ?_); refine bxe (cs := #[.int .i64 a1_0, .int .i64 a1_1, .int .i64 a1_2]) (t := 23) ?_; intro gb205 hg w7 hbox hb; have BK205 := Aside0.mk (hbox); have GW205 := Aside0.mk (bge hg HB.out); have GE205 := Aside0.mk (bge hg HB.out); have NB204_205 := Aside0.mk ((bkl hg BK204.out)); have NB205_204 := Aside0.mk ((bkg hg BK204.out)); replace BK204 := Aside0.mk (bkb BK204.out hb); replace HB := Aside0.mk (bst HB.out hb); clear hb hbox hg; have hnb8 := NB204_205.out; have hnc8 := NB205_204.out; have hcz9_0 := cz6 BK204.out; have hfz9_0 := blk_frozen BK204.out; have hcz10_0 := cz3 BK205.out; have hfz10_0 := blk_frozen BK205.out) | ((with_reducible refine gate_callee (f := 19) rfl ?_); refine gsl (some 11) Try.func19 #[.agg #[.int .i64 a0_0, .int .i64 a0_1, .int .i64 a0_2, .int .i64 a0_3, .int .i64 a0_4, .bool a0_5], .agg #[.int .i64 a1_0, .int .i64 a1_1, .int .i64 a1_2]] ?_; (with_reducible refine (cycle_Check.calls k a0_0 a0_1 a0_2 a0_3 a0_4 a0_5 a1_0 a1_1 a1_2 t206 _ A3.out).mono ?_); rintro e w11 ⟨rfl, hb⟩; refine ⟨_, rfl, ?_⟩; replace BK204 := Aside0.mk (bkb BK204.out hb); replace BK205 := Aside0.mk (bkb BK205.out hb); replace HB := Aside0.mk (bst HB.out hb); (try clear hb); (try clear hb2); (try clear hk); (try clear hi); have hcz12_0 := cz3 BK205.out; have hfz12_0 := blk_frozen BK205.out) | ((with_reducible refine gate_callee (f := 34) rfl ?_); refine gsl (some 17) Try.func34 #[.agg #[.int .i64 a1_0, .int .i64 a1_1, .int .i64 a1_2]] ?_; (with_reducible refine (cycle_worst.calls a1_0 a1_1 a1_2 t207 t208 _ A5.out).mono ?_); rintro e w13 ⟨rfl, hb⟩; refine ⟨_, rfl, ?_⟩; replace BK204 := Aside0.mk (bkb BK204.out hb); replace BK205 := Aside0.mk (bkb BK205.out hb); replace HB := Aside0.mk (bst HB.out hb); (try clear hb); (try clear hb2); (try clear hk); (try clear hi); have hcz14_0 := cz6 BK204.out; have hfz14_0 := blk_frozen BK204.out))
    go_ret2
    exact bfin (bel HB.out)
  · rw [if_neg c4] at H
    have c4b0 : (t206 == 0) = false := beq_eq_false_iff_ne.mpr c4
    have c4b1 : (t206 != 0) = true := bne_iff_ne.mpr c4
    simp only [Option.some.injEq, Prod.mk.injEq] at H
    obtain ⟨rfl, rfl⟩ := H
    go_enter Try.func24, Try.ntmps24
    go_wp2_with (first | ((with_reducible refine gate_dst (N := 2) rfl ?_); refine bxe (cs := #[.int .i64 a0_0, .int .i64 a0_1, .int .i64 a0_2, .int .i64 a0_3, .int .i64 a0_4, .bool a0_5]) (t := 39) ?_; intro gb204 hg w15 hbox hb; have BK204 := Aside0.mk (hbox); have GW204 := Aside0.mk (bge hg HB.out); have GE204 := Aside0.mk (bge hg HB.out); replace HB := Aside0.mk (bst HB.out hb); clear hb hbox hg) | ((with_reducible refine gate_dst (N := 3) rfl ?_); refine bxe (cs := #[.int .i64 a1_0, .int .i64 a1_1, .int .i64 a1_2]) (t := 23) ?_; intro gb205 hg w16 hbox hb; have BK205 := Aside0.mk (hbox); have GW205 := Aside0.mk (bge hg HB.out); have GE205 := Aside0.mk (bge hg HB.out); have NB204_205 := Aside0.mk ((bkl hg BK204.out)); have NB205_204 := Aside0.mk ((bkg hg BK204.out)); replace BK204 := Aside0.mk (bkb BK204.out hb); replace HB := Aside0.mk (bst HB.out hb); clear hb hbox hg; have hnb17 := NB204_205.out; have hnc17 := NB205_204.out; have hcz18_0 := cz6 BK204.out; have hfz18_0 := blk_frozen BK204.out; have hcz19_0 := cz3 BK205.out; have hfz19_0 := blk_frozen BK205.out) | ((with_reducible refine gate_callee (f := 19) rfl ?_); refine gsl (some 11) Try.func19 #[.agg #[.int .i64 a0_0, .int .i64 a0_1, .int .i64 a0_2, .int .i64 a0_3, .int .i64 a0_4, .bool a0_5], .agg #[.int .i64 a1_0, .int .i64 a1_1, .int .i64 a1_2]] ?_; (with_reducible refine (cycle_Check.calls k a0_0 a0_1 a0_2 a0_3 a0_4 a0_5 a1_0 a1_1 a1_2 t206 _ A3.out).mono ?_); rintro e w20 ⟨rfl, hb⟩; refine ⟨_, rfl, ?_⟩; replace BK204 := Aside0.mk (bkb BK204.out hb); replace BK205 := Aside0.mk (bkb BK205.out hb); replace HB := Aside0.mk (bst HB.out hb); (try clear hb); (try clear hb2); (try clear hk); (try clear hi)))
    go_ret2
    exact bfin (bel HB.out)

/-! ### cycle_Step: function 18 -/
def cycle_Step.f (k : Nat) (a0_0 : Int) (a0_1 : Int) (a0_2 : Int) (a0_3 : Int) (a0_4 : Int) (a0_5 : Bool) (a1_0 : Int) (a1_1 : Int) (a1_2 : Int) (a2 : Bool) : Option (Int × Int × Int × Int × Int × Bool × Bool × Int) := (cycle_Check.f k a0_0 a0_1 a0_2 a0_3 a0_4 a0_5 a1_0 a1_1 a1_2).bind fun t479 => (if t479 = 0 then ((cycle_worst.f a1_0 a1_1 a1_2).bind fun bt480 => (if a0_4 = bt480.1 then (some (0, 0, 0, 0, 0, false, false, 9)) else ((cycle_tick.f k a0_0 a0_1 a0_2 a0_3 a0_4 a0_5 a1_0 a1_1 a1_2 a2).bind fun bt482 => (some (bt482.1, bt482.2.1, bt482.2.2.1, bt482.2.2.2.1, bt482.2.2.2.2.1, bt482.2.2.2.2.2.1, bt482.2.2.2.2.2.2, 0))))) else (some (0, 0, 0, 0, 0, false, false, t479)))
theorem cycle_Step.mono : ∀ a0 a1 a2 a3 a4 a5 a6 a7 a8 a9 k, LeO (cycle_Step.f k a0 a1 a2 a3 a4 a5 a6 a7 a8 a9) (cycle_Step.f (k + 1) a0 a1 a2 a3 a4 a5 a6 a7 a8 a9) := by
  intro a0 a1 a2 a3 a4 a5 a6 a7 a8 a9 k
  unfold cycle_Step.f
  repeat' first
      | (with_reducible exact cycle_Check.mono _ _ _ _ _ _ _ _ _ _)
      | (with_reducible exact cycle_tick.mono _ _ _ _ _ _ _ _ _ _ _)
      | (with_reducible exact LeO.refl _)
      | (with_reducible exact LeO.none _)
      | (with_reducible refine LeO.ite ?_ ?_)
      | (with_reducible refine LeO.bind ?_ (fun _ => ?_))
      | exact cycle_Check.mono _ _ _ _ _ _ _ _ _ _
      | exact cycle_tick.mono _ _ _ _ _ _ _ _ _ _ _
      | exact LeO.none _
      | refine LeO.ite ?_ ?_
      | refine LeO.bind ?_ (fun _ => ?_)
set_option maxHeartbeats 8000000 in
set_option maxRecDepth 100000 in
theorem cycle_Step.calls (k : Nat) (a0_0 : Int) (a0_1 : Int) (a0_2 : Int) (a0_3 : Int) (a0_4 : Int) (a0_5 : Bool) (a1_0 : Int) (a1_1 : Int) (a1_2 : Int) (a2 : Bool) (r1 : Int) (r2 : Int) (r3 : Int) (r4 : Int) (r5 : Int) (r6 : Bool) (r7 : Bool) (r8 : Int) (w : World) (h : cycle_Step.f k a0_0 a0_1 a0_2 a0_3 a0_4 a0_5 a1_0 a1_1 a1_2 a2 = some (r1, r2, r3, r4, r5, r6, r7, r8)) :
    Calls Try.prog 18 #[.agg #[.int .i64 a0_0, .int .i64 a0_1, .int .i64 a0_2, .int .i64 a0_3, .int .i64 a0_4, .bool a0_5], .agg #[.int .i64 a1_0, .int .i64 a1_1, .int .i64 a1_2], .bool a2] w fun e w' => e = .returned (.tuple #[.agg #[.int .i64 r1, .int .i64 r2, .int .i64 r3, .int .i64 r4, .int .i64 r5, .bool r6], .bool r7, .int .i64 r8]) ∧ Below w.heap.size w w' := by
  have hu39 := Try.underlying39
  have hu23 := Try.underlying23
  have HB := Aside0.mk (Below.refl w.heap.size w)
  have H : ((cycle_Check.f k a0_0 a0_1 a0_2 a0_3 a0_4 a0_5 a1_0 a1_1 a1_2).bind fun t479 => (if t479 = 0 then ((cycle_worst.f a1_0 a1_1 a1_2).bind fun bt480 => (if a0_4 = bt480.1 then (some (0, 0, 0, 0, 0, false, false, 9)) else ((cycle_tick.f k a0_0 a0_1 a0_2 a0_3 a0_4 a0_5 a1_0 a1_1 a1_2 a2).bind fun bt482 => (some (bt482.1, bt482.2.1, bt482.2.2.1, bt482.2.2.2.1, bt482.2.2.2.2.1, bt482.2.2.2.2.2.1, bt482.2.2.2.2.2.2, 0))))) else (some (0, 0, 0, 0, 0, false, false, t479)))) = some (r1, r2, r3, r4, r5, r6, r7, r8) := h
  clear h
  replace H := Option.bind_eq_some_iff.mp H
  obtain ⟨t479, A40, H⟩ := H
  replace H : (if t479 = 0 then ((cycle_worst.f a1_0 a1_1 a1_2).bind fun bt480 => (if a0_4 = bt480.1 then (some (0, 0, 0, 0, 0, false, false, 9)) else ((cycle_tick.f k a0_0 a0_1 a0_2 a0_3 a0_4 a0_5 a1_0 a1_1 a1_2 a2).bind fun bt482 => (some (bt482.1, bt482.2.1, bt482.2.2.1, bt482.2.2.2.1, bt482.2.2.2.2.1, bt482.2.2.2.2.2.1, bt482.2.2.2.2.2.2, 0))))) else (some (0, 0, 0, 0, 0, false, false, t479))) = some (r1, r2, r3, r4, r5, r6, r7, r8) := H
  have A4 := Aside0.mk A40
  clear A40
  by_cases c5 : t479 = 0
  · rw [if_pos c5] at H
    have c5b0 : (t479 == 0) = true := beq_iff_eq.mpr c5
    have c5b1 : (t479 != 0) = false := bne_eq_false_iff_eq.mpr c5
    clear c5
    replace H := Option.bind_eq_some_iff.mp H
    obtain ⟨⟨t480, t481⟩, A60, H⟩ := H
    replace H : (if a0_4 = t480 then (some (0, 0, 0, 0, 0, false, false, 9)) else ((cycle_tick.f k a0_0 a0_1 a0_2 a0_3 a0_4 a0_5 a1_0 a1_1 a1_2 a2).bind fun bt482 => (some (bt482.1, bt482.2.1, bt482.2.2.1, bt482.2.2.2.1, bt482.2.2.2.2.1, bt482.2.2.2.2.2.1, bt482.2.2.2.2.2.2, 0)))) = some (r1, r2, r3, r4, r5, r6, r7, r8) := H
    have A6 := Aside0.mk A60
    clear A60
    by_cases c7 : a0_4 = t480
    · rw [if_pos c7] at H
      have c7b0 : (a0_4 == t480) = true := beq_iff_eq.mpr c7
      have c7b1 : (a0_4 != t480) = false := bne_eq_false_iff_eq.mpr c7
      clear c7
      simp only [Option.some.injEq, Prod.mk.injEq] at H
      obtain ⟨rfl, rfl, rfl, rfl, rfl, rfl, rfl, rfl⟩ := H
      go_enter Try.func18, Try.ntmps18
      go_wp2_with (first | ((with_reducible refine gate_dst (N := 3) rfl ?_); refine bxe (cs := #[.int .i64 a0_0, .int .i64 a0_1, .int .i64 a0_2, .int .i64 a0_3, .int .i64 a0_4, .bool a0_5]) (t := 39) ?_; intro gb476 hg w8 hbox hb; have BK476 := Aside0.mk (hbox); have GW476 := Aside0.mk (bge hg HB.out); have GE476 := Aside0.mk (bge hg HB.out); replace HB := Aside0.mk (bst HB.out hb); clear hb hbox hg) | ((with_reducible refine gate_dst (N := 4) rfl ?_); refine bxe (cs := #[.int .i64 a1_0, .int .i64 a1_1, .int .i64 a1_2]) (t := 23) ?_; intro gb477 hg w9 hbox hb; have BK477 := Aside0.mk (hbox); have GW477 := Aside0.mk (bge hg HB.out); have GE477 := Aside0.mk (bge hg HB.out); have NB476_477 := Aside0.mk ((bkl hg BK476.out)); have NB477_476 := Aside0.mk ((bkg hg BK476.out)); replace BK476 := Aside0.mk (bkb BK476.out hb); replace HB := Aside0.mk (bst HB.out hb); clear hb hbox hg) | ((with_reducible refine gate_dst (N := 6) rfl ?_); refine bxe (cs := #[.int .i64 0, .int .i64 0, .int .i64 0, .int .i64 0, .int .i64 0, .bool false]) (t := 39) ?_; intro gb478 hg w10 hbox hb; have BK478 := Aside0.mk (hbox); have GW478 := Aside0.mk (bge hg HB.out); have GE478 := Aside0.mk (bge hg HB.out); have NB476_478 := Aside0.mk ((bkl hg BK476.out)); have NB478_476 := Aside0.mk ((bkg hg BK476.out)); have NB477_478 := Aside0.mk ((bkl hg BK477.out)); have NB478_477 := Aside0.mk ((bkg hg BK477.out)); replace BK476 := Aside0.mk (bkb BK476.out hb); replace BK477 := Aside0.mk (bkb BK477.out hb); replace HB := Aside0.mk (bst HB.out hb); clear hb hbox hg; have hnb11 := NB476_477.out; have hnc11 := NB477_476.out; have hnb12 := NB476_478.out; have hnc12 := NB478_476.out; have hcz13_0 := cz6 BK476.out; have hfz13_0 := blk_frozen BK476.out; have hnb14 := NB477_478.out; have hnc14 := NB478_477.out; have hcz15_0 := cz3 BK477.out; have hfz15_0 := blk_frozen BK477.out) | ((with_reducible refine gate_callee (f := 19) rfl ?_); refine gsl (some 14) Try.func19 #[.agg #[.int .i64 a0_0, .int .i64 a0_1, .int .i64 a0_2, .int .i64 a0_3, .int .i64 a0_4, .bool a0_5], .agg #[.int .i64 a1_0, .int .i64 a1_1, .int .i64 a1_2]] ?_; (with_reducible refine (cycle_Check.calls k a0_0 a0_1 a0_2 a0_3 a0_4 a0_5 a1_0 a1_1 a1_2 t479 _ A4.out).mono ?_); rintro e w16 ⟨rfl, hb⟩; refine ⟨_, rfl, ?_⟩; replace BK476 := Aside0.mk (bkb BK476.out hb); replace BK477 := Aside0.mk (bkb BK477.out hb); replace BK478 := Aside0.mk (bkb BK478.out hb); replace HB := Aside0.mk (bst HB.out hb); (try clear hb); (try clear hb2); (try clear hk); (try clear hi); have hcz17_0 := cz3 BK477.out; have hfz17_0 := blk_frozen BK477.out) | ((with_reducible refine gate_callee (f := 34) rfl ?_); refine gsl (some 21) Try.func34 #[.agg #[.int .i64 a1_0, .int .i64 a1_1, .int .i64 a1_2]] ?_; (with_reducible refine (cycle_worst.calls a1_0 a1_1 a1_2 t480 t481 _ A6.out).mono ?_); rintro e w18 ⟨rfl, hb⟩; refine ⟨_, rfl, ?_⟩; replace BK476 := Aside0.mk (bkb BK476.out hb); replace BK477 := Aside0.mk (bkb BK477.out hb); replace BK478 := Aside0.mk (bkb BK478.out hb); replace HB := Aside0.mk (bst HB.out hb); (try clear hb); (try clear hb2); (try clear hk); (try clear hi); have hcz19_0 := cz6 BK476.out; have hfz19_0 := blk_frozen BK476.out; have hcz20_0 := cz6 BK478.out; have hfz20_0 := blk_frozen BK478.out))
      refine bodyPost_ret (results_ctt rfl _ _ gb478 39 #[.int .i64 0, .int .i64 0, .int .i64 0, .int .i64 0, .int .i64 0, .bool false] (0, 0) _ rfl (bkt BK478.out) Try.underlying39 rfl (by kernel_rfl)) rfl ?_
      exact bfin (bel HB.out)
    · rw [if_neg c7] at H
      have c7b0 : (a0_4 == t480) = false := beq_eq_false_iff_ne.mpr c7
      have c7b1 : (a0_4 != t480) = true := bne_iff_ne.mpr c7
      replace H := Option.bind_eq_some_iff.mp H
      obtain ⟨⟨t482, t483, t484, t485, t486, t487, t488⟩, A210, H⟩ := H
      replace H : (some (t482, t483, t484, t485, t486, t487, t488, 0)) = some (r1, r2, r3, r4, r5, r6, r7, r8) := H
      have A21 := Aside0.mk A210
      clear A210
      simp only [Option.some.injEq, Prod.mk.injEq] at H
      obtain ⟨rfl, rfl, rfl, rfl, rfl, rfl, rfl, rfl⟩ := H
      go_enter Try.func18, Try.ntmps18
      go_wp2_with (first | ((with_reducible refine gate_dst (N := 3) rfl ?_); refine bxe (cs := #[.int .i64 a0_0, .int .i64 a0_1, .int .i64 a0_2, .int .i64 a0_3, .int .i64 a0_4, .bool a0_5]) (t := 39) ?_; intro gb476 hg w22 hbox hb; have BK476 := Aside0.mk (hbox); have GW476 := Aside0.mk (bge hg HB.out); have GE476 := Aside0.mk (bge hg HB.out); replace HB := Aside0.mk (bst HB.out hb); clear hb hbox hg) | ((with_reducible refine gate_dst (N := 4) rfl ?_); refine bxe (cs := #[.int .i64 a1_0, .int .i64 a1_1, .int .i64 a1_2]) (t := 23) ?_; intro gb477 hg w23 hbox hb; have BK477 := Aside0.mk (hbox); have GW477 := Aside0.mk (bge hg HB.out); have GE477 := Aside0.mk (bge hg HB.out); have NB476_477 := Aside0.mk ((bkl hg BK476.out)); have NB477_476 := Aside0.mk ((bkg hg BK476.out)); replace BK476 := Aside0.mk (bkb BK476.out hb); replace HB := Aside0.mk (bst HB.out hb); clear hb hbox hg) | ((with_reducible refine gate_dst (N := 6) rfl ?_); refine bxe (cs := #[.int .i64 0, .int .i64 0, .int .i64 0, .int .i64 0, .int .i64 0, .bool false]) (t := 39) ?_; intro gb478 hg w24 hbox hb; have BK478 := Aside0.mk (hbox); have GW478 := Aside0.mk (bge hg HB.out); have GE478 := Aside0.mk (bge hg HB.out); have NB476_478 := Aside0.mk ((bkl hg BK476.out)); have NB478_476 := Aside0.mk ((bkg hg BK476.out)); have NB477_478 := Aside0.mk ((bkl hg BK477.out)); have NB478_477 := Aside0.mk ((bkg hg BK477.out)); replace BK476 := Aside0.mk (bkb BK476.out hb); replace BK477 := Aside0.mk (bkb BK477.out hb); replace HB := Aside0.mk (bst HB.out hb); clear hb hbox hg; have hnb25 := NB476_477.out; have hnc25 := NB477_476.out; have hnb26 := NB476_478.out; have hnc26 := NB478_476.out; have hcz27_0 := cz6 BK476.out; have hfz27_0 := blk_frozen BK476.out; have hnb28 := NB477_478.out; have hnc28 := NB478_477.out; have hcz29_0 := cz3 BK477.out; have hfz29_0 := blk_frozen BK477.out) | ((with_reducible refine gate_callee (f := 19) rfl ?_); refine gsl (some 14) Try.func19 #[.agg #[.int .i64 a0_0, .int .i64 a0_1, .int .i64 a0_2, .int .i64 a0_3, .int .i64 a0_4, .bool a0_5], .agg #[.int .i64 a1_0, .int .i64 a1_1, .int .i64 a1_2]] ?_; (with_reducible refine (cycle_Check.calls k a0_0 a0_1 a0_2 a0_3 a0_4 a0_5 a1_0 a1_1 a1_2 t479 _ A4.out).mono ?_); rintro e w30 ⟨rfl, hb⟩; refine ⟨_, rfl, ?_⟩; replace BK476 := Aside0.mk (bkb BK476.out hb); replace BK477 := Aside0.mk (bkb BK477.out hb); replace BK478 := Aside0.mk (bkb BK478.out hb); replace HB := Aside0.mk (bst HB.out hb); (try clear hb); (try clear hb2); (try clear hk); (try clear hi); have hcz31_0 := cz3 BK477.out; have hfz31_0 := blk_frozen BK477.out) | ((with_reducible refine gate_callee (f := 34) rfl ?_); refine gsl (some 21) Try.func34 #[.agg #[.int .i64 a1_0, .int .i64 a1_1, .int .i64 a1_2]] ?_; (with_reducible refine (cycle_worst.calls a1_0 a1_1 a1_2 t480 t481 _ A6.out).mono ?_); rintro e w32 ⟨rfl, hb⟩; refine ⟨_, rfl, ?_⟩; replace BK476 := Aside0.mk (bkb BK476.out hb); replace BK477 := Aside0.mk (bkb BK477.out hb); replace BK478 := Aside0.mk (bkb BK478.out hb); replace HB := Aside0.mk (bst HB.out hb); (try clear hb); (try clear hb2); (try clear hk); (try clear hi); have hcz33_0 := cz6 BK476.out; have hfz33_0 := blk_frozen BK476.out; have hcz34_0 := cz3 BK477.out; have hfz34_0 := blk_frozen BK477.out) | ((with_reducible refine gate_callee (f := 35) rfl ?_); refine gsl (some 33) Try.func35 #[.agg #[.int .i64 a0_0, .int .i64 a0_1, .int .i64 a0_2, .int .i64 a0_3, .int .i64 a0_4, .bool a0_5], .agg #[.int .i64 a1_0, .int .i64 a1_1, .int .i64 a1_2], .bool a2] ?_; (with_reducible refine (cycle_tick.calls k a0_0 a0_1 a0_2 a0_3 a0_4 a0_5 a1_0 a1_1 a1_2 a2 t482 t483 t484 t485 t486 t487 t488 _ A21.out).mono ?_); rintro e w35 ⟨rfl, hb⟩; refine ⟨_, rfl, ?_⟩; replace BK476 := Aside0.mk (bkb BK476.out hb); replace BK477 := Aside0.mk (bkb BK477.out hb); replace BK478 := Aside0.mk (bkb BK478.out hb); replace HB := Aside0.mk (bst HB.out hb); (try clear hb); (try clear hb2); (try clear hk); (try clear hi); have hcz36_0 := cz6 BK478.out; have hfz36_0 := blk_frozen BK478.out))
      refine bodyPost_ret (results_ctt rfl _ _ gb478 39 #[.int .i64 t482, .int .i64 t483, .int .i64 t484, .int .i64 t485, .int .i64 t486, .bool t487] (0, 0) _ rfl (bkt BK478.out) Try.underlying39 rfl (by kernel_rfl)) rfl ?_
      exact bfin (bel HB.out)
  · rw [if_neg c5] at H
    have c5b0 : (t479 == 0) = false := beq_eq_false_iff_ne.mpr c5
    have c5b1 : (t479 != 0) = true := bne_iff_ne.mpr c5
    simp only [Option.some.injEq, Prod.mk.injEq] at H
    obtain ⟨rfl, rfl, rfl, rfl, rfl, rfl, rfl, rfl⟩ := H
    go_enter Try.func18, Try.ntmps18
    go_wp2_with (first | ((with_reducible refine gate_dst (N := 3) rfl ?_); refine bxe (cs := #[.int .i64 a0_0, .int .i64 a0_1, .int .i64 a0_2, .int .i64 a0_3, .int .i64 a0_4, .bool a0_5]) (t := 39) ?_; intro gb476 hg w37 hbox hb; have BK476 := Aside0.mk (hbox); have GW476 := Aside0.mk (bge hg HB.out); have GE476 := Aside0.mk (bge hg HB.out); replace HB := Aside0.mk (bst HB.out hb); clear hb hbox hg) | ((with_reducible refine gate_dst (N := 4) rfl ?_); refine bxe (cs := #[.int .i64 a1_0, .int .i64 a1_1, .int .i64 a1_2]) (t := 23) ?_; intro gb477 hg w38 hbox hb; have BK477 := Aside0.mk (hbox); have GW477 := Aside0.mk (bge hg HB.out); have GE477 := Aside0.mk (bge hg HB.out); have NB476_477 := Aside0.mk ((bkl hg BK476.out)); have NB477_476 := Aside0.mk ((bkg hg BK476.out)); replace BK476 := Aside0.mk (bkb BK476.out hb); replace HB := Aside0.mk (bst HB.out hb); clear hb hbox hg) | ((with_reducible refine gate_dst (N := 6) rfl ?_); refine bxe (cs := #[.int .i64 0, .int .i64 0, .int .i64 0, .int .i64 0, .int .i64 0, .bool false]) (t := 39) ?_; intro gb478 hg w39 hbox hb; have BK478 := Aside0.mk (hbox); have GW478 := Aside0.mk (bge hg HB.out); have GE478 := Aside0.mk (bge hg HB.out); have NB476_478 := Aside0.mk ((bkl hg BK476.out)); have NB478_476 := Aside0.mk ((bkg hg BK476.out)); have NB477_478 := Aside0.mk ((bkl hg BK477.out)); have NB478_477 := Aside0.mk ((bkg hg BK477.out)); replace BK476 := Aside0.mk (bkb BK476.out hb); replace BK477 := Aside0.mk (bkb BK477.out hb); replace HB := Aside0.mk (bst HB.out hb); clear hb hbox hg; have hnb40 := NB476_477.out; have hnc40 := NB477_476.out; have hnb41 := NB476_478.out; have hnc41 := NB478_476.out; have hcz42_0 := cz6 BK476.out; have hfz42_0 := blk_frozen BK476.out; have hnb43 := NB477_478.out; have hnc43 := NB478_477.out; have hcz44_0 := cz3 BK477.out; have hfz44_0 := blk_frozen BK477.out) | ((with_reducible refine gate_callee (f := 19) rfl ?_); refine gsl (some 14) Try.func19 #[.agg #[.int .i64 a0_0, .int .i64 a0_1, .int .i64 a0_2, .int .i64 a0_3, .int .i64 a0_4, .bool a0_5], .agg #[.int .i64 a1_0, .int .i64 a1_1, .int .i64 a1_2]] ?_; (with_reducible refine (cycle_Check.calls k a0_0 a0_1 a0_2 a0_3 a0_4 a0_5 a1_0 a1_1 a1_2 t479 _ A4.out).mono ?_); rintro e w45 ⟨rfl, hb⟩; refine ⟨_, rfl, ?_⟩; replace BK476 := Aside0.mk (bkb BK476.out hb); replace BK477 := Aside0.mk (bkb BK477.out hb); replace BK478 := Aside0.mk (bkb BK478.out hb); replace HB := Aside0.mk (bst HB.out hb); (try clear hb); (try clear hb2); (try clear hk); (try clear hi); have hcz46_0 := cz6 BK478.out; have hfz46_0 := blk_frozen BK478.out))
    refine bodyPost_ret (results_ctt rfl _ _ gb478 39 #[.int .i64 0, .int .i64 0, .int .i64 0, .int .i64 0, .int .i64 0, .bool false] (0, 0) _ rfl (bkt BK478.out) Try.underlying39 rfl (by kernel_rfl)) rfl ?_
    exact bfin (bel HB.out)

/-! ### cycle_Force: function 29 -/
def cycle_Force.f (k : Nat) (a0_0 : Int) (a0_1 : Int) (a0_2 : Int) (a0_3 : Int) (a0_4 : Int) (a0_5 : Bool) (a1_0 : Int) (a1_1 : Int) (a1_2 : Int) : Option (Int × Int × Int × Int × Int × Bool × Int) := (cycle_Check.f k a0_0 a0_1 a0_2 a0_3 a0_4 a0_5 a1_0 a1_1 a1_2).bind fun t713 => (if t713 = 0 then ((cycle_forced.f k a0_0 a0_1 a0_2 a0_3 a0_4 a0_5 a1_0 a1_1 a1_2).bind fun bt714 => (some (bt714.1, bt714.2.1, bt714.2.2.1, bt714.2.2.2.1, bt714.2.2.2.2.1, bt714.2.2.2.2.2, 0))) else (some (0, 0, 0, 0, 0, false, t713)))
theorem cycle_Force.mono : ∀ a0 a1 a2 a3 a4 a5 a6 a7 a8 k, LeO (cycle_Force.f k a0 a1 a2 a3 a4 a5 a6 a7 a8) (cycle_Force.f (k + 1) a0 a1 a2 a3 a4 a5 a6 a7 a8) := by
  intro a0 a1 a2 a3 a4 a5 a6 a7 a8 k
  unfold cycle_Force.f
  repeat' first
      | (with_reducible exact cycle_Check.mono _ _ _ _ _ _ _ _ _ _)
      | (with_reducible exact cycle_forced.mono _ _ _ _ _ _ _ _ _ _)
      | (with_reducible exact LeO.refl _)
      | (with_reducible exact LeO.none _)
      | (with_reducible refine LeO.ite ?_ ?_)
      | (with_reducible refine LeO.bind ?_ (fun _ => ?_))
      | exact cycle_Check.mono _ _ _ _ _ _ _ _ _ _
      | exact cycle_forced.mono _ _ _ _ _ _ _ _ _ _
      | exact LeO.none _
      | refine LeO.ite ?_ ?_
      | refine LeO.bind ?_ (fun _ => ?_)
set_option maxHeartbeats 8000000 in
set_option maxRecDepth 100000 in
theorem cycle_Force.calls (k : Nat) (a0_0 : Int) (a0_1 : Int) (a0_2 : Int) (a0_3 : Int) (a0_4 : Int) (a0_5 : Bool) (a1_0 : Int) (a1_1 : Int) (a1_2 : Int) (r1 : Int) (r2 : Int) (r3 : Int) (r4 : Int) (r5 : Int) (r6 : Bool) (r7 : Int) (w : World) (h : cycle_Force.f k a0_0 a0_1 a0_2 a0_3 a0_4 a0_5 a1_0 a1_1 a1_2 = some (r1, r2, r3, r4, r5, r6, r7)) :
    Calls Try.prog 29 #[.agg #[.int .i64 a0_0, .int .i64 a0_1, .int .i64 a0_2, .int .i64 a0_3, .int .i64 a0_4, .bool a0_5], .agg #[.int .i64 a1_0, .int .i64 a1_1, .int .i64 a1_2]] w fun e w' => e = .returned (.tuple #[.agg #[.int .i64 r1, .int .i64 r2, .int .i64 r3, .int .i64 r4, .int .i64 r5, .bool r6], .int .i64 r7]) ∧ Below w.heap.size w w' := by
  have hu39 := Try.underlying39
  have hu23 := Try.underlying23
  have HB := Aside0.mk (Below.refl w.heap.size w)
  have H : ((cycle_Check.f k a0_0 a0_1 a0_2 a0_3 a0_4 a0_5 a1_0 a1_1 a1_2).bind fun t713 => (if t713 = 0 then ((cycle_forced.f k a0_0 a0_1 a0_2 a0_3 a0_4 a0_5 a1_0 a1_1 a1_2).bind fun bt714 => (some (bt714.1, bt714.2.1, bt714.2.2.1, bt714.2.2.2.1, bt714.2.2.2.2.1, bt714.2.2.2.2.2, 0))) else (some (0, 0, 0, 0, 0, false, t713)))) = some (r1, r2, r3, r4, r5, r6, r7) := h
  clear h
  replace H := Option.bind_eq_some_iff.mp H
  obtain ⟨t713, A30, H⟩ := H
  replace H : (if t713 = 0 then ((cycle_forced.f k a0_0 a0_1 a0_2 a0_3 a0_4 a0_5 a1_0 a1_1 a1_2).bind fun bt714 => (some (bt714.1, bt714.2.1, bt714.2.2.1, bt714.2.2.2.1, bt714.2.2.2.2.1, bt714.2.2.2.2.2, 0))) else (some (0, 0, 0, 0, 0, false, t713))) = some (r1, r2, r3, r4, r5, r6, r7) := H
  have A3 := Aside0.mk A30
  clear A30
  by_cases c4 : t713 = 0
  · rw [if_pos c4] at H
    have c4b0 : (t713 == 0) = true := beq_iff_eq.mpr c4
    have c4b1 : (t713 != 0) = false := bne_eq_false_iff_eq.mpr c4
    clear c4
    replace H := Option.bind_eq_some_iff.mp H
    obtain ⟨⟨t714, t715, t716, t717, t718, t719⟩, A50, H⟩ := H
    replace H : (some (t714, t715, t716, t717, t718, t719, 0)) = some (r1, r2, r3, r4, r5, r6, r7) := H
    have A5 := Aside0.mk A50
    clear A50
    simp only [Option.some.injEq, Prod.mk.injEq] at H
    obtain ⟨rfl, rfl, rfl, rfl, rfl, rfl, rfl⟩ := H
    go_enter Try.func29, Try.ntmps29
    go_wp2_with (first | ((with_reducible refine gate_dst (N := 2) rfl ?_); refine bxe (cs := #[.int .i64 a0_0, .int .i64 a0_1, .int .i64 a0_2, .int .i64 a0_3, .int .i64 a0_4, .bool a0_5]) (t := 39) ?_; intro gb710 hg w6 hbox hb; have BK710 := Aside0.mk (hbox); have GW710 := Aside0.mk (bge hg HB.out); have GE710 := Aside0.mk (bge hg HB.out); replace HB := Aside0.mk (bst HB.out hb); clear hb hbox hg) | ((with_reducible refine gate_dst (N := 3) rfl ?_); refine bxe (cs := #[.int .i64 a1_0, .int .i64 a1_1, .int .i64 a1_2]) (t := 23) ?_; intro gb711 hg w7 hbox hb; have BK711 := Aside0.mk (hbox); have GW711 := Aside0.mk (bge hg HB.out); have GE711 := Aside0.mk (bge hg HB.out); have NB710_711 := Aside0.mk ((bkl hg BK710.out)); have NB711_710 := Aside0.mk ((bkg hg BK710.out)); replace BK710 := Aside0.mk (bkb BK710.out hb); replace HB := Aside0.mk (bst HB.out hb); clear hb hbox hg) | ((with_reducible refine gate_dst (N := 4) rfl ?_); refine bxe (cs := #[.int .i64 0, .int .i64 0, .int .i64 0, .int .i64 0, .int .i64 0, .bool false]) (t := 39) ?_; intro gb712 hg w8 hbox hb; have BK712 := Aside0.mk (hbox); have GW712 := Aside0.mk (bge hg HB.out); have GE712 := Aside0.mk (bge hg HB.out); have NB710_712 := Aside0.mk ((bkl hg BK710.out)); have NB712_710 := Aside0.mk ((bkg hg BK710.out)); have NB711_712 := Aside0.mk ((bkl hg BK711.out)); have NB712_711 := Aside0.mk ((bkg hg BK711.out)); replace BK710 := Aside0.mk (bkb BK710.out hb); replace BK711 := Aside0.mk (bkb BK711.out hb); replace HB := Aside0.mk (bst HB.out hb); clear hb hbox hg; have hnb9 := NB710_711.out; have hnc9 := NB711_710.out; have hnb10 := NB710_712.out; have hnc10 := NB712_710.out; have hcz11_0 := cz6 BK710.out; have hfz11_0 := blk_frozen BK710.out; have hnb12 := NB711_712.out; have hnc12 := NB712_711.out; have hcz13_0 := cz3 BK711.out; have hfz13_0 := blk_frozen BK711.out) | ((with_reducible refine gate_callee (f := 19) rfl ?_); refine gsl (some 9) Try.func19 #[.agg #[.int .i64 a0_0, .int .i64 a0_1, .int .i64 a0_2, .int .i64 a0_3, .int .i64 a0_4, .bool a0_5], .agg #[.int .i64 a1_0, .int .i64 a1_1, .int .i64 a1_2]] ?_; (with_reducible refine (cycle_Check.calls k a0_0 a0_1 a0_2 a0_3 a0_4 a0_5 a1_0 a1_1 a1_2 t713 _ A3.out).mono ?_); rintro e w14 ⟨rfl, hb⟩; refine ⟨_, rfl, ?_⟩; replace BK710 := Aside0.mk (bkb BK710.out hb); replace BK711 := Aside0.mk (bkb BK711.out hb); replace BK712 := Aside0.mk (bkb BK712.out hb); replace HB := Aside0.mk (bst HB.out hb); (try clear hb); (try clear hb2); (try clear hk); (try clear hi); have hcz15_0 := cz6 BK710.out; have hfz15_0 := blk_frozen BK710.out; have hcz16_0 := cz3 BK711.out; have hfz16_0 := blk_frozen BK711.out) | ((with_reducible refine gate_callee (f := 46) rfl ?_); refine gsl (some 16) Try.func46 #[.agg #[.int .i64 a0_0, .int .i64 a0_1, .int .i64 a0_2, .int .i64 a0_3, .int .i64 a0_4, .bool a0_5], .agg #[.int .i64 a1_0, .int .i64 a1_1, .int .i64 a1_2]] ?_; (with_reducible refine (cycle_forced.calls k a0_0 a0_1 a0_2 a0_3 a0_4 a0_5 a1_0 a1_1 a1_2 t714 t715 t716 t717 t718 t719 _ A5.out).mono ?_); rintro e w17 ⟨rfl, hb⟩; refine ⟨_, rfl, ?_⟩; replace BK710 := Aside0.mk (bkb BK710.out hb); replace BK711 := Aside0.mk (bkb BK711.out hb); replace BK712 := Aside0.mk (bkb BK712.out hb); replace HB := Aside0.mk (bst HB.out hb); (try clear hb); (try clear hb2); (try clear hk); (try clear hi); have hcz18_0 := cz6 BK712.out; have hfz18_0 := blk_frozen BK712.out))
    refine bodyPost_ret (results_ct rfl _ _ gb712 39 #[.int .i64 t714, .int .i64 t715, .int .i64 t716, .int .i64 t717, .int .i64 t718, .bool t719] (0, 0) _ rfl (bkt BK712.out) Try.underlying39 rfl (by kernel_rfl)) rfl ?_
    exact bfin (bel HB.out)
  · rw [if_neg c4] at H
    have c4b0 : (t713 == 0) = false := beq_eq_false_iff_ne.mpr c4
    have c4b1 : (t713 != 0) = true := bne_iff_ne.mpr c4
    simp only [Option.some.injEq, Prod.mk.injEq] at H
    obtain ⟨rfl, rfl, rfl, rfl, rfl, rfl, rfl⟩ := H
    go_enter Try.func29, Try.ntmps29
    go_wp2_with (first | ((with_reducible refine gate_dst (N := 2) rfl ?_); refine bxe (cs := #[.int .i64 a0_0, .int .i64 a0_1, .int .i64 a0_2, .int .i64 a0_3, .int .i64 a0_4, .bool a0_5]) (t := 39) ?_; intro gb710 hg w19 hbox hb; have BK710 := Aside0.mk (hbox); have GW710 := Aside0.mk (bge hg HB.out); have GE710 := Aside0.mk (bge hg HB.out); replace HB := Aside0.mk (bst HB.out hb); clear hb hbox hg) | ((with_reducible refine gate_dst (N := 3) rfl ?_); refine bxe (cs := #[.int .i64 a1_0, .int .i64 a1_1, .int .i64 a1_2]) (t := 23) ?_; intro gb711 hg w20 hbox hb; have BK711 := Aside0.mk (hbox); have GW711 := Aside0.mk (bge hg HB.out); have GE711 := Aside0.mk (bge hg HB.out); have NB710_711 := Aside0.mk ((bkl hg BK710.out)); have NB711_710 := Aside0.mk ((bkg hg BK710.out)); replace BK710 := Aside0.mk (bkb BK710.out hb); replace HB := Aside0.mk (bst HB.out hb); clear hb hbox hg) | ((with_reducible refine gate_dst (N := 4) rfl ?_); refine bxe (cs := #[.int .i64 0, .int .i64 0, .int .i64 0, .int .i64 0, .int .i64 0, .bool false]) (t := 39) ?_; intro gb712 hg w21 hbox hb; have BK712 := Aside0.mk (hbox); have GW712 := Aside0.mk (bge hg HB.out); have GE712 := Aside0.mk (bge hg HB.out); have NB710_712 := Aside0.mk ((bkl hg BK710.out)); have NB712_710 := Aside0.mk ((bkg hg BK710.out)); have NB711_712 := Aside0.mk ((bkl hg BK711.out)); have NB712_711 := Aside0.mk ((bkg hg BK711.out)); replace BK710 := Aside0.mk (bkb BK710.out hb); replace BK711 := Aside0.mk (bkb BK711.out hb); replace HB := Aside0.mk (bst HB.out hb); clear hb hbox hg; have hnb22 := NB710_711.out; have hnc22 := NB711_710.out; have hnb23 := NB710_712.out; have hnc23 := NB712_710.out; have hcz24_0 := cz6 BK710.out; have hfz24_0 := blk_frozen BK710.out; have hnb25 := NB711_712.out; have hnc25 := NB712_711.out; have hcz26_0 := cz3 BK711.out; have hfz26_0 := blk_frozen BK711.out) | ((with_reducible refine gate_callee (f := 19) rfl ?_); refine gsl (some 9) Try.func19 #[.agg #[.int .i64 a0_0, .int .i64 a0_1, .int .i64 a0_2, .int .i64 a0_3, .int .i64 a0_4, .bool a0_5], .agg #[.int .i64 a1_0, .int .i64 a1_1, .int .i64 a1_2]] ?_; (with_reducible refine (cycle_Check.calls k a0_0 a0_1 a0_2 a0_3 a0_4 a0_5 a1_0 a1_1 a1_2 t713 _ A3.out).mono ?_); rintro e w27 ⟨rfl, hb⟩; refine ⟨_, rfl, ?_⟩; replace BK710 := Aside0.mk (bkb BK710.out hb); replace BK711 := Aside0.mk (bkb BK711.out hb); replace BK712 := Aside0.mk (bkb BK712.out hb); replace HB := Aside0.mk (bst HB.out hb); (try clear hb); (try clear hb2); (try clear hk); (try clear hi); have hcz28_0 := cz6 BK712.out; have hfz28_0 := blk_frozen BK712.out))
    refine bodyPost_ret (results_ct rfl _ _ gb712 39 #[.int .i64 0, .int .i64 0, .int .i64 0, .int .i64 0, .int .i64 0, .bool false] (0, 0) _ rfl (bkt BK712.out) Try.underlying39 rfl (by kernel_rfl)) rfl ?_
    exact bfin (bel HB.out)

end Go.Proofs.Ytmjmdnpenpdmhaa.P
