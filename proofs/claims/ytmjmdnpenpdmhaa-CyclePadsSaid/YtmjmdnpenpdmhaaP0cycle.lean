-- Printed by wip/myprint.py of this repo (over the kit's printer). Not trusted: Lean checks it.
import Derived.Test.YtmjmdnpenpdmhaaP0
import Derived.Test.YtmjmdnpenpdmhaaP0door
import Derived.Test.YtmjmdnpenpdmhaaP0doora
namespace Go.Proofs.Ytmjmdnpenpdmhaa.P
open Go.RowKit Go.Proofs.YtmjmdnpenpdmhaaW.PrintWords Go.Proofs.YtmjmdnpenpdmhaaW.PrintLast Go.Proofs.YtmjmdnpenpdmhaaW.PrintMore
attribute [local go_sem] cell_same1 cell_some1
attribute [local go_sem] max2_int min2_int max_two min_two max_three min_three max_four min_four   -- for this text's walks alone
set_option linter.unusedVariables false
set_option linter.unusedSimpArgs false

/-! ### cycle_worst: function 34 -/
def cycle_worst.f (a0_0 : Int) (a0_1 : Int) (a0_2 : Int) : Option (Int × Int) := (door_Rule.f a0_0 a0_1 a0_2).bind fun t106 => (if t106 = 0 then ((door_Worst.f a0_0 a0_1 a0_2).bind fun bt107 => (some (bt107.1, bt107.2))) else (some (0, t106)))
set_option maxHeartbeats 8000000 in
set_option maxRecDepth 100000 in
theorem cycle_worst.calls (a0_0 : Int) (a0_1 : Int) (a0_2 : Int) (r1 : Int) (r2 : Int) (w : World) (h : cycle_worst.f a0_0 a0_1 a0_2 = some (r1, r2)) :
    Calls Try.prog 34 #[.agg #[.int .i64 a0_0, .int .i64 a0_1, .int .i64 a0_2]] w fun e w' => e = .returned (.tuple #[.int .i64 r1, .int .i64 r2]) ∧ Below w.heap.size w w' := by
  have hu23 := Try.underlying23
  have HB := Aside0.mk (Below.refl w.heap.size w)
  have H : ((door_Rule.f a0_0 a0_1 a0_2).bind fun t106 => (if t106 = 0 then ((door_Worst.f a0_0 a0_1 a0_2).bind fun bt107 => (some (bt107.1, bt107.2))) else (some (0, t106)))) = some (r1, r2) := h
  clear h
  replace H := Option.bind_eq_some_iff.mp H
  obtain ⟨t106, A20, H⟩ := H
  replace H : (if t106 = 0 then ((door_Worst.f a0_0 a0_1 a0_2).bind fun bt107 => (some (bt107.1, bt107.2))) else (some (0, t106))) = some (r1, r2) := H
  have A2 := Aside0.mk A20
  clear A20
  by_cases c3 : t106 = 0
  · rw [if_pos c3] at H
    have c3b0 : (t106 == 0) = true := beq_iff_eq.mpr c3
    have c3b1 : (t106 != 0) = false := bne_eq_false_iff_eq.mpr c3
    clear c3
    replace H := Option.bind_eq_some_iff.mp H
    obtain ⟨⟨t107, t108⟩, A40, H⟩ := H
    replace H : (some (t107, t108)) = some (r1, r2) := H
    have A4 := Aside0.mk A40
    clear A40
    simp only [Option.some.injEq, Prod.mk.injEq] at H
    obtain ⟨rfl, rfl⟩ := H
    go_enter Try.func34, Try.ntmps34
    go_wp2_with (first | ((with_reducible refine gate_dst (N := 1) rfl ?_); refine bxe (cs := #[.int .i64 a0_0, .int .i64 a0_1, .int .i64 a0_2]) (t := 23) ?_; intro gb105 hg w5 hbox hb; have BK105 := Aside0.mk (hbox); have GW105 := Aside0.mk (bge hg HB.out); have GE105 := Aside0.mk (bge hg HB.out); replace HB := Aside0.mk (bst HB.out hb); clear hb hbox hg; have hcz6_0 := cz3 BK105.out; have hfz6_0 := blk_frozen BK105.out) | ((with_reducible refine gate_callee (f := 50) rfl ?_); refine gsl (some 6) Try.func50 #[.agg #[.int .i64 a0_0, .int .i64 a0_1, .int .i64 a0_2]] ?_; (with_reducible refine (door_Rule.calls a0_0 a0_1 a0_2 t106 _ A2.out).mono ?_); rintro e w7 ⟨rfl, hb⟩; refine ⟨_, rfl, ?_⟩; replace BK105 := Aside0.mk (bkb BK105.out hb); replace HB := Aside0.mk (bst HB.out hb); (try clear hb); (try clear hb2); (try clear hk); (try clear hi); have hcz8_0 := cz3 BK105.out; have hfz8_0 := blk_frozen BK105.out) | ((with_reducible refine gate_callee (f := 51) rfl ?_); refine gsl (some 11) Try.func51 #[.agg #[.int .i64 a0_0, .int .i64 a0_1, .int .i64 a0_2]] ?_; (with_reducible refine (door_Worst.calls a0_0 a0_1 a0_2 t107 t108 _ A4.out).mono ?_); rintro e w9 ⟨rfl, hb⟩; refine ⟨_, rfl, ?_⟩; replace BK105 := Aside0.mk (bkb BK105.out hb); replace HB := Aside0.mk (bst HB.out hb); (try clear hb); (try clear hb2); (try clear hk); (try clear hi)))
    go_ret2
    exact bfin (bel HB.out)
  · rw [if_neg c3] at H
    have c3b0 : (t106 == 0) = false := beq_eq_false_iff_ne.mpr c3
    have c3b1 : (t106 != 0) = true := bne_iff_ne.mpr c3
    simp only [Option.some.injEq, Prod.mk.injEq] at H
    obtain ⟨rfl, rfl⟩ := H
    go_enter Try.func34, Try.ntmps34
    go_wp2_with (first | ((with_reducible refine gate_dst (N := 1) rfl ?_); refine bxe (cs := #[.int .i64 a0_0, .int .i64 a0_1, .int .i64 a0_2]) (t := 23) ?_; intro gb105 hg w10 hbox hb; have BK105 := Aside0.mk (hbox); have GW105 := Aside0.mk (bge hg HB.out); have GE105 := Aside0.mk (bge hg HB.out); replace HB := Aside0.mk (bst HB.out hb); clear hb hbox hg; have hcz11_0 := cz3 BK105.out; have hfz11_0 := blk_frozen BK105.out) | ((with_reducible refine gate_callee (f := 50) rfl ?_); refine gsl (some 6) Try.func50 #[.agg #[.int .i64 a0_0, .int .i64 a0_1, .int .i64 a0_2]] ?_; (with_reducible refine (door_Rule.calls a0_0 a0_1 a0_2 t106 _ A2.out).mono ?_); rintro e w12 ⟨rfl, hb⟩; refine ⟨_, rfl, ?_⟩; replace BK105 := Aside0.mk (bkb BK105.out hb); replace HB := Aside0.mk (bst HB.out hb); (try clear hb); (try clear hb2); (try clear hk); (try clear hi)))
    go_ret2
    exact bfin (bel HB.out)

/-! ### cycle_Begin: function 20 -/
def cycle_Begin.f (k : Nat) (a0_0 : Int) (a0_1 : Int) (a0_2 : Int) (a1 : Bool) : Option (Int × Int × Int × Int × Int × Bool × Int) := (cycle_worst.f a0_0 a0_1 a0_2).bind fun bt132 => (if bt132.2 = 0 then (if a1 = true then ((door_Open.f k 0 0 0 0 a0_0 a0_1 a0_2).bind fun bt134 => (some (bt134.1, bt134.2.1, bt134.2.2.1, bt134.2.2.2.1, 0, false, bt134.2.2.2.2))) else (some (0, 0, 0, 0, 0, true, 0))) else (some (0, 0, 0, 0, 0, false, bt132.2)))
theorem cycle_Begin.mono : ∀ a0 a1 a2 a3 k, LeO (cycle_Begin.f k a0 a1 a2 a3) (cycle_Begin.f (k + 1) a0 a1 a2 a3) := by
  intro a0 a1 a2 a3 k
  unfold cycle_Begin.f
  repeat' first
      | (with_reducible exact door_Open.mono _ _ _ _ _ _ _ _)
      | (with_reducible exact LeO.refl _)
      | (with_reducible exact LeO.none _)
      | (with_reducible refine LeO.ite ?_ ?_)
      | (with_reducible refine LeO.bind ?_ (fun _ => ?_))
      | exact door_Open.mono _ _ _ _ _ _ _ _
      | exact LeO.none _
      | refine LeO.ite ?_ ?_
      | refine LeO.bind ?_ (fun _ => ?_)
set_option maxHeartbeats 8000000 in
set_option maxRecDepth 100000 in
theorem cycle_Begin.calls (k : Nat) (a0_0 : Int) (a0_1 : Int) (a0_2 : Int) (a1 : Bool) (r1 : Int) (r2 : Int) (r3 : Int) (r4 : Int) (r5 : Int) (r6 : Bool) (r7 : Int) (w : World) (h : cycle_Begin.f k a0_0 a0_1 a0_2 a1 = some (r1, r2, r3, r4, r5, r6, r7)) :
    Calls Try.prog 20 #[.agg #[.int .i64 a0_0, .int .i64 a0_1, .int .i64 a0_2], .bool a1] w fun e w' => e = .returned (.tuple #[.agg #[.int .i64 r1, .int .i64 r2, .int .i64 r3, .int .i64 r4, .int .i64 r5, .bool r6], .int .i64 r7]) ∧ Below w.heap.size w w' := by
  have hu23 := Try.underlying23
  have hu39 := Try.underlying39
  have hu37 := Try.underlying37
  have HB := Aside0.mk (Below.refl w.heap.size w)
  have H : ((cycle_worst.f a0_0 a0_1 a0_2).bind fun bt132 => (if bt132.2 = 0 then (if a1 = true then ((door_Open.f k 0 0 0 0 a0_0 a0_1 a0_2).bind fun bt134 => (some (bt134.1, bt134.2.1, bt134.2.2.1, bt134.2.2.2.1, 0, false, bt134.2.2.2.2))) else (some (0, 0, 0, 0, 0, true, 0))) else (some (0, 0, 0, 0, 0, false, bt132.2)))) = some (r1, r2, r3, r4, r5, r6, r7) := h
  clear h
  replace H := Option.bind_eq_some_iff.mp H
  obtain ⟨⟨t132, t133⟩, A30, H⟩ := H
  replace H : (if t133 = 0 then (if a1 = true then ((door_Open.f k 0 0 0 0 a0_0 a0_1 a0_2).bind fun bt134 => (some (bt134.1, bt134.2.1, bt134.2.2.1, bt134.2.2.2.1, 0, false, bt134.2.2.2.2))) else (some (0, 0, 0, 0, 0, true, 0))) else (some (0, 0, 0, 0, 0, false, t133))) = some (r1, r2, r3, r4, r5, r6, r7) := H
  have A3 := Aside0.mk A30
  clear A30
  by_cases c4 : t133 = 0
  · rw [if_pos c4] at H
    have c4b0 : (t133 == 0) = true := beq_iff_eq.mpr c4
    have c4b1 : (t133 != 0) = false := bne_eq_false_iff_eq.mpr c4
    clear c4
    by_cases c5 : a1 = true
    · subst c5
      have H1 : ((door_Open.f k 0 0 0 0 a0_0 a0_1 a0_2).bind fun bt134 => (some (bt134.1, bt134.2.1, bt134.2.2.1, bt134.2.2.2.1, 0, false, bt134.2.2.2.2))) = some (r1, r2, r3, r4, r5, r6, r7) := by rw [if_pos rfl] at H; exact H
      clear H
      have H := H1
      clear H1
      replace H := Option.bind_eq_some_iff.mp H
      obtain ⟨⟨t134, t135, t136, t137, t138⟩, A60, H⟩ := H
      replace H : (some (t134, t135, t136, t137, 0, false, t138)) = some (r1, r2, r3, r4, r5, r6, r7) := H
      have A6 := Aside0.mk A60
      clear A60
      simp only [Option.some.injEq, Prod.mk.injEq] at H
      obtain ⟨rfl, rfl, rfl, rfl, rfl, rfl, rfl⟩ := H
      go_enter Try.func20, Try.ntmps20
      go_wp2_with (first | ((with_reducible refine gate_dst (N := 2) rfl ?_); refine bxe (cs := #[.int .i64 a0_0, .int .i64 a0_1, .int .i64 a0_2]) (t := 23) ?_; intro gb130 hg w7 hbox hb; have BK130 := Aside0.mk (hbox); have GW130 := Aside0.mk (bge hg HB.out); have GE130 := Aside0.mk (bge hg HB.out); replace HB := Aside0.mk (bst HB.out hb); clear hb hbox hg) | ((with_reducible refine gate_dst (N := 4) rfl ?_); refine bxe (cs := #[.int .i64 0, .int .i64 0, .int .i64 0, .int .i64 0, .int .i64 0, .bool false]) (t := 39) ?_; intro gb131 hg w8 hbox hb; have BK131 := Aside0.mk (hbox); have GW131 := Aside0.mk (bge hg HB.out); have GE131 := Aside0.mk (bge hg HB.out); have NB130_131 := Aside0.mk ((bkl hg BK130.out)); have NB131_130 := Aside0.mk ((bkg hg BK130.out)); replace BK130 := Aside0.mk (bkb BK130.out hb); replace HB := Aside0.mk (bst HB.out hb); clear hb hbox hg; have hnb9 := NB130_131.out; have hnc9 := NB131_130.out; have hcz10_0 := cz3 BK130.out; have hfz10_0 := blk_frozen BK130.out) | ((with_reducible refine gate_callee (f := 34) rfl ?_); refine gsl (some 12) Try.func34 #[.agg #[.int .i64 a0_0, .int .i64 a0_1, .int .i64 a0_2]] ?_; (with_reducible refine (cycle_worst.calls a0_0 a0_1 a0_2 t132 t133 _ A3.out).mono ?_); rintro e w11 ⟨rfl, hb⟩; refine ⟨_, rfl, ?_⟩; replace BK130 := Aside0.mk (bkb BK130.out hb); replace BK131 := Aside0.mk (bkb BK131.out hb); replace HB := Aside0.mk (bst HB.out hb); (try clear hb); (try clear hb2); (try clear hk); (try clear hi); have hcz12_0 := cz3 BK130.out; have hfz12_0 := blk_frozen BK130.out) | ((with_reducible refine gate_callee (f := 37) rfl ?_); refine gsl (some 25) Try.func37 #[.agg #[.int .i64 0, .int .i64 0, .int .i64 0, .int .i64 0], .agg #[.int .i64 a0_0, .int .i64 a0_1, .int .i64 a0_2]] ?_; (with_reducible refine (door_Open.calls k 0 0 0 0 a0_0 a0_1 a0_2 t134 t135 t136 t137 t138 _ A6.out).mono ?_); rintro e w13 ⟨rfl, hb⟩; refine ⟨_, rfl, ?_⟩; replace BK130 := Aside0.mk (bkb BK130.out hb); replace BK131 := Aside0.mk (bkb BK131.out hb); replace HB := Aside0.mk (bst HB.out hb); (try clear hb); (try clear hb2); (try clear hk); (try clear hi)) | ((with_reducible refine gate_dst (N := 8) rfl ?_); refine bxe (cs := #[.int .i64 0, .int .i64 0, .int .i64 0, .int .i64 0]) (t := 37) ?_; intro gb139 hg w14 hbox hb; have BK139 := Aside0.mk (hbox); have GW139 := Aside0.mk (bge hg HB.out); have GE139 := Aside0.mk (bge hg HB.out); have NB130_139 := Aside0.mk ((bkl hg BK130.out)); have NB139_130 := Aside0.mk ((bkg hg BK130.out)); have NB131_139 := Aside0.mk ((bkl hg BK131.out)); have NB139_131 := Aside0.mk ((bkg hg BK131.out)); replace BK130 := Aside0.mk (bkb BK130.out hb); replace BK131 := Aside0.mk (bkb BK131.out hb); replace HB := Aside0.mk (bst HB.out hb); clear hb hbox hg; have hnb15 := NB139_130.out; have hnc15 := NB130_139.out; have hnb16 := NB139_131.out; have hnc16 := NB131_139.out; have hcz17_0 := cz4 BK139.out; have hfz17_0 := blk_frozen BK139.out; have hcz18_0 := cz6 BK131.out; have hfz18_0 := blk_frozen BK131.out))
      refine bodyPost_ret (results_ct rfl _ _ gb131 39 #[.int .i64 t134, .int .i64 t135, .int .i64 t136, .int .i64 t137, .int .i64 0, .bool false] (0, 0) _ rfl (bkt BK131.out) Try.underlying39 rfl (by kernel_rfl)) rfl ?_
      exact bfin (bel HB.out)
    · replace c5 := Bool.eq_false_iff.mpr c5
      subst c5
      have H1 : (some (0, 0, 0, 0, 0, true, 0)) = some (r1, r2, r3, r4, r5, r6, r7) := by rw [if_neg (show ¬ (false = true) by decide)] at H; exact H
      clear H
      have H := H1
      clear H1
      simp only [Option.some.injEq, Prod.mk.injEq] at H
      obtain ⟨rfl, rfl, rfl, rfl, rfl, rfl, rfl⟩ := H
      go_enter Try.func20, Try.ntmps20
      go_wp2_with (first | ((with_reducible refine gate_dst (N := 2) rfl ?_); refine bxe (cs := #[.int .i64 a0_0, .int .i64 a0_1, .int .i64 a0_2]) (t := 23) ?_; intro gb130 hg w19 hbox hb; have BK130 := Aside0.mk (hbox); have GW130 := Aside0.mk (bge hg HB.out); have GE130 := Aside0.mk (bge hg HB.out); replace HB := Aside0.mk (bst HB.out hb); clear hb hbox hg) | ((with_reducible refine gate_dst (N := 4) rfl ?_); refine bxe (cs := #[.int .i64 0, .int .i64 0, .int .i64 0, .int .i64 0, .int .i64 0, .bool false]) (t := 39) ?_; intro gb131 hg w20 hbox hb; have BK131 := Aside0.mk (hbox); have GW131 := Aside0.mk (bge hg HB.out); have GE131 := Aside0.mk (bge hg HB.out); have NB130_131 := Aside0.mk ((bkl hg BK130.out)); have NB131_130 := Aside0.mk ((bkg hg BK130.out)); replace BK130 := Aside0.mk (bkb BK130.out hb); replace HB := Aside0.mk (bst HB.out hb); clear hb hbox hg; have hnb21 := NB130_131.out; have hnc21 := NB131_130.out; have hcz22_0 := cz3 BK130.out; have hfz22_0 := blk_frozen BK130.out) | ((with_reducible refine gate_callee (f := 34) rfl ?_); refine gsl (some 12) Try.func34 #[.agg #[.int .i64 a0_0, .int .i64 a0_1, .int .i64 a0_2]] ?_; (with_reducible refine (cycle_worst.calls a0_0 a0_1 a0_2 t132 t133 _ A3.out).mono ?_); rintro e w23 ⟨rfl, hb⟩; refine ⟨_, rfl, ?_⟩; replace BK130 := Aside0.mk (bkb BK130.out hb); replace BK131 := Aside0.mk (bkb BK131.out hb); replace HB := Aside0.mk (bst HB.out hb); (try clear hb); (try clear hb2); (try clear hk); (try clear hi); have hcz24_0 := cz6 BK131.out; have hfz24_0 := blk_frozen BK131.out))
      refine bodyPost_ret (results_ct rfl _ _ gb131 39 #[.int .i64 0, .int .i64 0, .int .i64 0, .int .i64 0, .int .i64 0, .bool true] (0, 0) _ rfl (bkt BK131.out) Try.underlying39 rfl (by kernel_rfl)) rfl ?_
      exact bfin (bel HB.out)
  · rw [if_neg c4] at H
    have c4b0 : (t133 == 0) = false := beq_eq_false_iff_ne.mpr c4
    have c4b1 : (t133 != 0) = true := bne_iff_ne.mpr c4
    simp only [Option.some.injEq, Prod.mk.injEq] at H
    obtain ⟨rfl, rfl, rfl, rfl, rfl, rfl, rfl⟩ := H
    go_enter Try.func20, Try.ntmps20
    go_wp2_with (first | ((with_reducible refine gate_dst (N := 2) rfl ?_); refine bxe (cs := #[.int .i64 a0_0, .int .i64 a0_1, .int .i64 a0_2]) (t := 23) ?_; intro gb130 hg w25 hbox hb; have BK130 := Aside0.mk (hbox); have GW130 := Aside0.mk (bge hg HB.out); have GE130 := Aside0.mk (bge hg HB.out); replace HB := Aside0.mk (bst HB.out hb); clear hb hbox hg) | ((with_reducible refine gate_dst (N := 4) rfl ?_); refine bxe (cs := #[.int .i64 0, .int .i64 0, .int .i64 0, .int .i64 0, .int .i64 0, .bool false]) (t := 39) ?_; intro gb131 hg w26 hbox hb; have BK131 := Aside0.mk (hbox); have GW131 := Aside0.mk (bge hg HB.out); have GE131 := Aside0.mk (bge hg HB.out); have NB130_131 := Aside0.mk ((bkl hg BK130.out)); have NB131_130 := Aside0.mk ((bkg hg BK130.out)); replace BK130 := Aside0.mk (bkb BK130.out hb); replace HB := Aside0.mk (bst HB.out hb); clear hb hbox hg; have hnb27 := NB130_131.out; have hnc27 := NB131_130.out; have hcz28_0 := cz3 BK130.out; have hfz28_0 := blk_frozen BK130.out) | ((with_reducible refine gate_callee (f := 34) rfl ?_); refine gsl (some 12) Try.func34 #[.agg #[.int .i64 a0_0, .int .i64 a0_1, .int .i64 a0_2]] ?_; (with_reducible refine (cycle_worst.calls a0_0 a0_1 a0_2 t132 t133 _ A3.out).mono ?_); rintro e w29 ⟨rfl, hb⟩; refine ⟨_, rfl, ?_⟩; replace BK130 := Aside0.mk (bkb BK130.out hb); replace BK131 := Aside0.mk (bkb BK131.out hb); replace HB := Aside0.mk (bst HB.out hb); (try clear hb); (try clear hb2); (try clear hk); (try clear hi); have hcz30_0 := cz6 BK131.out; have hfz30_0 := blk_frozen BK131.out))
    refine bodyPost_ret (results_ct rfl _ _ gb131 39 #[.int .i64 0, .int .i64 0, .int .i64 0, .int .i64 0, .int .i64 0, .bool false] (0, 0) _ rfl (bkt BK131.out) Try.underlying39 rfl (by kernel_rfl)) rfl ?_
    exact bfin (bel HB.out)

/-! ### cycle_forced: function 46 -/
def cycle_forced.f (k : Nat) (a0_0 : Int) (a0_1 : Int) (a0_2 : Int) (a0_3 : Int) (a0_4 : Int) (a0_5 : Bool) (a1_0 : Int) (a1_1 : Int) (a1_2 : Int) : Option (Int × Int × Int × Int × Int × Bool) := (door_Force.f k a0_0 a0_1 a0_2 a0_3 a1_0 a1_1 a1_2).bind fun bt147 => (if bt147.1 = 0 then (some (bt147.1, bt147.2.1, bt147.2.2.1, bt147.2.2.2.1, a0_4, true)) else (some (bt147.1, bt147.2.1, bt147.2.2.1, bt147.2.2.2.1, a0_4, a0_5)))
theorem cycle_forced.mono : ∀ a0 a1 a2 a3 a4 a5 a6 a7 a8 k, LeO (cycle_forced.f k a0 a1 a2 a3 a4 a5 a6 a7 a8) (cycle_forced.f (k + 1) a0 a1 a2 a3 a4 a5 a6 a7 a8) := by
  intro a0 a1 a2 a3 a4 a5 a6 a7 a8 k
  unfold cycle_forced.f
  repeat' first
      | (with_reducible exact door_Force.mono _ _ _ _ _ _ _ _)
      | (with_reducible exact LeO.refl _)
      | (with_reducible exact LeO.none _)
      | (with_reducible refine LeO.ite ?_ ?_)
      | (with_reducible refine LeO.bind ?_ (fun _ => ?_))
      | exact door_Force.mono _ _ _ _ _ _ _ _
      | exact LeO.none _
      | refine LeO.ite ?_ ?_
      | refine LeO.bind ?_ (fun _ => ?_)
set_option maxHeartbeats 8000000 in
set_option maxRecDepth 100000 in
theorem cycle_forced.calls (k : Nat) (a0_0 : Int) (a0_1 : Int) (a0_2 : Int) (a0_3 : Int) (a0_4 : Int) (a0_5 : Bool) (a1_0 : Int) (a1_1 : Int) (a1_2 : Int) (r1 : Int) (r2 : Int) (r3 : Int) (r4 : Int) (r5 : Int) (r6 : Bool) (w : World) (h : cycle_forced.f k a0_0 a0_1 a0_2 a0_3 a0_4 a0_5 a1_0 a1_1 a1_2 = some (r1, r2, r3, r4, r5, r6)) :
    Calls Try.prog 46 #[.agg #[.int .i64 a0_0, .int .i64 a0_1, .int .i64 a0_2, .int .i64 a0_3, .int .i64 a0_4, .bool a0_5], .agg #[.int .i64 a1_0, .int .i64 a1_1, .int .i64 a1_2]] w fun e w' => e = .returned (.agg #[.int .i64 r1, .int .i64 r2, .int .i64 r3, .int .i64 r4, .int .i64 r5, .bool r6]) ∧ Below w.heap.size w w' := by
  have hu39 := Try.underlying39
  have hu23 := Try.underlying23
  have hu37 := Try.underlying37
  have HB := Aside0.mk (Below.refl w.heap.size w)
  have H : ((door_Force.f k a0_0 a0_1 a0_2 a0_3 a1_0 a1_1 a1_2).bind fun bt147 => (if bt147.1 = 0 then (some (bt147.1, bt147.2.1, bt147.2.2.1, bt147.2.2.2.1, a0_4, true)) else (some (bt147.1, bt147.2.1, bt147.2.2.1, bt147.2.2.2.1, a0_4, a0_5)))) = some (r1, r2, r3, r4, r5, r6) := h
  clear h
  replace H := Option.bind_eq_some_iff.mp H
  obtain ⟨⟨t147, t148, t149, t150, t151⟩, A30, H⟩ := H
  replace H : (if t147 = 0 then (some (t147, t148, t149, t150, a0_4, true)) else (some (t147, t148, t149, t150, a0_4, a0_5))) = some (r1, r2, r3, r4, r5, r6) := H
  have A3 := Aside0.mk A30
  clear A30
  by_cases c4 : t147 = 0
  · rw [if_pos c4] at H
    have c4b0 : (t147 == 0) = true := beq_iff_eq.mpr c4
    have c4b1 : (t147 != 0) = false := bne_eq_false_iff_eq.mpr c4
    clear c4
    simp only [Option.some.injEq, Prod.mk.injEq] at H
    obtain ⟨rfl, rfl, rfl, rfl, rfl, rfl⟩ := H
    go_enter Try.func46, Try.ntmps46
    go_wp2_with (first | ((with_reducible refine gate_dst (N := 2) rfl ?_); refine bxe (cs := #[.int .i64 a0_0, .int .i64 a0_1, .int .i64 a0_2, .int .i64 a0_3, .int .i64 a0_4, .bool a0_5]) (t := 39) ?_; intro gb144 hg w5 hbox hb; have BK144 := Aside0.mk (hbox); have GW144 := Aside0.mk (bge hg HB.out); have GE144 := Aside0.mk (bge hg HB.out); replace HB := Aside0.mk (bst HB.out hb); clear hb hbox hg) | ((with_reducible refine gate_dst (N := 3) rfl ?_); refine bxe (cs := #[.int .i64 a1_0, .int .i64 a1_1, .int .i64 a1_2]) (t := 23) ?_; intro gb145 hg w6 hbox hb; have BK145 := Aside0.mk (hbox); have GW145 := Aside0.mk (bge hg HB.out); have GE145 := Aside0.mk (bge hg HB.out); have NB144_145 := Aside0.mk ((bkl hg BK144.out)); have NB145_144 := Aside0.mk ((bkg hg BK144.out)); replace BK144 := Aside0.mk (bkb BK144.out hb); replace HB := Aside0.mk (bst HB.out hb); clear hb hbox hg) | ((with_reducible refine gate_dst (N := 4) rfl ?_); refine bxe (cs := #[.int .i64 0, .int .i64 0, .int .i64 0, .int .i64 0, .int .i64 0, .bool false]) (t := 39) ?_; intro gb146 hg w7 hbox hb; have BK146 := Aside0.mk (hbox); have GW146 := Aside0.mk (bge hg HB.out); have GE146 := Aside0.mk (bge hg HB.out); have NB144_146 := Aside0.mk ((bkl hg BK144.out)); have NB146_144 := Aside0.mk ((bkg hg BK144.out)); have NB145_146 := Aside0.mk ((bkl hg BK145.out)); have NB146_145 := Aside0.mk ((bkg hg BK145.out)); replace BK144 := Aside0.mk (bkb BK144.out hb); replace BK145 := Aside0.mk (bkb BK145.out hb); replace HB := Aside0.mk (bst HB.out hb); clear hb hbox hg; have hnb8 := NB144_145.out; have hnc8 := NB145_144.out; have hnb9 := NB144_146.out; have hnc9 := NB146_144.out; have hcz10_0 := cz6 BK144.out; have hfz10_0 := blk_frozen BK144.out; have hnb11 := NB145_146.out; have hnc11 := NB146_145.out; have hcz12_0 := cz3 BK145.out; have hfz12_0 := blk_frozen BK145.out) | ((with_reducible refine gate_callee (f := 59) rfl ?_); refine gsl (some 9) Try.func59 #[.agg #[.int .i64 a0_0, .int .i64 a0_1, .int .i64 a0_2, .int .i64 a0_3], .agg #[.int .i64 a1_0, .int .i64 a1_1, .int .i64 a1_2]] ?_; (with_reducible refine (door_Force.calls k a0_0 a0_1 a0_2 a0_3 a1_0 a1_1 a1_2 t147 t148 t149 t150 t151 _ A3.out).mono ?_); rintro e w13 ⟨rfl, hb⟩; refine ⟨_, rfl, ?_⟩; replace BK144 := Aside0.mk (bkb BK144.out hb); replace BK145 := Aside0.mk (bkb BK145.out hb); replace BK146 := Aside0.mk (bkb BK146.out hb); replace HB := Aside0.mk (bst HB.out hb); (try clear hb); (try clear hb2); (try clear hk); (try clear hi); have hcz14_0 := cz6 BK144.out; have hfz14_0 := blk_frozen BK144.out; have hcz15_0 := cz6 BK146.out; have hfz15_0 := blk_frozen BK146.out))
    refine bodyPost_ret (results_cell_row rfl _ _ gb146 39 #[.int .i64 t147, .int .i64 t148, .int .i64 t149, .int .i64 t150, .int .i64 a0_4, .bool true] (0, 0) _ rfl (bkt BK146.out) Try.underlying39 rfl (by kernel_rfl)) rfl ?_
    exact bfin (bel HB.out)
  · rw [if_neg c4] at H
    have c4b0 : (t147 == 0) = false := beq_eq_false_iff_ne.mpr c4
    have c4b1 : (t147 != 0) = true := bne_iff_ne.mpr c4
    simp only [Option.some.injEq, Prod.mk.injEq] at H
    obtain ⟨rfl, rfl, rfl, rfl, rfl, rfl⟩ := H
    go_enter Try.func46, Try.ntmps46
    go_wp2_with (first | ((with_reducible refine gate_dst (N := 2) rfl ?_); refine bxe (cs := #[.int .i64 a0_0, .int .i64 a0_1, .int .i64 a0_2, .int .i64 a0_3, .int .i64 a0_4, .bool a0_5]) (t := 39) ?_; intro gb144 hg w16 hbox hb; have BK144 := Aside0.mk (hbox); have GW144 := Aside0.mk (bge hg HB.out); have GE144 := Aside0.mk (bge hg HB.out); replace HB := Aside0.mk (bst HB.out hb); clear hb hbox hg) | ((with_reducible refine gate_dst (N := 3) rfl ?_); refine bxe (cs := #[.int .i64 a1_0, .int .i64 a1_1, .int .i64 a1_2]) (t := 23) ?_; intro gb145 hg w17 hbox hb; have BK145 := Aside0.mk (hbox); have GW145 := Aside0.mk (bge hg HB.out); have GE145 := Aside0.mk (bge hg HB.out); have NB144_145 := Aside0.mk ((bkl hg BK144.out)); have NB145_144 := Aside0.mk ((bkg hg BK144.out)); replace BK144 := Aside0.mk (bkb BK144.out hb); replace HB := Aside0.mk (bst HB.out hb); clear hb hbox hg) | ((with_reducible refine gate_dst (N := 4) rfl ?_); refine bxe (cs := #[.int .i64 0, .int .i64 0, .int .i64 0, .int .i64 0, .int .i64 0, .bool false]) (t := 39) ?_; intro gb146 hg w18 hbox hb; have BK146 := Aside0.mk (hbox); have GW146 := Aside0.mk (bge hg HB.out); have GE146 := Aside0.mk (bge hg HB.out); have NB144_146 := Aside0.mk ((bkl hg BK144.out)); have NB146_144 := Aside0.mk ((bkg hg BK144.out)); have NB145_146 := Aside0.mk ((bkl hg BK145.out)); have NB146_145 := Aside0.mk ((bkg hg BK145.out)); replace BK144 := Aside0.mk (bkb BK144.out hb); replace BK145 := Aside0.mk (bkb BK145.out hb); replace HB := Aside0.mk (bst HB.out hb); clear hb hbox hg; have hnb19 := NB144_145.out; have hnc19 := NB145_144.out; have hnb20 := NB144_146.out; have hnc20 := NB146_144.out; have hcz21_0 := cz6 BK144.out; have hfz21_0 := blk_frozen BK144.out; have hnb22 := NB145_146.out; have hnc22 := NB146_145.out; have hcz23_0 := cz3 BK145.out; have hfz23_0 := blk_frozen BK145.out) | ((with_reducible refine gate_callee (f := 59) rfl ?_); refine gsl (some 9) Try.func59 #[.agg #[.int .i64 a0_0, .int .i64 a0_1, .int .i64 a0_2, .int .i64 a0_3], .agg #[.int .i64 a1_0, .int .i64 a1_1, .int .i64 a1_2]] ?_; (with_reducible refine (door_Force.calls k a0_0 a0_1 a0_2 a0_3 a1_0 a1_1 a1_2 t147 t148 t149 t150 t151 _ A3.out).mono ?_); rintro e w24 ⟨rfl, hb⟩; refine ⟨_, rfl, ?_⟩; replace BK144 := Aside0.mk (bkb BK144.out hb); replace BK145 := Aside0.mk (bkb BK145.out hb); replace BK146 := Aside0.mk (bkb BK146.out hb); replace HB := Aside0.mk (bst HB.out hb); (try clear hb); (try clear hb2); (try clear hk); (try clear hi); have hcz25_0 := cz6 BK144.out; have hfz25_0 := blk_frozen BK144.out; have hcz26_0 := cz6 BK146.out; have hfz26_0 := blk_frozen BK146.out))
    refine bodyPost_ret (results_cell_row rfl _ _ gb146 39 #[.int .i64 t147, .int .i64 t148, .int .i64 t149, .int .i64 t150, .int .i64 a0_4, .bool a0_5] (0, 0) _ rfl (bkt BK146.out) Try.underlying39 rfl (by kernel_rfl)) rfl ?_
    exact bfin (bel HB.out)

-- NOT PRINTED: function 48 (cycle_run_ticks)

end Go.Proofs.Ytmjmdnpenpdmhaa.P
