-- Printed by wip/myprint.py of this repo (over the kit's printer). Not trusted: Lean checks it.
import Derived.Test.YtmjmdnpenpdmhaaP0
namespace Go.Proofs.Ytmjmdnpenpdmhaa.P
open Go.RowKit Go.Proofs.YtmjmdnpenpdmhaaW.PrintWords Go.Proofs.YtmjmdnpenpdmhaaW.PrintLast Go.Proofs.YtmjmdnpenpdmhaaW.PrintMore
attribute [local go_sem] cell_same1 cell_some1
attribute [local go_sem] max2_int min2_int max_two min_two max_three min_three max_four min_four   -- for this text's walks alone
set_option linter.unusedVariables false
set_option linter.unusedSimpArgs false

/-! ### door_Rule: function 50 -/
def door_Rule.f (a0_0 : Int) (a0_1 : Int) (a0_2 : Int) : Option (Int) := if a0_0 < 1 then (some 2) else (if a0_0 > 20 then (some 2) else (if a0_1 < 1 then (some 2) else (if a0_1 > 50 then (some 2) else (if a0_2 < 0 then (some 2) else (if a0_2 > 5 then (some 2) else (some 0))))))
set_option maxHeartbeats 8000000 in
set_option maxRecDepth 100000 in
theorem door_Rule.calls (a0_0 : Int) (a0_1 : Int) (a0_2 : Int) (r : Int) (w : World) (h : door_Rule.f a0_0 a0_1 a0_2 = some r) :
  Calls Try.prog 50 #[.agg #[.int .i64 a0_0, .int .i64 a0_1, .int .i64 a0_2]] w fun e w' => e = .returned (.int .i64 r) ∧ Below w.heap.size w w' := by
 have hu23 := Try.underlying23
 have HB := Aside0.mk (Below.refl w.heap.size w)
 have H : (if a0_0 < 1 then (some 2) else (if a0_0 > 20 then (some 2) else (if a0_1 < 1 then (some 2) else (if a0_1 > 50 then (some 2) else (if a0_2 < 0 then (some 2) else (if a0_2 > 5 then (some 2) else (some 0))))))) = some r := h
 clear h
 by_cases c2 : a0_0 < 1
 ·rw [if_pos c2] at H
  have c2b0 : decide (a0_0 < 1) = true := decide_eq_true c2
  clear c2
  obtain rfl := Option.some.inj H
  go_enter Try.func50, Try.ntmps50
  go_wp2_with (first | ((with_reducible refine gate_dst (N := 1) rfl ?_); refine bxe (cs := #[.int .i64 a0_0, .int .i64 a0_1, .int .i64 a0_2]) (t := 23) ?_; intro gb102 hg w3 hbox hb; have BK102 := Aside0.mk (hbox); have GW102 := Aside0.mk (bge hg HB.out); have GE102 := Aside0.mk (bge hg HB.out); replace HB := Aside0.mk (bst HB.out hb); clear hb hbox hg; have hcz4_0 := cz3 BK102.out; have hfz4_0 := blk_frozen BK102.out))
  go_ret
  exact bfin (bel HB.out)
 ·rw [if_neg c2] at H
  have c2b0 : decide (a0_0 < 1) = false := decide_eq_false c2
  clear c2
  by_cases c5 : a0_0 > 20
  ·rw [if_pos c5] at H
   have c5b0 : decide (20 < a0_0) = true := decide_eq_true c5
   clear c5
   obtain rfl := Option.some.inj H
   go_enter Try.func50, Try.ntmps50
   go_wp2_with (first | ((with_reducible refine gate_dst (N := 1) rfl ?_); refine bxe (cs := #[.int .i64 a0_0, .int .i64 a0_1, .int .i64 a0_2]) (t := 23) ?_; intro gb102 hg w6 hbox hb; have BK102 := Aside0.mk (hbox); have GW102 := Aside0.mk (bge hg HB.out); have GE102 := Aside0.mk (bge hg HB.out); replace HB := Aside0.mk (bst HB.out hb); clear hb hbox hg; have hcz7_0 := cz3 BK102.out; have hfz7_0 := blk_frozen BK102.out))
   go_ret
   exact bfin (bel HB.out)
  ·rw [if_neg c5] at H
   have c5b0 : decide (20 < a0_0) = false := decide_eq_false c5
   clear c5
   by_cases c8 : a0_1 < 1
   ·rw [if_pos c8] at H
    have c8b0 : decide (a0_1 < 1) = true := decide_eq_true c8
    clear c8
    obtain rfl := Option.some.inj H
    go_enter Try.func50, Try.ntmps50
    go_wp2_with (first | ((with_reducible refine gate_dst (N := 1) rfl ?_); refine bxe (cs := #[.int .i64 a0_0, .int .i64 a0_1, .int .i64 a0_2]) (t := 23) ?_; intro gb102 hg w9 hbox hb; have BK102 := Aside0.mk (hbox); have GW102 := Aside0.mk (bge hg HB.out); have GE102 := Aside0.mk (bge hg HB.out); replace HB := Aside0.mk (bst HB.out hb); clear hb hbox hg; have hcz10_0 := cz3 BK102.out; have hfz10_0 := blk_frozen BK102.out))
    go_ret
    exact bfin (bel HB.out)
   ·rw [if_neg c8] at H
    have c8b0 : decide (a0_1 < 1) = false := decide_eq_false c8
    clear c8
    by_cases c11 : a0_1 > 50
    ·rw [if_pos c11] at H
     have c11b0 : decide (50 < a0_1) = true := decide_eq_true c11
     clear c11
     obtain rfl := Option.some.inj H
     go_enter Try.func50, Try.ntmps50
     go_wp2_with (first | ((with_reducible refine gate_dst (N := 1) rfl ?_); refine bxe (cs := #[.int .i64 a0_0, .int .i64 a0_1, .int .i64 a0_2]) (t := 23) ?_; intro gb102 hg w12 hbox hb; have BK102 := Aside0.mk (hbox); have GW102 := Aside0.mk (bge hg HB.out); have GE102 := Aside0.mk (bge hg HB.out); replace HB := Aside0.mk (bst HB.out hb); clear hb hbox hg; have hcz13_0 := cz3 BK102.out; have hfz13_0 := blk_frozen BK102.out))
     go_ret
     exact bfin (bel HB.out)
    ·rw [if_neg c11] at H
     have c11b0 : decide (50 < a0_1) = false := decide_eq_false c11
     clear c11
     by_cases c14 : a0_2 < 0
     ·rw [if_pos c14] at H
      have c14b0 : decide (a0_2 < 0) = true := decide_eq_true c14
      clear c14
      obtain rfl := Option.some.inj H
      go_enter Try.func50, Try.ntmps50
      go_wp2_with (first | ((with_reducible refine gate_dst (N := 1) rfl ?_); refine bxe (cs := #[.int .i64 a0_0, .int .i64 a0_1, .int .i64 a0_2]) (t := 23) ?_; intro gb102 hg w15 hbox hb; have BK102 := Aside0.mk (hbox); have GW102 := Aside0.mk (bge hg HB.out); have GE102 := Aside0.mk (bge hg HB.out); replace HB := Aside0.mk (bst HB.out hb); clear hb hbox hg; have hcz16_0 := cz3 BK102.out; have hfz16_0 := blk_frozen BK102.out))
      go_ret
      exact bfin (bel HB.out)
     ·rw [if_neg c14] at H
      have c14b0 : decide (a0_2 < 0) = false := decide_eq_false c14
      clear c14
      by_cases c17 : a0_2 > 5
      ·rw [if_pos c17] at H
       have c17b0 : decide (5 < a0_2) = true := decide_eq_true c17
       clear c17
       obtain rfl := Option.some.inj H
       go_enter Try.func50, Try.ntmps50
       go_wp2_with (first | ((with_reducible refine gate_dst (N := 1) rfl ?_); refine bxe (cs := #[.int .i64 a0_0, .int .i64 a0_1, .int .i64 a0_2]) (t := 23) ?_; intro gb102 hg w18 hbox hb; have BK102 := Aside0.mk (hbox); have GW102 := Aside0.mk (bge hg HB.out); have GE102 := Aside0.mk (bge hg HB.out); replace HB := Aside0.mk (bst HB.out hb); clear hb hbox hg; have hcz19_0 := cz3 BK102.out; have hfz19_0 := blk_frozen BK102.out))
       go_ret
       exact bfin (bel HB.out)
      ·rw [if_neg c17] at H
       have c17b0 : decide (5 < a0_2) = false := decide_eq_false c17
       clear c17
       obtain rfl := Option.some.inj H
       go_enter Try.func50, Try.ntmps50
       go_wp2_with (first | ((with_reducible refine gate_dst (N := 1) rfl ?_); refine bxe (cs := #[.int .i64 a0_0, .int .i64 a0_1, .int .i64 a0_2]) (t := 23) ?_; intro gb102 hg w20 hbox hb; have BK102 := Aside0.mk (hbox); have GW102 := Aside0.mk (bge hg HB.out); have GE102 := Aside0.mk (bge hg HB.out); replace HB := Aside0.mk (bst HB.out hb); clear hb hbox hg; have hcz21_0 := cz3 BK102.out; have hfz21_0 := blk_frozen BK102.out))
       go_ret
       exact bfin (bel HB.out)

/-! ### door_Worst: function 51 -/
def door_Worst.f (a0_0 : Int) (a0_1 : Int) (a0_2 : Int) : Option (Int × Int) := (door_Rule.f a0_0 a0_1 a0_2).bind fun t104 => (if t104 = 0 then (some (wrap64 ((wrap64 ((wrap64 (2 * a0_0)) + a0_1)) + (wrap64 (a0_2 * (wrap64 ((wrap64 ((wrap64 (2 * a0_0)) - 1)) + a0_1))))), 0)) else (some (0, t104)))
set_option maxHeartbeats 8000000 in
set_option maxRecDepth 100000 in
theorem door_Worst.calls (a0_0 : Int) (a0_1 : Int) (a0_2 : Int) (r1 : Int) (r2 : Int) (w : World) (h : door_Worst.f a0_0 a0_1 a0_2 = some (r1, r2)) :
  Calls Try.prog 51 #[.agg #[.int .i64 a0_0, .int .i64 a0_1, .int .i64 a0_2]] w fun e w' => e = .returned (.tuple #[.int .i64 r1, .int .i64 r2]) ∧ Below w.heap.size w w' := by
 have hu23 := Try.underlying23
 have HB := Aside0.mk (Below.refl w.heap.size w)
 have H : ((door_Rule.f a0_0 a0_1 a0_2).bind fun t104 => (if t104 = 0 then (some (wrap64 ((wrap64 ((wrap64 (2 * a0_0)) + a0_1)) + (wrap64 (a0_2 * (wrap64 ((wrap64 ((wrap64 (2 * a0_0)) - 1)) + a0_1))))), 0)) else (some (0, t104)))) = some (r1, r2) := h
 clear h
 replace H := Option.bind_eq_some_iff.mp H
 obtain ⟨t104, A20, H⟩ := H
 replace H : (if t104 = 0 then (some (wrap64 ((wrap64 ((wrap64 (2 * a0_0)) + a0_1)) + (wrap64 (a0_2 * (wrap64 ((wrap64 ((wrap64 (2 * a0_0)) - 1)) + a0_1))))), 0)) else (some (0, t104))) = some (r1, r2) := H
 have A2 := Aside0.mk A20
 clear A20
 by_cases c3 : t104 = 0
 ·rw [if_pos c3] at H
  have c3b0 : (t104 == 0) = true := beq_iff_eq.mpr c3
  have c3b1 : (t104 != 0) = false := bne_eq_false_iff_eq.mpr c3
  clear c3
  simp only [Option.some.injEq, Prod.mk.injEq] at H
  obtain ⟨rfl, rfl⟩ := H
  go_enter Try.func51, Try.ntmps51
  go_wp2_with (first | ((with_reducible refine gate_dst (N := 1) rfl ?_); refine bxe (cs := #[.int .i64 a0_0, .int .i64 a0_1, .int .i64 a0_2]) (t := 23) ?_; intro gb103 hg w4 hbox hb; have BK103 := Aside0.mk (hbox); have GW103 := Aside0.mk (bge hg HB.out); have GE103 := Aside0.mk (bge hg HB.out); replace HB := Aside0.mk (bst HB.out hb); clear hb hbox hg; have hcz5_0 := cz3 BK103.out; have hfz5_0 := blk_frozen BK103.out) | ((with_reducible refine gate_callee (f := 50) rfl ?_); refine gsl (some 6) Try.func50 #[.agg #[.int .i64 a0_0, .int .i64 a0_1, .int .i64 a0_2]] ?_; (with_reducible refine (door_Rule.calls a0_0 a0_1 a0_2 t104 _ A2.out).mono ?_); rintro e w6 ⟨rfl, hb⟩; refine ⟨_, rfl, ?_⟩; replace BK103 := Aside0.mk (bkb BK103.out hb); replace HB := Aside0.mk (bst HB.out hb); (try clear hb); (try clear hb2); (try clear hk); (try clear hi); have hcz7_0 := cz3 BK103.out; have hfz7_0 := blk_frozen BK103.out))
  go_ret2
  exact bfin (bel HB.out)
 ·rw [if_neg c3] at H
  have c3b0 : (t104 == 0) = false := beq_eq_false_iff_ne.mpr c3
  have c3b1 : (t104 != 0) = true := bne_iff_ne.mpr c3
  simp only [Option.some.injEq, Prod.mk.injEq] at H
  obtain ⟨rfl, rfl⟩ := H
  go_enter Try.func51, Try.ntmps51
  go_wp2_with (first | ((with_reducible refine gate_dst (N := 1) rfl ?_); refine bxe (cs := #[.int .i64 a0_0, .int .i64 a0_1, .int .i64 a0_2]) (t := 23) ?_; intro gb103 hg w8 hbox hb; have BK103 := Aside0.mk (hbox); have GW103 := Aside0.mk (bge hg HB.out); have GE103 := Aside0.mk (bge hg HB.out); replace HB := Aside0.mk (bst HB.out hb); clear hb hbox hg; have hcz9_0 := cz3 BK103.out; have hfz9_0 := blk_frozen BK103.out) | ((with_reducible refine gate_callee (f := 50) rfl ?_); refine gsl (some 6) Try.func50 #[.agg #[.int .i64 a0_0, .int .i64 a0_1, .int .i64 a0_2]] ?_; (with_reducible refine (door_Rule.calls a0_0 a0_1 a0_2 t104 _ A2.out).mono ?_); rintro e w10 ⟨rfl, hb⟩; refine ⟨_, rfl, ?_⟩; replace BK103 := Aside0.mk (bkb BK103.out hb); replace HB := Aside0.mk (bst HB.out hb); (try clear hb); (try clear hb2); (try clear hk); (try clear hi)))
  go_ret2
  exact bfin (bel HB.out)

/-! ### door_Check: function 36 -/
mutual
def door_Check.j0 : Nat → Bool → Int → Int → Int → Int → Int → Int → Int → Option (Int)
 | 0, _, _, _, _, _, _, _, _ => none
 | k + 1, x12, x110000, x110001, x110002, x110003, x111000, x111001, x111002 => if x12 = true then (some 11) else (if x110001 < 0 then (door_Check.j1 k true x110000 x110001 x110002 x110003 x111000 x111001 x111002) else (if x110001 > x111000 then (door_Check.j1 k true x110000 x110001 x110002 x110003 x111000 x111001 x111002) else (if x110002 < 0 then (door_Check.j1 k true x110000 x110001 x110002 x110003 x111000 x111001 x111002) else (if x110002 > x111001 then (door_Check.j1 k true x110000 x110001 x110002 x110003 x111000 x111001 x111002) else (if x110003 < 0 then (door_Check.j1 k true x110000 x110001 x110002 x110003 x111000 x111001 x111002) else (door_Check.j1 k (decide (x110003 > x111002)) x110000 x110001 x110002 x110003 x111000 x111001 x111002))))))
def door_Check.j1 : Nat → Bool → Int → Int → Int → Int → Int → Int → Int → Option (Int)
 | 0, _, _, _, _, _, _, _, _ => none
 | k + 1, x21, x110000, x110001, x110002, x110003, x111000, x111001, x111002 => if x21 = true then (some 2) else (if ((x110000 == 2) != (decide (x110002 > 0))) = true then (some 3) else (if x110000 = 0 then (if x110001 = 0 then (if x110003 = 0 then (some 0) else (some 3)) else (some 3)) else (if x110000 = 1 then (if x110001 < x111000 then (some 0) else (some 3)) else (if x110000 = 2 then (if x110001 = x111000 then (some 0) else (some 3)) else (if x110000 = 4 then (if x110003 = x111002 then (if x110001 > 0 then (some 0) else (some 3)) else (some 3)) else (if x110000 = 3 then (if x110001 > 0 then (some 0) else (some 3)) else (if x110000 = 5 then (if x110001 > 0 then (some 0) else (some 3)) else (some 3))))))))
end
def door_Check.f (k : Nat) (a0_0 : Int) (a0_1 : Int) (a0_2 : Int) (a0_3 : Int) (a1_0 : Int) (a1_1 : Int) (a1_2 : Int) : Option (Int) := (door_Rule.f a1_0 a1_1 a1_2).bind fun t111 => (if t111 = 0 then (if a0_0 < 0 then (door_Check.j0 k true a0_0 a0_1 a0_2 a0_3 a1_0 a1_1 a1_2) else (door_Check.j0 k (decide (a0_0 > 5)) a0_0 a0_1 a0_2 a0_3 a1_0 a1_1 a1_2)) else (some t111))
theorem door_Check.mono_l : ∀ k, (∀ y0 y1 y2 y3 y4 y5 y6 y7, LeO (door_Check.j0 k y0 y1 y2 y3 y4 y5 y6 y7) (door_Check.j0 (k + 1) y0 y1 y2 y3 y4 y5 y6 y7)) ∧ (∀ y0 y1 y2 y3 y4 y5 y6 y7, LeO (door_Check.j1 k y0 y1 y2 y3 y4 y5 y6 y7) (door_Check.j1 (k + 1) y0 y1 y2 y3 y4 y5 y6 y7))
 | 0 => ⟨fun _ _ _ _ _ _ _ _ r h => by simp [door_Check.j0] at h, fun _ _ _ _ _ _ _ _ r h => by simp [door_Check.j1] at h⟩
 | k + 1 => by
  obtain ⟨ih0, ih1⟩ := door_Check.mono_l k
  refine ⟨?_, ?_⟩
  ·intro y0 y1 y2 y3 y4 y5 y6 y7
   unfold door_Check.j0
   repeat' first
   | (with_reducible exact ih0 _ _ _ _ _ _ _ _)
   | (with_reducible exact ih1 _ _ _ _ _ _ _ _)
   | (with_reducible exact LeO.refl _)
   | (with_reducible exact LeO.none _)
   | (with_reducible refine LeO.ite ?_ ?_)
   | (with_reducible refine LeO.bind ?_ (fun _ => ?_))
   | exact ih0 _ _ _ _ _ _ _ _
   | exact ih1 _ _ _ _ _ _ _ _
   | exact LeO.none _
   | refine LeO.ite ?_ ?_
   | refine LeO.bind ?_ (fun _ => ?_)
  ·intro y0 y1 y2 y3 y4 y5 y6 y7
   unfold door_Check.j1
   repeat' first
   | (with_reducible exact ih0 _ _ _ _ _ _ _ _)
   | (with_reducible exact ih1 _ _ _ _ _ _ _ _)
   | (with_reducible exact LeO.refl _)
   | (with_reducible exact LeO.none _)
   | (with_reducible refine LeO.ite ?_ ?_)
   | (with_reducible refine LeO.bind ?_ (fun _ => ?_))
   | exact ih0 _ _ _ _ _ _ _ _
   | exact ih1 _ _ _ _ _ _ _ _
   | exact LeO.none _
   | refine LeO.ite ?_ ?_
   | refine LeO.bind ?_ (fun _ => ?_)
theorem door_Check.mono : ∀ a0 a1 a2 a3 a4 a5 a6 k, LeO (door_Check.f k a0 a1 a2 a3 a4 a5 a6) (door_Check.f (k + 1) a0 a1 a2 a3 a4 a5 a6) := by
 intro a0 a1 a2 a3 a4 a5 a6 k
 obtain ⟨ih0, ih1⟩ := door_Check.mono_l k
 unfold door_Check.f
 repeat' first
   | (with_reducible exact ih0 _ _ _ _ _ _ _ _)
   | (with_reducible exact ih1 _ _ _ _ _ _ _ _)
   | (with_reducible exact LeO.refl _)
   | (with_reducible exact LeO.none _)
   | (with_reducible refine LeO.ite ?_ ?_)
   | (with_reducible refine LeO.bind ?_ (fun _ => ?_))
   | exact ih0 _ _ _ _ _ _ _ _
   | exact ih1 _ _ _ _ _ _ _ _
   | exact LeO.none _
   | refine LeO.ite ?_ ?_
   | refine LeO.bind ?_ (fun _ => ?_)
set_option maxHeartbeats 8000000 in
set_option maxRecDepth 100000 in
theorem door_Check.calls (k : Nat) (a0_0 : Int) (a0_1 : Int) (a0_2 : Int) (a0_3 : Int) (a1_0 : Int) (a1_1 : Int) (a1_2 : Int) (r : Int) (w : World) (h : door_Check.f k a0_0 a0_1 a0_2 a0_3 a1_0 a1_1 a1_2 = some r) :
  Calls Try.prog 36 #[.agg #[.int .i64 a0_0, .int .i64 a0_1, .int .i64 a0_2, .int .i64 a0_3], .agg #[.int .i64 a1_0, .int .i64 a1_1, .int .i64 a1_2]] w fun e w' => e = .returned (.int .i64 r) ∧ Below w.heap.size w w' := by
 have hu37 := Try.underlying37
 have hu23 := Try.underlying23
 have HB := Aside0.mk (Below.refl w.heap.size w)
 have H : ((door_Rule.f a1_0 a1_1 a1_2).bind fun t111 => (if t111 = 0 then (if a0_0 < 0 then (door_Check.j0 k true a0_0 a0_1 a0_2 a0_3 a1_0 a1_1 a1_2) else (door_Check.j0 k (decide (a0_0 > 5)) a0_0 a0_1 a0_2 a0_3 a1_0 a1_1 a1_2)) else (some t111))) = some r := h
 clear h
 replace H := Option.bind_eq_some_iff.mp H
 obtain ⟨t111, A30, H⟩ := H
 replace H : (if t111 = 0 then (if a0_0 < 0 then (door_Check.j0 k true a0_0 a0_1 a0_2 a0_3 a1_0 a1_1 a1_2) else (door_Check.j0 k (decide (a0_0 > 5)) a0_0 a0_1 a0_2 a0_3 a1_0 a1_1 a1_2)) else (some t111)) = some r := H
 have A3 := Aside0.mk A30
 clear A30
 by_cases c4 : t111 = 0
 ·rw [if_pos c4] at H
  have c4b0 : (t111 == 0) = true := beq_iff_eq.mpr c4
  have c4b1 : (t111 != 0) = false := bne_eq_false_iff_eq.mpr c4
  clear c4
  have HC5 := Aside0.mk H
  clear H
  go_enter Try.func36, Try.ntmps36
  go_upto_region 4 with (first | ((with_reducible refine gate_dst (N := 2) rfl ?_); refine bxe (cs := #[.int .i64 a0_0, .int .i64 a0_1, .int .i64 a0_2, .int .i64 a0_3]) (t := 37) ?_; intro gb109 hg w6 hbox hb; have BK109 := Aside0.mk (hbox); have GW109 := Aside0.mk (bge hg HB.out); have GE109 := Aside0.mk (bge hg HB.out); replace HB := Aside0.mk (bst HB.out hb); clear hb hbox hg) | ((with_reducible refine gate_dst (N := 3) rfl ?_); refine bxe (cs := #[.int .i64 a1_0, .int .i64 a1_1, .int .i64 a1_2]) (t := 23) ?_; intro gb110 hg w7 hbox hb; have BK110 := Aside0.mk (hbox); have GW110 := Aside0.mk (bge hg HB.out); have GE110 := Aside0.mk (bge hg HB.out); have NB109_110 := Aside0.mk ((bkl hg BK109.out)); have NB110_109 := Aside0.mk ((bkg hg BK109.out)); replace BK109 := Aside0.mk (bkb BK109.out hb); replace HB := Aside0.mk (bst HB.out hb); clear hb hbox hg; have hnb8 := NB110_109.out; have hnc8 := NB109_110.out; have hcz9_0 := cz3 BK110.out; have hfz9_0 := blk_frozen BK110.out) | ((with_reducible refine gate_callee (f := 50) rfl ?_); refine gsl (some 8) Try.func50 #[.agg #[.int .i64 a1_0, .int .i64 a1_1, .int .i64 a1_2]] ?_; (with_reducible refine (door_Rule.calls a1_0 a1_1 a1_2 t111 _ A3.out).mono ?_); rintro e w10 ⟨rfl, hb⟩; refine ⟨_, rfl, ?_⟩; replace BK109 := Aside0.mk (bkb BK109.out hb); replace BK110 := Aside0.mk (bkb BK110.out hb); replace HB := Aside0.mk (bst HB.out hb); (try clear hb); (try clear hb2); (try clear hk); (try clear hi)))
  (try simp only [Act.put, List.setIfInBounds_toArray, List.set_cons_zero, List.set_cons_succ])
  go_cut [12] (fun v12 wc => ∃ (kq : Nat) (x12_4 : Bool), v12 = .bool x12_4 ∧ Aside0 (door_Check.j0 kq x12_4 a0_0 a0_1 a0_2 a0_3 a1_0 a1_1 a1_2 = some r) ∧ Aside0 (kq ≤ k) ∧ Aside0 (wc.heap[gb109]? = some (.cells #[.int .i64 a0_0, .int .i64 a0_1, .int .i64 a0_2, .int .i64 a0_3] 37 (0, 0))) ∧ Aside0 (wc.heap[gb110]? = some (.cells #[.int .i64 a1_0, .int .i64 a1_1, .int .i64 a1_2] 23 (0, 0))) ∧ Aside0 (Below w.heap.size w wc))
  case first =>
   have H := HC5.out
   clear HC5
   by_cases c11 : a0_0 < 0
   ·rw [if_pos c11] at H
    have c11b0 : decide (a0_0 < 0) = true := decide_eq_true c11
    clear c11
    (first | rw [c11b0] | (simp only [i64_w, i32_w]; rw [c11b0]) | skip)
    have H' := Aside0.mk H
    clear H
    have hnb12 := NB109_110.out
    have hnc12 := NB110_109.out
    have hcz13_0 := cz4 BK109.out
    have hfz13_0 := blk_frozen BK109.out
    go_wp2
    go_meet
    case rel => exact ⟨_, (true), (by first | rfl | (simp; done) | (simp [*]; done)), H', ⟨by first | omega | exact Nat.le_refl _⟩, ⟨bkt BK109.out⟩, ⟨bkt BK110.out⟩, ⟨bel HB.out⟩⟩
   ·rw [if_neg c11] at H
    have c11b0 : decide (a0_0 < 0) = false := decide_eq_false c11
    clear c11
    (first | rw [c11b0] | (simp only [i64_w, i32_w]; rw [c11b0]) | skip)
    have H' := Aside0.mk H
    clear H
    have hnb14 := NB109_110.out
    have hnc14 := NB110_109.out
    have hcz15_0 := cz4 BK109.out
    have hfz15_0 := blk_frozen BK109.out
    go_wp2
    go_meet
    case rel => exact ⟨_, (decide (a0_0 > 5)), (by first | rfl | (simp; done) | (simp [*]; done)), H', ⟨by first | omega | exact Nat.le_refl _⟩, ⟨bkt BK109.out⟩, ⟨bkt BK110.out⟩, ⟨bel HB.out⟩⟩
  case rest =>
   clear HC5
   try clear c1
   try clear p2
   try clear c3
   try clear c4
   try clear c4b0
   try clear c4b1
   try clear c5
   try clear c8
   try clear c11
   try clear c11b0
   try clear c12
   try clear c14
   try clear hcz13_0
   try clear hcz15_0
   try clear hcz9_0
   try clear hfz13_0
   try clear hfz15_0
   try clear hfz9_0
   obtain ⟨kq, x12_4, rfl, HA, HJ4, BK109, BK110, HB⟩ := hcut
   cases kq with
   | zero => exact absurd HA.out (by simp [door_Check.j0])
   | succ kj4 =>
    have H := HA.out
    clear HA
    simp only [door_Check.j0] at H
    by_cases c16 : x12_4 = true
    ·subst c16
     have H1 : (some 11) = some r := by rw [if_pos rfl] at H; exact H
     clear H
     have H := H1
     clear H1
     obtain rfl := Option.some.inj H
     go_wp2
     go_ret
     exact bfin (bel HB.out)
    ·replace c16 := Bool.eq_false_iff.mpr c16
     subst c16
     have H1 : (if a0_1 < 0 then (door_Check.j1 kj4 true a0_0 a0_1 a0_2 a0_3 a1_0 a1_1 a1_2) else (if a0_1 > a1_0 then (door_Check.j1 kj4 true a0_0 a0_1 a0_2 a0_3 a1_0 a1_1 a1_2) else (if a0_2 < 0 then (door_Check.j1 kj4 true a0_0 a0_1 a0_2 a0_3 a1_0 a1_1 a1_2) else (if a0_2 > a1_1 then (door_Check.j1 kj4 true a0_0 a0_1 a0_2 a0_3 a1_0 a1_1 a1_2) else (if a0_3 < 0 then (door_Check.j1 kj4 true a0_0 a0_1 a0_2 a0_3 a1_0 a1_1 a1_2) else (door_Check.j1 kj4 (decide (a0_3 > a1_2)) a0_0 a0_1 a0_2 a0_3 a1_0 a1_1 a1_2)))))) = some r := by rw [if_neg (show ¬ (false = true) by decide)] at H; exact H
     clear H
     have H := H1
     clear H1
     have HC17 := Aside0.mk H
     clear H
     go_upto_region 6 with (fail)
     go_cut [21] (fun v21 wc => ∃ (kq : Nat) (x21_16 : Bool), v21 = .bool x21_16 ∧ Aside0 (door_Check.j1 kq x21_16 a0_0 a0_1 a0_2 a0_3 a1_0 a1_1 a1_2 = some r) ∧ Aside0 (kq ≤ kj4) ∧ Aside0 (wc.heap[gb109]? = some (.cells #[.int .i64 a0_0, .int .i64 a0_1, .int .i64 a0_2, .int .i64 a0_3] 37 (0, 0))) ∧ Aside0 (wc.heap[gb110]? = some (.cells #[.int .i64 a1_0, .int .i64 a1_1, .int .i64 a1_2] 23 (0, 0))) ∧ Aside0 (Below w.heap.size w wc))
     case first =>
      have H := HC17.out
      clear HC17
      by_cases c18 : a0_1 < 0
      ·rw [if_pos c18] at H
       have c18b0 : decide (a0_1 < 0) = true := decide_eq_true c18
       clear c18
       (first | rw [c18b0] | (simp only [i64_w, i32_w]; rw [c18b0]) | skip)
       have H' := Aside0.mk H
       clear H
       have hnb19 := NB109_110.out
       have hnc19 := NB110_109.out
       have hcz20_0 := cz4 BK109.out
       have hfz20_0 := blk_frozen BK109.out
       go_wp2
       go_meet
       case rel => exact ⟨_, (true), (by first | rfl | (simp; done) | (simp [*]; done)), H', ⟨by have := HJ4.out; first | omega | exact Nat.le_refl _⟩, ⟨bkt BK109.out⟩, ⟨bkt BK110.out⟩, ⟨bel HB.out⟩⟩
      ·rw [if_neg c18] at H
       have c18b0 : decide (a0_1 < 0) = false := decide_eq_false c18
       clear c18
       (first | rw [c18b0] | (simp only [i64_w, i32_w]; rw [c18b0]) | skip)
       by_cases c21 : a0_1 > a1_0
       ·rw [if_pos c21] at H
        have c21b0 : decide (a1_0 < a0_1) = true := decide_eq_true c21
        clear c21
        have H' := Aside0.mk H
        clear H
        have hnb22 := NB109_110.out
        have hnc22 := NB110_109.out
        have hcz23_0 := cz4 BK109.out
        have hfz23_0 := blk_frozen BK109.out
        have hcz24_0 := cz3 BK110.out
        have hfz24_0 := blk_frozen BK110.out
        go_wp2
        go_meet
        case rel => exact ⟨_, (true), (by first | rfl | (simp; done) | (simp [*]; done)), H', ⟨by have := HJ4.out; first | omega | exact Nat.le_refl _⟩, ⟨bkt BK109.out⟩, ⟨bkt BK110.out⟩, ⟨bel HB.out⟩⟩
       ·rw [if_neg c21] at H
        have c21b0 : decide (a1_0 < a0_1) = false := decide_eq_false c21
        clear c21
        by_cases c25 : a0_2 < 0
        ·rw [if_pos c25] at H
         have c25b0 : decide (a0_2 < 0) = true := decide_eq_true c25
         clear c25
         have H' := Aside0.mk H
         clear H
         have hnb26 := NB109_110.out
         have hnc26 := NB110_109.out
         have hcz27_0 := cz4 BK109.out
         have hfz27_0 := blk_frozen BK109.out
         have hcz28_0 := cz3 BK110.out
         have hfz28_0 := blk_frozen BK110.out
         go_wp2
         go_meet
         case rel => exact ⟨_, (true), (by first | rfl | (simp; done) | (simp [*]; done)), H', ⟨by have := HJ4.out; first | omega | exact Nat.le_refl _⟩, ⟨bkt BK109.out⟩, ⟨bkt BK110.out⟩, ⟨bel HB.out⟩⟩
        ·rw [if_neg c25] at H
         have c25b0 : decide (a0_2 < 0) = false := decide_eq_false c25
         clear c25
         by_cases c29 : a0_2 > a1_1
         ·rw [if_pos c29] at H
          have c29b0 : decide (a1_1 < a0_2) = true := decide_eq_true c29
          clear c29
          have H' := Aside0.mk H
          clear H
          have hnb30 := NB109_110.out
          have hnc30 := NB110_109.out
          have hcz31_0 := cz4 BK109.out
          have hfz31_0 := blk_frozen BK109.out
          have hcz32_0 := cz3 BK110.out
          have hfz32_0 := blk_frozen BK110.out
          go_wp2
          go_meet
          case rel => exact ⟨_, (true), (by first | rfl | (simp; done) | (simp [*]; done)), H', ⟨by have := HJ4.out; first | omega | exact Nat.le_refl _⟩, ⟨bkt BK109.out⟩, ⟨bkt BK110.out⟩, ⟨bel HB.out⟩⟩
         ·rw [if_neg c29] at H
          have c29b0 : decide (a1_1 < a0_2) = false := decide_eq_false c29
          clear c29
          by_cases c33 : a0_3 < 0
          ·rw [if_pos c33] at H
           have c33b0 : decide (a0_3 < 0) = true := decide_eq_true c33
           clear c33
           have H' := Aside0.mk H
           clear H
           have hnb34 := NB109_110.out
           have hnc34 := NB110_109.out
           have hcz35_0 := cz4 BK109.out
           have hfz35_0 := blk_frozen BK109.out
           have hcz36_0 := cz3 BK110.out
           have hfz36_0 := blk_frozen BK110.out
           go_wp2
           go_meet
           case rel => exact ⟨_, (true), (by first | rfl | (simp; done) | (simp [*]; done)), H', ⟨by have := HJ4.out; first | omega | exact Nat.le_refl _⟩, ⟨bkt BK109.out⟩, ⟨bkt BK110.out⟩, ⟨bel HB.out⟩⟩
          ·rw [if_neg c33] at H
           have c33b0 : decide (a0_3 < 0) = false := decide_eq_false c33
           clear c33
           have H' := Aside0.mk H
           clear H
           have hnb37 := NB109_110.out
           have hnc37 := NB110_109.out
           have hcz38_0 := cz4 BK109.out
           have hfz38_0 := blk_frozen BK109.out
           have hcz39_0 := cz3 BK110.out
           have hfz39_0 := blk_frozen BK110.out
           go_wp2
           go_meet
           case rel => exact ⟨_, (decide (a0_3 > a1_2)), (by first | rfl | (simp; done) | (simp [*]; done)), H', ⟨by have := HJ4.out; first | omega | exact Nat.le_refl _⟩, ⟨bkt BK109.out⟩, ⟨bkt BK110.out⟩, ⟨bel HB.out⟩⟩
     case rest =>
      clear HC17
      try clear c1
      try clear c2
      try clear p2
      try clear c3
      try clear c4
      try clear c4b0
      try clear c4b1
      try clear c5
      try clear c8
      try clear c11
      try clear c11b0
      try clear c12
      try clear c14
      try clear c16
      try clear c18
      try clear c18b0
      try clear c19
      try clear c21
      try clear c21b0
      try clear c22
      try clear c25
      try clear c25b0
      try clear c26
      try clear c29
      try clear c29b0
      try clear c30
      try clear c33
      try clear c33b0
      try clear c34
      try clear c36
      try clear c37
      try clear hcz13_0
      try clear hcz15_0
      try clear hcz20_0
      try clear hcz23_0
      try clear hcz24_0
      try clear hcz27_0
      try clear hcz28_0
      try clear hcz31_0
      try clear hcz32_0
      try clear hcz35_0
      try clear hcz36_0
      try clear hcz38_0
      try clear hcz39_0
      try clear hcz9_0
      try clear hfz13_0
      try clear hfz15_0
      try clear hfz20_0
      try clear hfz23_0
      try clear hfz24_0
      try clear hfz27_0
      try clear hfz28_0
      try clear hfz31_0
      try clear hfz32_0
      try clear hfz35_0
      try clear hfz36_0
      try clear hfz38_0
      try clear hfz39_0
      try clear hfz9_0
      try clear p2
      obtain ⟨kq, x21_16, rfl, HA, HJ16, BK109, BK110, HB⟩ := hcut
      cases kq with
      | zero => exact absurd HA.out (by simp [door_Check.j1])
      | succ kj16 =>
       have H := HA.out
       clear HA
       simp only [door_Check.j1] at H
       by_cases c40 : x21_16 = true
       ·subst c40
        have H1 : (some 2) = some r := by rw [if_pos rfl] at H; exact H
        clear H
        have H := H1
        clear H1
        obtain rfl := Option.some.inj H
        go_wp2
        go_ret
        exact bfin (bel HB.out)
       ·replace c40 := Bool.eq_false_iff.mpr c40
        subst c40
        have H1 : (if ((a0_0 == 2) != (decide (a0_2 > 0))) = true then (some 3) else (if a0_0 = 0 then (if a0_1 = 0 then (if a0_3 = 0 then (some 0) else (some 3)) else (some 3)) else (if a0_0 = 1 then (if a0_1 < a1_0 then (some 0) else (some 3)) else (if a0_0 = 2 then (if a0_1 = a1_0 then (some 0) else (some 3)) else (if a0_0 = 4 then (if a0_3 = a1_2 then (if a0_1 > 0 then (some 0) else (some 3)) else (some 3)) else (if a0_0 = 3 then (if a0_1 > 0 then (some 0) else (some 3)) else (if a0_0 = 5 then (if a0_1 > 0 then (some 0) else (some 3)) else (some 3)))))))) = some r := by rw [if_neg (show ¬ (false = true) by decide)] at H; exact H
        clear H
        have H := H1
        clear H1
        by_cases c41 : ((a0_0 == 2) != (decide (a0_2 > 0))) = true
        ·rw [if_pos c41] at H
         have c41b0 : ((a0_0 == 2) != (decide (a0_2 > 0))) = true := c41
         (try (have c41b1 : decide ((a0_0 == 2) = (decide (a0_2 > 0))) = false := by simpa using c41))
         (try (have c41b2 : ((a0_0 == 2) == (decide (a0_2 > 0))) = false := by simpa using c41))
         (try (have c41b3 : ¬ ((a0_0 == 2) = (decide (a0_2 > 0))) := by simpa using c41))
         clear c41
         obtain rfl := Option.some.inj H
         have hnb42 := NB109_110.out
         have hnc42 := NB110_109.out
         have hcz43_0 := cz4 BK109.out
         have hfz43_0 := blk_frozen BK109.out
         go_wp2
         go_ret
         exact bfin (bel HB.out)
        ·rw [if_neg c41] at H
         have c41b0 : ((a0_0 == 2) != (decide (a0_2 > 0))) = false := by simpa using c41
         (try (have c41b1 : decide ((a0_0 == 2) = (decide (a0_2 > 0))) = true := by simpa using c41))
         (try (have c41b2 : ((a0_0 == 2) == (decide (a0_2 > 0))) = true := by simpa using c41))
         clear c41
         by_cases c44 : a0_0 = 0
         ·rw [if_pos c44] at H
          have c44b0 : (a0_0 == 0) = true := beq_iff_eq.mpr c44
          have c44b1 : (a0_0 != 0) = false := bne_eq_false_iff_eq.mpr c44
          clear c44
          by_cases c45 : a0_1 = 0
          ·rw [if_pos c45] at H
           have c45b0 : (a0_1 == 0) = true := beq_iff_eq.mpr c45
           have c45b1 : (a0_1 != 0) = false := bne_eq_false_iff_eq.mpr c45
           clear c45
           by_cases c46 : a0_3 = 0
           ·rw [if_pos c46] at H
            have c46b0 : (a0_3 == 0) = true := beq_iff_eq.mpr c46
            have c46b1 : (a0_3 != 0) = false := bne_eq_false_iff_eq.mpr c46
            clear c46
            obtain rfl := Option.some.inj H
            have hnb47 := NB109_110.out
            have hnc47 := NB110_109.out
            have hcz48_0 := cz4 BK109.out
            have hfz48_0 := blk_frozen BK109.out
            go_wp2
            go_ret
            exact bfin (bel HB.out)
           ·rw [if_neg c46] at H
            have c46b0 : (a0_3 == 0) = false := beq_eq_false_iff_ne.mpr c46
            have c46b1 : (a0_3 != 0) = true := bne_iff_ne.mpr c46
            obtain rfl := Option.some.inj H
            have hnb49 := NB109_110.out
            have hnc49 := NB110_109.out
            have hcz50_0 := cz4 BK109.out
            have hfz50_0 := blk_frozen BK109.out
            go_wp2
            go_ret
            exact bfin (bel HB.out)
          ·rw [if_neg c45] at H
           have c45b0 : (a0_1 == 0) = false := beq_eq_false_iff_ne.mpr c45
           have c45b1 : (a0_1 != 0) = true := bne_iff_ne.mpr c45
           obtain rfl := Option.some.inj H
           have hnb51 := NB109_110.out
           have hnc51 := NB110_109.out
           have hcz52_0 := cz4 BK109.out
           have hfz52_0 := blk_frozen BK109.out
           go_wp2
           go_ret
           exact bfin (bel HB.out)
         ·rw [if_neg c44] at H
          have c44b0 : (a0_0 == 0) = false := beq_eq_false_iff_ne.mpr c44
          have c44b1 : (a0_0 != 0) = true := bne_iff_ne.mpr c44
          by_cases c53 : a0_0 = 1
          ·rw [if_pos c53] at H
           have c53b0 : (a0_0 == 1) = true := beq_iff_eq.mpr c53
           have c53b1 : (a0_0 != 1) = false := bne_eq_false_iff_eq.mpr c53
           clear c53
           by_cases c54 : a0_1 < a1_0
           ·rw [if_pos c54] at H
            have c54b0 : decide (a0_1 < a1_0) = true := decide_eq_true c54
            clear c54
            obtain rfl := Option.some.inj H
            have hnb55 := NB109_110.out
            have hnc55 := NB110_109.out
            have hcz56_0 := cz4 BK109.out
            have hfz56_0 := blk_frozen BK109.out
            have hcz57_0 := cz3 BK110.out
            have hfz57_0 := blk_frozen BK110.out
            go_wp2
            go_ret
            exact bfin (bel HB.out)
           ·rw [if_neg c54] at H
            have c54b0 : decide (a0_1 < a1_0) = false := decide_eq_false c54
            clear c54
            obtain rfl := Option.some.inj H
            have hnb58 := NB109_110.out
            have hnc58 := NB110_109.out
            have hcz59_0 := cz4 BK109.out
            have hfz59_0 := blk_frozen BK109.out
            have hcz60_0 := cz3 BK110.out
            have hfz60_0 := blk_frozen BK110.out
            go_wp2
            go_ret
            exact bfin (bel HB.out)
          ·rw [if_neg c53] at H
           have c53b0 : (a0_0 == 1) = false := beq_eq_false_iff_ne.mpr c53
           have c53b1 : (a0_0 != 1) = true := bne_iff_ne.mpr c53
           by_cases c61 : a0_0 = 2
           ·rw [if_pos c61] at H
            have c61b0 : (a0_0 == 2) = true := beq_iff_eq.mpr c61
            try have cz61 : decide (0 < a0_2) = true := by simpa [c61b0] using c41b0
            try have cz61 : decide (0 < a0_2) = false := by simpa [c61b0] using c41b0
            try have cz61 : decide (0 < a0_2) = true := by simpa [c61b0] using c41b0
            try have cz61 : decide (0 < a0_2) = false := by simpa [c61b0] using c41b0
            have c61b1 : (a0_0 != 2) = false := bne_eq_false_iff_eq.mpr c61
            clear c61
            by_cases c62 : a0_1 = a1_0
            ·rw [if_pos c62] at H
             have c62b0 : (a0_1 == a1_0) = true := beq_iff_eq.mpr c62
             have c62b1 : (a0_1 != a1_0) = false := bne_eq_false_iff_eq.mpr c62
             clear c62
             obtain rfl := Option.some.inj H
             have hnb63 := NB109_110.out
             have hnc63 := NB110_109.out
             have hcz64_0 := cz4 BK109.out
             have hfz64_0 := blk_frozen BK109.out
             have hcz65_0 := cz3 BK110.out
             have hfz65_0 := blk_frozen BK110.out
             go_wp2
             go_ret
             exact bfin (bel HB.out)
            ·rw [if_neg c62] at H
             have c62b0 : (a0_1 == a1_0) = false := beq_eq_false_iff_ne.mpr c62
             have c62b1 : (a0_1 != a1_0) = true := bne_iff_ne.mpr c62
             obtain rfl := Option.some.inj H
             have hnb66 := NB109_110.out
             have hnc66 := NB110_109.out
             have hcz67_0 := cz4 BK109.out
             have hfz67_0 := blk_frozen BK109.out
             have hcz68_0 := cz3 BK110.out
             have hfz68_0 := blk_frozen BK110.out
             go_wp2
             go_ret
             exact bfin (bel HB.out)
           ·rw [if_neg c61] at H
            have c61b0 : (a0_0 == 2) = false := beq_eq_false_iff_ne.mpr c61
            try have cz61 : decide (0 < a0_2) = true := by simpa [c61b0] using c41b0
            try have cz61 : decide (0 < a0_2) = false := by simpa [c61b0] using c41b0
            try have cz61 : decide (0 < a0_2) = true := by simpa [c61b0] using c41b0
            try have cz61 : decide (0 < a0_2) = false := by simpa [c61b0] using c41b0
            have c61b1 : (a0_0 != 2) = true := bne_iff_ne.mpr c61
            by_cases c69 : a0_0 = 4
            ·rw [if_pos c69] at H
             have c69b0 : (a0_0 == 4) = true := beq_iff_eq.mpr c69
             have c69b1 : (a0_0 != 4) = false := bne_eq_false_iff_eq.mpr c69
             clear c69
             by_cases c70 : a0_3 = a1_2
             ·rw [if_pos c70] at H
              have c70b0 : (a0_3 == a1_2) = true := beq_iff_eq.mpr c70
              have c70b1 : (a0_3 != a1_2) = false := bne_eq_false_iff_eq.mpr c70
              clear c70
              by_cases c71 : a0_1 > 0
              ·rw [if_pos c71] at H
               have c71b0 : decide (0 < a0_1) = true := decide_eq_true c71
               clear c71
               obtain rfl := Option.some.inj H
               have hnb72 := NB109_110.out
               have hnc72 := NB110_109.out
               have hcz73_0 := cz4 BK109.out
               have hfz73_0 := blk_frozen BK109.out
               have hcz74_0 := cz3 BK110.out
               have hfz74_0 := blk_frozen BK110.out
               go_wp2
               go_ret
               exact bfin (bel HB.out)
              ·rw [if_neg c71] at H
               have c71b0 : decide (0 < a0_1) = false := decide_eq_false c71
               clear c71
               obtain rfl := Option.some.inj H
               have hnb75 := NB109_110.out
               have hnc75 := NB110_109.out
               have hcz76_0 := cz4 BK109.out
               have hfz76_0 := blk_frozen BK109.out
               have hcz77_0 := cz3 BK110.out
               have hfz77_0 := blk_frozen BK110.out
               go_wp2
               go_ret
               exact bfin (bel HB.out)
             ·rw [if_neg c70] at H
              have c70b0 : (a0_3 == a1_2) = false := beq_eq_false_iff_ne.mpr c70
              have c70b1 : (a0_3 != a1_2) = true := bne_iff_ne.mpr c70
              obtain rfl := Option.some.inj H
              have hnb78 := NB109_110.out
              have hnc78 := NB110_109.out
              have hcz79_0 := cz4 BK109.out
              have hfz79_0 := blk_frozen BK109.out
              have hcz80_0 := cz3 BK110.out
              have hfz80_0 := blk_frozen BK110.out
              go_wp2
              go_ret
              exact bfin (bel HB.out)
            ·rw [if_neg c69] at H
             have c69b0 : (a0_0 == 4) = false := beq_eq_false_iff_ne.mpr c69
             have c69b1 : (a0_0 != 4) = true := bne_iff_ne.mpr c69
             by_cases c81 : a0_0 = 3
             ·rw [if_pos c81] at H
              have c81b0 : (a0_0 == 3) = true := beq_iff_eq.mpr c81
              have c81b1 : (a0_0 != 3) = false := bne_eq_false_iff_eq.mpr c81
              clear c81
              by_cases c82 : a0_1 > 0
              ·rw [if_pos c82] at H
               have c82b0 : decide (0 < a0_1) = true := decide_eq_true c82
               clear c82
               obtain rfl := Option.some.inj H
               have hnb83 := NB109_110.out
               have hnc83 := NB110_109.out
               have hcz84_0 := cz4 BK109.out
               have hfz84_0 := blk_frozen BK109.out
               go_wp2
               go_ret
               exact bfin (bel HB.out)
              ·rw [if_neg c82] at H
               have c82b0 : decide (0 < a0_1) = false := decide_eq_false c82
               clear c82
               obtain rfl := Option.some.inj H
               have hnb85 := NB109_110.out
               have hnc85 := NB110_109.out
               have hcz86_0 := cz4 BK109.out
               have hfz86_0 := blk_frozen BK109.out
               go_wp2
               go_ret
               exact bfin (bel HB.out)
             ·rw [if_neg c81] at H
              have c81b0 : (a0_0 == 3) = false := beq_eq_false_iff_ne.mpr c81
              have c81b1 : (a0_0 != 3) = true := bne_iff_ne.mpr c81
              by_cases c87 : a0_0 = 5
              ·rw [if_pos c87] at H
               have c87b0 : (a0_0 == 5) = true := beq_iff_eq.mpr c87
               have c87b1 : (a0_0 != 5) = false := bne_eq_false_iff_eq.mpr c87
               clear c87
               by_cases c88 : a0_1 > 0
               ·rw [if_pos c88] at H
                have c88b0 : decide (0 < a0_1) = true := decide_eq_true c88
                clear c88
                obtain rfl := Option.some.inj H
                have hnb89 := NB109_110.out
                have hnc89 := NB110_109.out
                have hcz90_0 := cz4 BK109.out
                have hfz90_0 := blk_frozen BK109.out
                go_wp2
                go_ret
                exact bfin (bel HB.out)
               ·rw [if_neg c88] at H
                have c88b0 : decide (0 < a0_1) = false := decide_eq_false c88
                clear c88
                obtain rfl := Option.some.inj H
                have hnb91 := NB109_110.out
                have hnc91 := NB110_109.out
                have hcz92_0 := cz4 BK109.out
                have hfz92_0 := blk_frozen BK109.out
                go_wp2
                go_ret
                exact bfin (bel HB.out)
              ·rw [if_neg c87] at H
               have c87b0 : (a0_0 == 5) = false := beq_eq_false_iff_ne.mpr c87
               have c87b1 : (a0_0 != 5) = true := bne_iff_ne.mpr c87
               obtain rfl := Option.some.inj H
               have hnb93 := NB109_110.out
               have hnc93 := NB110_109.out
               have hcz94_0 := cz4 BK109.out
               have hfz94_0 := blk_frozen BK109.out
               go_wp2
               go_ret
               exact bfin (bel HB.out)
 ·rw [if_neg c4] at H
  have c4b0 : (t111 == 0) = false := beq_eq_false_iff_ne.mpr c4
  have c4b1 : (t111 != 0) = true := bne_iff_ne.mpr c4
  obtain rfl := Option.some.inj H
  go_enter Try.func36, Try.ntmps36
  go_wp2_with (first | ((with_reducible refine gate_dst (N := 2) rfl ?_); refine bxe (cs := #[.int .i64 a0_0, .int .i64 a0_1, .int .i64 a0_2, .int .i64 a0_3]) (t := 37) ?_; intro gb109 hg w95 hbox hb; have BK109 := Aside0.mk (hbox); have GW109 := Aside0.mk (bge hg HB.out); have GE109 := Aside0.mk (bge hg HB.out); replace HB := Aside0.mk (bst HB.out hb); clear hb hbox hg) | ((with_reducible refine gate_dst (N := 3) rfl ?_); refine bxe (cs := #[.int .i64 a1_0, .int .i64 a1_1, .int .i64 a1_2]) (t := 23) ?_; intro gb110 hg w96 hbox hb; have BK110 := Aside0.mk (hbox); have GW110 := Aside0.mk (bge hg HB.out); have GE110 := Aside0.mk (bge hg HB.out); have NB109_110 := Aside0.mk ((bkl hg BK109.out)); have NB110_109 := Aside0.mk ((bkg hg BK109.out)); replace BK109 := Aside0.mk (bkb BK109.out hb); replace HB := Aside0.mk (bst HB.out hb); clear hb hbox hg; have hnb97 := NB110_109.out; have hnc97 := NB109_110.out; have hcz98_0 := cz3 BK110.out; have hfz98_0 := blk_frozen BK110.out) | ((with_reducible refine gate_callee (f := 50) rfl ?_); refine gsl (some 8) Try.func50 #[.agg #[.int .i64 a1_0, .int .i64 a1_1, .int .i64 a1_2]] ?_; (with_reducible refine (door_Rule.calls a1_0 a1_1 a1_2 t111 _ A3.out).mono ?_); rintro e w99 ⟨rfl, hb⟩; refine ⟨_, rfl, ?_⟩; replace BK109 := Aside0.mk (bkb BK109.out hb); replace BK110 := Aside0.mk (bkb BK110.out hb); replace HB := Aside0.mk (bst HB.out hb); (try clear hb); (try clear hb2); (try clear hk); (try clear hi)))
  go_ret
  exact bfin (bel HB.out)

end Go.Proofs.Ytmjmdnpenpdmhaa.P
