-- Printed by wip/myprint.py of this repo (over the kit's printer). Not trusted: Lean checks it.
import Derived.Test.YtlkphdcfgaolnaaP0
import Derived.Test.YtlkphdcfgaolnaaE23
import Derived.Test.YtlkphdcfgaolnaaP0slices
namespace Go.Proofs.Ytlkphdcfgaolnaa.P
open Go.RowKit Go.Proofs.YtlkphdcfgaolnaaW.PrintWords Go.Proofs.YtlkphdcfgaolnaaW.PrintLast Go.Proofs.YtlkphdcfgaolnaaW.PrintMore
attribute [local go_sem] cell_same1 cell_some1
attribute [local go_sem] max2_int min2_int max_two min_two max_three min_three max_four min_four   -- for this text's walks alone
set_option linter.unusedVariables false
set_option linter.unusedSimpArgs false

attribute [local go_sem high] eqA23
/-! ### sensor_failed: function 38 -/
def sensor_failed.f  : Option (Bool × Int × Int) := some (false, (-1), 0)
set_option maxHeartbeats 8000000 in
set_option maxRecDepth 100000 in
theorem sensor_failed.calls  (r1 : Bool) (r2 : Int) (r3 : Int) (w : World) (h : sensor_failed.f  = some (r1, r2, r3)) :
  Calls Try.prog 38 #[] w fun e w' => e = .returned (.agg #[.bool r1, .int .i64 r2, .int .i64 r3]) ∧ Below w.heap.size w w' := by
 have hu23 := Try.underlying23
 have HB := Aside0.mk (Below.refl w.heap.size w)
 have H : (some (false, (-1), 0)) = some (r1, r2, r3) := h
 clear h
 simp only [Option.some.injEq, Prod.mk.injEq] at H
 obtain ⟨rfl, rfl, rfl⟩ := H
 go_enter Try.func38, Try.ntmps38
 go_wp2_with (first | ((with_reducible refine gate_dst (N := 0) rfl ?_); refine bxe (cs := #[.bool false, .int .i64 0, .int .i64 0]) (t := 23) ?_; intro gb101 hg w1 hbox hb; have BK101 := Aside0.mk (hbox); have GW101 := Aside0.mk (bge hg HB.out); have GE101 := Aside0.mk (bge hg HB.out); replace HB := Aside0.mk (bst HB.out hb); clear hb hbox hg; have hcz2_0 := cz3 BK101.out; have hfz2_0 := blk_frozen BK101.out))
 refine bodyPost_ret (results_cell_row rfl _ _ gb101 23 #[.bool false, .int .i64 (-1), .int .i64 0] (0, 0) _ rfl (bkt BK101.out) Try.underlying23 rfl (by kernel_rfl)) rfl ?_
 exact bfin (bel HB.out)

/-! ### sensor_Check: function 14 -/
def sensor_Check.j0 : Nat → Bool → Bool → Int → Int → Option (Int)
 | 0, _, _, _, _ => none
 | k + 1, x3, x103000, x103001, x103002 => if x3 = true then (some 2) else (if x103000 = true then (some 0) else ((sensor_failed.f).bind fun bt103 => (if (!(x103000 == bt103.1) || (!(x103001 == bt103.2.1) || (!(x103002 == bt103.2.2)))) = true then (some 3) else (some 0))))
def sensor_Check.f (k : Nat) (a0_0 : Bool) (a0_1 : Int) (a0_2 : Int) : Option (Int) := if a0_1 < (-1) then (sensor_Check.j0 k true a0_0 a0_1 a0_2) else (if a0_1 ≥ 64 then (sensor_Check.j0 k true a0_0 a0_1 a0_2) else (if a0_2 < 0 then (sensor_Check.j0 k true a0_0 a0_1 a0_2) else (sensor_Check.j0 k (decide (a0_2 > 1)) a0_0 a0_1 a0_2)))
theorem sensor_Check.mono_l : ∀ k, (∀ y0 y1 y2 y3, LeO (sensor_Check.j0 k y0 y1 y2 y3) (sensor_Check.j0 (k + 1) y0 y1 y2 y3))
 | 0 => fun _ _ _ _ r h => by simp [sensor_Check.j0] at h
 | k + 1 => by
  have ih0 := sensor_Check.mono_l k
  ·intro y0 y1 y2 y3
   unfold sensor_Check.j0
   repeat' first
   | (with_reducible exact ih0 _ _ _ _)
   | (with_reducible exact LeO.refl _)
   | (with_reducible exact LeO.none _)
   | (with_reducible refine LeO.ite ?_ ?_)
   | (with_reducible refine LeO.bind ?_ (fun _ => ?_))
   | exact ih0 _ _ _ _
   | exact LeO.none _
   | refine LeO.ite ?_ ?_
   | refine LeO.bind ?_ (fun _ => ?_)
theorem sensor_Check.mono : ∀ a0 a1 a2 k, LeO (sensor_Check.f k a0 a1 a2) (sensor_Check.f (k + 1) a0 a1 a2) := by
 intro a0 a1 a2 k
 have ih0 := sensor_Check.mono_l k
 unfold sensor_Check.f
 repeat' first
   | (with_reducible exact ih0 _ _ _ _)
   | (with_reducible exact LeO.refl _)
   | (with_reducible exact LeO.none _)
   | (with_reducible refine LeO.ite ?_ ?_)
   | (with_reducible refine LeO.bind ?_ (fun _ => ?_))
   | exact ih0 _ _ _ _
   | exact LeO.none _
   | refine LeO.ite ?_ ?_
   | refine LeO.bind ?_ (fun _ => ?_)
def sensor_Check.T3 : Bool × List (List Nat × List Nat) := (true, [([], []), ([0], [0]), ([1], [1]), ([2], [2]), ([3], [3]), ([3, 3], [3]), ([4, 5, 3], [3, 4, 5]), ([3, 6], [3, 6]), ([7, 5], [7])])
def sensor_Check.B3 : List Nat := [0, 1, 3, 7, 15, 15, 63, 127, 255]
theorem sensor_Check.tab3 : rtab .any (opsOf Try.f14 3) = sensor_Check.T3 := by kernel_rfl
theorem sensor_Check.bits3 : waitsOk sensor_Check.T3.2 sensor_Check.B3 = true := by kernel_rfl
set_option maxHeartbeats 8000000 in
set_option maxRecDepth 100000 in
theorem sensor_Check.calls (k : Nat) (a0_0 : Bool) (a0_1 : Int) (a0_2 : Int) (r : Int) (w : World) (h : sensor_Check.f k a0_0 a0_1 a0_2 = some r) :
  Calls Try.prog 14 #[.agg #[.bool a0_0, .int .i64 a0_1, .int .i64 a0_2]] w fun e w' => e = .returned (.int .i64 r) ∧ Below w.heap.size w w' := by
 have hu23 := Try.underlying23
 have HB := Aside0.mk (Below.refl w.heap.size w)
 have H : (if a0_1 < (-1) then (sensor_Check.j0 k true a0_0 a0_1 a0_2) else (if a0_1 ≥ 64 then (sensor_Check.j0 k true a0_0 a0_1 a0_2) else (if a0_2 < 0 then (sensor_Check.j0 k true a0_0 a0_1 a0_2) else (sensor_Check.j0 k (decide (a0_2 > 1)) a0_0 a0_1 a0_2)))) = some r := h
 clear h
 have HC2 := Aside0.mk H
 clear H
 go_enter Try.func14, Try.ntmps14
 go_upto_region 1 with (first | ((with_reducible refine gate_dst (N := 1) rfl ?_); refine bxe (cs := #[.bool a0_0, .int .i64 a0_1, .int .i64 a0_2]) (t := 23) ?_; intro gb102 hg w3 hbox hb; have BK102 := Aside0.mk (hbox); have GW102 := Aside0.mk (bge hg HB.out); have GE102 := Aside0.mk (bge hg HB.out); replace HB := Aside0.mk (bst HB.out hb); clear hb hbox hg))
 (try simp only [Act.put, List.setIfInBounds_toArray, List.set_cons_zero, List.set_cons_succ])
 go_cut [3] (fun v3 wc => ∃ (kq : Nat) (x3_1 : Bool), v3 = .bool x3_1 ∧ Aside0 (sensor_Check.j0 kq x3_1 a0_0 a0_1 a0_2 = some r) ∧ Aside0 (kq ≤ k) ∧ Aside0 (wc.heap[gb102]? = some (.cells #[.bool a0_0, .int .i64 a0_1, .int .i64 a0_2] 23 (0, 0))) ∧ Aside0 (Below w.heap.size w wc))
 case first =>
  have H := HC2.out
  clear HC2
  by_cases c4 : a0_1 < (-1)
  ·rw [if_pos c4] at H
   have c4b0 : decide (a0_1 < (-1)) = true := decide_eq_true c4
   clear c4
   (first | rw [c4b0] | (simp only [i64_w, i32_w]; rw [c4b0]) | skip)
   have H' := Aside0.mk H
   clear H
   have hcz5_0 := cz3 BK102.out
   have hfz5_0 := blk_frozen BK102.out
   go_wp2
   go_meet
   case rel => exact ⟨_, (true), (by first | rfl | (simp; done) | (simp [*]; done)), H', ⟨by first | omega | exact Nat.le_refl _⟩, ⟨bkt BK102.out⟩, ⟨bel HB.out⟩⟩
  ·rw [if_neg c4] at H
   have c4b0 : decide (a0_1 < (-1)) = false := decide_eq_false c4
   clear c4
   (first | rw [c4b0] | (simp only [i64_w, i32_w]; rw [c4b0]) | skip)
   by_cases c6 : a0_1 ≥ 64
   ·rw [if_pos c6] at H
    have c6b0 : decide (64 ≤ a0_1) = true := decide_eq_true c6
    clear c6
    have H' := Aside0.mk H
    clear H
    have hcz7_0 := cz3 BK102.out
    have hfz7_0 := blk_frozen BK102.out
    go_wp2
    go_meet
    case rel => exact ⟨_, (true), (by first | rfl | (simp; done) | (simp [*]; done)), H', ⟨by first | omega | exact Nat.le_refl _⟩, ⟨bkt BK102.out⟩, ⟨bel HB.out⟩⟩
   ·rw [if_neg c6] at H
    have c6b0 : decide (64 ≤ a0_1) = false := decide_eq_false c6
    clear c6
    by_cases c8 : a0_2 < 0
    ·rw [if_pos c8] at H
     have c8b0 : decide (a0_2 < 0) = true := decide_eq_true c8
     clear c8
     have H' := Aside0.mk H
     clear H
     have hcz9_0 := cz3 BK102.out
     have hfz9_0 := blk_frozen BK102.out
     go_wp2
     go_meet
     case rel => exact ⟨_, (true), (by first | rfl | (simp; done) | (simp [*]; done)), H', ⟨by first | omega | exact Nat.le_refl _⟩, ⟨bkt BK102.out⟩, ⟨bel HB.out⟩⟩
    ·rw [if_neg c8] at H
     have c8b0 : decide (a0_2 < 0) = false := decide_eq_false c8
     clear c8
     have H' := Aside0.mk H
     clear H
     have hcz10_0 := cz3 BK102.out
     have hfz10_0 := blk_frozen BK102.out
     go_wp2
     go_meet
     case rel => exact ⟨_, (decide (a0_2 > 1)), (by first | rfl | (simp; done) | (simp [*]; done)), H', ⟨by first | omega | exact Nat.le_refl _⟩, ⟨bkt BK102.out⟩, ⟨bel HB.out⟩⟩
 case rest =>
  clear HC2
  try clear c1
  try clear p2
  try clear c4
  try clear c4b0
  try clear c6
  try clear c6b0
  try clear c8
  try clear c8b0
  try clear hcz10_0
  try clear hcz5_0
  try clear hcz7_0
  try clear hcz9_0
  try clear hfz10_0
  try clear hfz5_0
  try clear hfz7_0
  try clear hfz9_0
  obtain ⟨kq, x3_1, rfl, HA, HJ1, BK102, HB⟩ := hcut
  cases kq with
  | zero => exact absurd HA.out (by simp [sensor_Check.j0])
  | succ kj1 =>
   have H := HA.out
   clear HA
   simp only [sensor_Check.j0] at H
   by_cases c11 : x3_1 = true
   ·subst c11
    have H1 : (some 2) = some r := by rw [if_pos rfl] at H; exact H
    clear H
    have H := H1
    clear H1
    obtain rfl := Option.some.inj H
    go_wp2
    go_ret
    exact bfin (bel HB.out)
   ·replace c11 := Bool.eq_false_iff.mpr c11
    subst c11
    have H1 : (if a0_0 = true then (some 0) else ((sensor_failed.f).bind fun bt103 => (if (!(a0_0 == bt103.1) || (!(a0_1 == bt103.2.1) || (!(a0_2 == bt103.2.2)))) = true then (some 3) else (some 0)))) = some r := by rw [if_neg (show ¬ (false = true) by decide)] at H; exact H
    clear H
    have H := H1
    clear H1
    by_cases c12 : a0_0 = true
    ·subst c12
     have H1 : (some 0) = some r := by rw [if_pos rfl] at H; exact H
     clear H
     have H := H1
     clear H1
     obtain rfl := Option.some.inj H
     try go_wp2
     have n0_ := Aside0.mk (blk_drew BK102.out)
     have n1_ := Aside0.mk (below_drew1 HB.out)
     clear BK102
     clear HB
     have BK102 := n0_
     have HB := n1_
     clear n0_ n1_
     refine start_ (n := 9) (S := fun w' => w'.cell? ⟨gb102, 0, none⟩ = some (.bool true) ∧ w'.cell? ⟨gb102, 1, none⟩ = some (.int .i64 a0_1) ∧ w'.cell? ⟨gb102, 2, none⟩ = some (.int .i64 a0_2)) (ds := []) #[false, false, false, false, false, false, false, false, false] (by kernel_rfl) rfl rfl ⟨(blk_cell BK102.out 0).trans rfl, (blk_cell BK102.out 1).trans rfl, (blk_cell BK102.out 2).trans rfl⟩ (fun hHeld => ?_); refine with_tabW sensor_Check.tab3 sensor_Check.bits3 (fun HT_ HW_ => ?_)
     generalize wc.drew = w13 at BK102 HB hHeld ⊢
     refine pur 0 (some 23) (bm 9 1) HT_.out ?_
     refine tkp 1 (some 24) (bm 9 3) HT_.out HW_.out hHeld ?_
     refine pur 2 (some 25) (bm 9 7) HT_.out ?_
     refine pur 3 (some 26) (bm 9 15) HT_.out ?_
     refine purn 4 (some 27) (bm 9 31) HT_.out ?_
     refine purn 5 (some 28) (bm 9 63) HT_.out ?_
     refine purn 6 (some 29) (bm 9 127) HT_.out ?_
     refine pur 7 (some 30) (bm 9 255) HT_.out ?_
     refine pur 8 (some 22) (bm 9 511) HT_.out ?_
     refine done_ (done_of HT_.out (by kernel_rfl)) ?_
     try go_wp2
     go_ret
     exact bfin (bel HB.out)
    ·replace c12 := Bool.eq_false_iff.mpr c12
     subst c12
     have H1 : ((sensor_failed.f).bind fun bt103 => (if (!(false == bt103.1) || (!(a0_1 == bt103.2.1) || (!(a0_2 == bt103.2.2)))) = true then (some 3) else (some 0))) = some r := by rw [if_neg (show ¬ (false = true) by decide)] at H; exact H
     clear H
     have H := H1
     clear H1
     replace H := Option.bind_eq_some_iff.mp H
     obtain ⟨⟨t103, t104, t105⟩, A140, H⟩ := H
     replace H : (if (!(false == t103) || (!(a0_1 == t104) || (!(a0_2 == t105)))) = true then (some 3) else (some 0)) = some r := H
     have A14 := Aside0.mk A140
     clear A140
     by_cases c15 : (!(false == t103) || (!(a0_1 == t104) || (!(a0_2 == t105)))) = true
     ·rw [if_pos c15] at H
      have c15b0 : (!(false == t103) || (!(a0_1 == t104) || (!(a0_2 == t105)))) = true := c15
      (try (have c15s0 := c15b0; simp only [Bool.false_beq, Bool.true_beq, Bool.not_not] at c15s0))
      clear c15
      obtain rfl := Option.some.inj H
      try go_wp2
      have n0_ := Aside0.mk (blk_drew BK102.out)
      have n1_ := Aside0.mk (below_drew1 HB.out)
      clear BK102
      clear HB
      have BK102 := n0_
      have HB := n1_
      clear n0_ n1_
      refine start_ (n := 9) (S := fun w' => w'.cell? ⟨gb102, 0, none⟩ = some (.bool false) ∧ w'.cell? ⟨gb102, 1, none⟩ = some (.int .i64 a0_1) ∧ w'.cell? ⟨gb102, 2, none⟩ = some (.int .i64 a0_2)) (ds := []) #[false, false, false, false, false, false, false, false, false] (by kernel_rfl) rfl rfl ⟨(blk_cell BK102.out 0).trans rfl, (blk_cell BK102.out 1).trans rfl, (blk_cell BK102.out 2).trans rfl⟩ (fun hHeld => ?_); refine with_tabW sensor_Check.tab3 sensor_Check.bits3 (fun HT_ HW_ => ?_)
      generalize wc.drew = w16 at BK102 HB hHeld ⊢
      refine pur 0 (some 23) (bm 9 1) HT_.out ?_
      refine tkp 1 (some 24) (bm 9 3) HT_.out HW_.out hHeld ?_
      refine pur 2 (some 25) (bm 9 7) HT_.out ?_
      refine pur 3 (some 26) (bm 9 15) HT_.out ?_
      refine tkp 4 (some 27) (bm 9 31) HT_.out HW_.out hHeld ?_
      refine one_ (i := 5) (N := some 28) (bm 9 63) rfl rfl (one_of HT_.out (by kernel_rfl)) (by decide) (fun K hK => ?_)
      refine goes_ Try.func38 (by kernel_rfl) rfl #[] (by rfl) rfl rfl (by (try simp only [List.map_toArray, List.map_cons, List.map_nil]); first | done | rfl | (simp only [List.length_drop, List.length_take]; rfl)) ?_
      with_reducible refine (sensor_failed.calls  t103 t104 t105 _ A14.out).mono ?_
      rintro e w17 ⟨rfl, hb⟩
      refine ⟨_, rfl, ?_⟩
      have n0_ := Aside0.mk (bkb BK102.out hb)
      have n1_ := Aside0.mk (bst HB.out hb)
      clear BK102
      clear HB
      have BK102 := n0_
      have HB := n1_
      clear n0_ n1_
      (try clear hb)
      (try clear hb2)
      (try clear hk)
      (try clear hi)
      refine hK.out _ _ ⟨(blk_cell BK102.out 0).trans rfl, (blk_cell BK102.out 1).trans rfl, (blk_cell BK102.out 2).trans rfl⟩ (fun hHeld => ?_)
      clear hK K
      refine norm_ (a' := ?_) ?_ ?_
      rotate_left
      ·show Act.put _ (some 28) _ = _
       simp only [Act.put, List.setIfInBounds_toArray, List.set_cons_zero, List.set_cons_succ, i64_w, i32_w]
       rfl
      refine pur 6 (some 29) (bm 9 127) HT_.out ?_
      refine pur 7 (some 30) (bm 9 255) HT_.out ?_
      refine pur 8 (some 22) (bm 9 511) HT_.out ?_
      refine done_ (done_of HT_.out (by kernel_rfl)) ?_
      try go_wp2
      go_ret
      exact bfin (bel HB.out)
     ·rw [if_neg c15] at H
      have c15b0 : (!(false == t103) || (!(a0_1 == t104) || (!(a0_2 == t105)))) = false := by simpa using c15
      (try (have c15s0 := c15b0; simp only [Bool.false_beq, Bool.true_beq, Bool.not_not] at c15s0))
      clear c15
      obtain rfl := Option.some.inj H
      try go_wp2
      have n0_ := Aside0.mk (blk_drew BK102.out)
      have n1_ := Aside0.mk (below_drew1 HB.out)
      clear BK102
      clear HB
      have BK102 := n0_
      have HB := n1_
      clear n0_ n1_
      refine start_ (n := 9) (S := fun w' => w'.cell? ⟨gb102, 0, none⟩ = some (.bool false) ∧ w'.cell? ⟨gb102, 1, none⟩ = some (.int .i64 a0_1) ∧ w'.cell? ⟨gb102, 2, none⟩ = some (.int .i64 a0_2)) (ds := []) #[false, false, false, false, false, false, false, false, false] (by kernel_rfl) rfl rfl ⟨(blk_cell BK102.out 0).trans rfl, (blk_cell BK102.out 1).trans rfl, (blk_cell BK102.out 2).trans rfl⟩ (fun hHeld => ?_); refine with_tabW sensor_Check.tab3 sensor_Check.bits3 (fun HT_ HW_ => ?_)
      generalize wc.drew = w18 at BK102 HB hHeld ⊢
      refine pur 0 (some 23) (bm 9 1) HT_.out ?_
      refine tkp 1 (some 24) (bm 9 3) HT_.out HW_.out hHeld ?_
      refine pur 2 (some 25) (bm 9 7) HT_.out ?_
      refine pur 3 (some 26) (bm 9 15) HT_.out ?_
      refine tkp 4 (some 27) (bm 9 31) HT_.out HW_.out hHeld ?_
      refine one_ (i := 5) (N := some 28) (bm 9 63) rfl rfl (one_of HT_.out (by kernel_rfl)) (by decide) (fun K hK => ?_)
      refine goes_ Try.func38 (by kernel_rfl) rfl #[] (by rfl) rfl rfl (by (try simp only [List.map_toArray, List.map_cons, List.map_nil]); first | done | rfl | (simp only [List.length_drop, List.length_take]; rfl)) ?_
      with_reducible refine (sensor_failed.calls  t103 t104 t105 _ A14.out).mono ?_
      rintro e w19 ⟨rfl, hb⟩
      refine ⟨_, rfl, ?_⟩
      have n0_ := Aside0.mk (bkb BK102.out hb)
      have n1_ := Aside0.mk (bst HB.out hb)
      clear BK102
      clear HB
      have BK102 := n0_
      have HB := n1_
      clear n0_ n1_
      (try clear hb)
      (try clear hb2)
      (try clear hk)
      (try clear hi)
      refine hK.out _ _ ⟨(blk_cell BK102.out 0).trans rfl, (blk_cell BK102.out 1).trans rfl, (blk_cell BK102.out 2).trans rfl⟩ (fun hHeld => ?_)
      clear hK K
      refine norm_ (a' := ?_) ?_ ?_
      rotate_left
      ·show Act.put _ (some 28) _ = _
       simp only [Act.put, List.setIfInBounds_toArray, List.set_cons_zero, List.set_cons_succ, i64_w, i32_w]
       rfl
      refine pur 6 (some 29) (bm 9 127) HT_.out ?_
      refine pur 7 (some 30) (bm 9 255) HT_.out ?_
      refine pur 8 (some 22) (bm 9 511) HT_.out ?_
      refine done_ (done_of HT_.out (by kernel_rfl)) ?_
      try go_wp2
      go_ret
      exact bfin (bel HB.out)

/-! ### sensor_Faults: function 21 -/
mutual
def sensor_Faults.j0 : Nat → List (S68) → Int → Bool → Option (List Int × Int)
 | 0, _, _, _ => none
 | k + 1, x0, x1, x14 => if x14 = true then (some (([] : List Int), 2)) else (sensor_Faults.l0 k x1 ([] : List Int) x0 (x0.length : Int) 0)
def sensor_Faults.l0 : Nat → Int → List Int → List (S68) → Int → Int → Option (List Int × Int)
 | 0, _, _, _, _, _ => none
 | k + 1, x1, x6, x15, x16, x17 => if x17 < x16 then (if 0 ≤ x17 then (if x17 < (x15.length : Int) then (if ((rd_T68 x15 x17).f1) = 2 then (if ((rd_T68 x15 x17).f4) = x1 then (if ((rd_T68 x15 x17).f5) ≥ 3 then (if ((rd_T68 x15 x17).f5) ≤ 6 then (if x6.length < 17592186044416 then (sensor_Faults.l0 k x1 (x6 ++ [(rd_T68 x15 x17).f5]) x15 x16 (wrap64 (x17 + 1))) else (none)) else (sensor_Faults.l0 k x1 x6 x15 x16 (wrap64 (x17 + 1)))) else (sensor_Faults.l0 k x1 x6 x15 x16 (wrap64 (x17 + 1)))) else (sensor_Faults.l0 k x1 x6 x15 x16 (wrap64 (x17 + 1)))) else (sensor_Faults.l0 k x1 x6 x15 x16 (wrap64 (x17 + 1)))) else (none)) else (none)) else (some (x6, 0))
end
def sensor_Faults.f (k : Nat) (l0 : List (S68)) (a1 : Int) : Option (List Int × Int) := if a1 < 1 then (sensor_Faults.j0 k l0 a1 true) else (sensor_Faults.j0 k l0 a1 (decide (a1 > 8)))
theorem sensor_Faults.mono_l : ∀ k, (∀ y0 y1 y2, LeO (sensor_Faults.j0 k y0 y1 y2) (sensor_Faults.j0 (k + 1) y0 y1 y2)) ∧ (∀ y0 y1 y2 y3 y4, LeO (sensor_Faults.l0 k y0 y1 y2 y3 y4) (sensor_Faults.l0 (k + 1) y0 y1 y2 y3 y4))
 | 0 => ⟨fun _ _ _ r h => by simp [sensor_Faults.j0] at h, fun _ _ _ _ _ r h => by simp [sensor_Faults.l0] at h⟩
 | k + 1 => by
  obtain ⟨ih0, ih1⟩ := sensor_Faults.mono_l k
  refine ⟨?_, ?_⟩
  ·intro y0 y1 y2
   unfold sensor_Faults.j0
   repeat' first
   | (with_reducible exact ih0 _ _ _)
   | (with_reducible exact ih1 _ _ _ _ _)
   | (with_reducible exact LeO.refl _)
   | (with_reducible exact LeO.none _)
   | (with_reducible refine LeO.ite ?_ ?_)
   | (with_reducible refine LeO.bind ?_ (fun _ => ?_))
   | exact ih0 _ _ _
   | exact ih1 _ _ _ _ _
   | exact LeO.none _
   | refine LeO.ite ?_ ?_
   | refine LeO.bind ?_ (fun _ => ?_)
  ·intro y0 y1 y2 y3 y4
   unfold sensor_Faults.l0
   repeat' first
   | (with_reducible exact ih0 _ _ _)
   | (with_reducible exact ih1 _ _ _ _ _)
   | (with_reducible exact LeO.refl _)
   | (with_reducible exact LeO.none _)
   | (with_reducible refine LeO.ite ?_ ?_)
   | (with_reducible refine LeO.bind ?_ (fun _ => ?_))
   | exact ih0 _ _ _
   | exact ih1 _ _ _ _ _
   | exact LeO.none _
   | refine LeO.ite ?_ ?_
   | refine LeO.bind ?_ (fun _ => ?_)
theorem sensor_Faults.mono : ∀ a0 a1 k, LeO (sensor_Faults.f k a0 a1) (sensor_Faults.f (k + 1) a0 a1) := by
 intro a0 a1 k
 obtain ⟨ih0, ih1⟩ := sensor_Faults.mono_l k
 unfold sensor_Faults.f
 repeat' first
   | (with_reducible exact ih0 _ _ _)
   | (with_reducible exact ih1 _ _ _ _ _)
   | (with_reducible exact LeO.refl _)
   | (with_reducible exact LeO.none _)
   | (with_reducible refine LeO.ite ?_ ?_)
   | (with_reducible refine LeO.bind ?_ (fun _ => ?_))
   | exact ih0 _ _ _
   | exact ih1 _ _ _ _ _
   | exact LeO.none _
   | refine LeO.ite ?_ ?_
   | refine LeO.bind ?_ (fun _ => ?_)
set_option maxHeartbeats 8000000 in
set_option maxRecDepth 100000 in
theorem sensor_Faults.calls (k : Nat) (A0 : Option Addr) (c0 : Nat) (l0 : List (S68)) (a1 : Int) (r1 : List Int) (r2 : Int) (w : World) (hr0 : Kd.C k68 w A0 l0.length l0) (hc0 : l0.length ≤ c0) (h : sensor_Faults.f k l0 a1 = some (r1, r2)) :
  Calls Try.prog 21 #[.slice A0 l0.length c0, .int .i64 a1] w fun e w' => ∃ v0_ : Value, e = .returned (.tuple #[v0_, .int .i64 r2]) ∧ Kd.R (Kd.int .i64) 3 w' w.heap.size (fun _ => True) v0_ r1 ∧ Below w.heap.size w w' := by
 have hu68 := Try.underlying68
 have HR0 := Aside0.mk hr0
 have HC0 := Aside0.mk hc0
 clear hr0 hc0
 have HB := Aside0.mk (Below.refl w.heap.size w)
 have H : (if a1 < 1 then (sensor_Faults.j0 k l0 a1 true) else (sensor_Faults.j0 k l0 a1 (decide (a1 > 8)))) = some (r1, r2) := h
 clear h
 have HC3 := Aside0.mk H
 clear H
 go_enter Try.func21, Try.ntmps21
 go_upto_region 1 with (fail)
 go_cut [14] (fun v14 wc => ∃ (kq : Nat) (x14_2 : Bool), v14 = .bool x14_2 ∧ Aside0 (sensor_Faults.j0 kq l0 a1 x14_2 = some (r1, r2)) ∧ Aside0 (kq ≤ k) ∧ Aside0 (Below w.heap.size w wc))
 case first =>
  have H := HC3.out
  clear HC3
  by_cases c4 : a1 < 1
  ·rw [if_pos c4] at H
   have c4b0 : decide (a1 < 1) = true := decide_eq_true c4
   clear c4
   (first | rw [c4b0] | (simp only [i64_w, i32_w]; rw [c4b0]) | skip)
   have H' := Aside0.mk H
   clear H
   go_wp2
   go_meet
   case rel => exact ⟨_, (true), (by first | rfl | (simp; done) | (simp [*]; done)), H', ⟨by first | omega | exact Nat.le_refl _⟩, ⟨bel HB.out⟩⟩
  ·rw [if_neg c4] at H
   have c4b0 : decide (a1 < 1) = false := decide_eq_false c4
   clear c4
   (first | rw [c4b0] | (simp only [i64_w, i32_w]; rw [c4b0]) | skip)
   have H' := Aside0.mk H
   clear H
   go_wp2
   go_meet
   case rel => exact ⟨_, (decide (a1 > 8)), (by first | rfl | (simp; done) | (simp [*]; done)), H', ⟨by first | omega | exact Nat.le_refl _⟩, ⟨bel HB.out⟩⟩
 case rest =>
  clear HC3
  try clear c2
  try clear p2
  try clear c4
  try clear c4b0
  obtain ⟨kq, x14_2, rfl, HA, HJ2, HB⟩ := hcut
  cases kq with
  | zero => exact absurd HA.out (by simp [sensor_Faults.j0])
  | succ kj2 =>
   have H := HA.out
   clear HA
   simp only [sensor_Faults.j0] at H
   by_cases c5 : x14_2 = true
   ·subst c5
    have H1 : (some (([] : List Int), 2)) = some (r1, r2) := by rw [if_pos rfl] at H; exact H
    clear H
    have H := H1
    clear H1
    simp only [Option.some.injEq, Prod.mk.injEq] at H
    obtain ⟨rfl, rfl⟩ := H
    go_wp2
    go_ret2
    exact ⟨_, by first | rfl | (simp [errW_none, errW_some] <;> rfl) | (simp [*, errW_none, errW_some] <;> rfl), by first | exact Kd.R_nil _ _ _ _ _ | exact Kd.N_nil _ _ _ _ _ | exact Kd.V_nil _ _ _ _ _ | exact Kd.Q_nil _ _ _ _ _ | exact Kd.S_nil _ _ _ _ _, bel HB.out⟩
   ·replace c5 := Bool.eq_false_iff.mpr c5
    subst c5
    have H1 : (sensor_Faults.l0 kj2 a1 ([] : List Int) l0 (l0.length : Int) 0) = some (r1, r2) := by rw [if_neg (show ¬ (false = true) by decide)] at H; exact H
    clear H
    have H := H1
    clear H1
    have H' := Aside0.mk H
    clear H
    go_wp2
    go_loopg [6, 17] kj2 (fun kq v6 v17 w' => ∃ (x6_2 : List Int) (x17_2 : Int), v17 = .int .i64 x17_2 ∧ Aside0 (sensor_Faults.l0 kq a1 x6_2 l0 (l0.length : Int) x17_2 = some (r1, r2)) ∧ Aside0 (kq ≤ kj2) ∧ Aside0 (Kd.R (Kd.int .i64) 3 w' w.heap.size (fun _ => True) v6 x6_2) ∧ Aside0 (Below w.heap.size w w'))
    case atStart => exact ⟨(([] : List Int)), (0), (by first | rfl | (simp; done) | (simp [*]; done)), H', ⟨Nat.le_refl _⟩, ⟨by first | exact Kd.R_nil _ _ _ _ _ | exact Kd.N_nil _ _ _ _ _ | exact Kd.V_nil _ _ _ _ _ | exact Kd.Q_nil _ _ _ _ _ | exact Kd.S_nil _ _ _ _ _⟩, ⟨bel HB.out⟩⟩
    case round =>
     clear H'
     try clear c2
     try clear p2
     try clear c4
     try clear c4b0
     try clear c5
     try clear p2
     obtain ⟨x6_2, x17_2, rfl, HA, HK2, HO_6, HB⟩ := hrel
     cases gk with
     | zero => exact absurd HA.out (by simp [sensor_Faults.l0])
     | succ k2 =>
      have H := HA.out
      clear HA
      simp only [sensor_Faults.l0] at H
      by_cases c6 : x17_2 < (l0.length : Int)
      ·rw [if_pos c6] at H
       have c6b0 : decide (x17_2 < (l0.length : Int)) = true := decide_eq_true c6
       clear c6
       by_cases c7 : 0 ≤ x17_2
       ·rw [if_pos c7] at H
        have c7b0 : decide (0 ≤ x17_2) = true := decide_eq_true c7
        clear c7
        by_cases c8 : x17_2 < (l0.length : Int)
        ·rw [if_pos c8] at H
         have c8b0 : decide (x17_2 < (l0.length : Int)) = true := decide_eq_true c8
         clear c8
         by_cases c9 : ((rd_T68 l0 x17_2).f1) = 2
         ·rw [if_pos c9] at H
          have c9b0 : (((rd_T68 l0 x17_2).f1) == 2) = true := beq_iff_eq.mpr c9
          have c9b1 : (((rd_T68 l0 x17_2).f1) != 2) = false := bne_eq_false_iff_eq.mpr c9
          clear c9
          by_cases c10 : ((rd_T68 l0 x17_2).f4) = a1
          ·rw [if_pos c10] at H
           have c10b0 : (((rd_T68 l0 x17_2).f4) == a1) = true := beq_iff_eq.mpr c10
           have c10b1 : (((rd_T68 l0 x17_2).f4) != a1) = false := bne_eq_false_iff_eq.mpr c10
           clear c10
           by_cases c11 : ((rd_T68 l0 x17_2).f5) ≥ 3
           ·rw [if_pos c11] at H
            have c11b0 : decide (3 ≤ ((rd_T68 l0 x17_2).f5)) = true := decide_eq_true c11
            clear c11
            by_cases c12 : ((rd_T68 l0 x17_2).f5) ≤ 6
            ·rw [if_pos c12] at H
             have c12b0 : decide (((rd_T68 l0 x17_2).f5) ≤ 6) = true := decide_eq_true c12
             clear c12
             by_cases c13 : x6_2.length < 17592186044416
             ·rw [if_pos c13] at H
              have LMc13 := Aside0.mk c13
              clear c13
              obtain ⟨y110, hy110⟩ : ∃ y_ : List Int, y_ = (x6_2 ++ [(rd_T68 l0 x17_2).f5]) := ⟨_, rfl⟩
              replace H : (sensor_Faults.l0 k2 a1 y110 l0 (l0.length : Int) (wrap64 (x17_2 + 1))) = some (r1, r2) := by first | (rw [hy110]; with_reducible exact H) | (have H2_ := (Option.bind_some _ _).symm.trans H; rw [hy110]; with_reducible exact H2_) | (have H2_ := (Option.bind_some _ _).symm.trans H; with_reducible exact H2_) | with_reducible exact H | (rw [hy110]; exact H) | exact H
              have Ny110 := Aside0.mk hy110
              clear hy110
              have H' := Aside0.mk H
              clear H
              have p108 : 0 ≤ (x17_2 : Int) := of_decide_eq_true (by first | (with_reducible assumption) | assumption)
              have q108 : x17_2 < (l0.length : Int) := of_decide_eq_true (by first | (with_reducible assumption) | assumption)
              obtain ⟨ad108, e108, hx108_0, hx108_1, hx108_2, hx108_3, hx108_4, hx108_5, hx108_6⟩ := at_T68 HR0.out x17_2 p108 q108
              cases e108
              replace hx108_0 := (HB.out.cell (World.block_lt_of_cell? w _ hx108_0)).trans hx108_0
              replace hx108_1 := (HB.out.cell (World.block_lt_of_cell? w _ hx108_1)).trans hx108_1
              replace hx108_2 := (HB.out.cell (World.block_lt_of_cell? w _ hx108_2)).trans hx108_2
              replace hx108_3 := (HB.out.cell (World.block_lt_of_cell? w _ hx108_3)).trans hx108_3
              replace hx108_4 := (HB.out.cell (World.block_lt_of_cell? w _ hx108_4)).trans hx108_4
              replace hx108_5 := (HB.out.cell (World.block_lt_of_cell? w _ hx108_5)).trans hx108_5
              replace hx108_6 := (HB.out.cell (World.block_lt_of_cell? w _ hx108_6)).trans hx108_6
              replace p108 := eq_true p108
              replace q108 := eq_true q108
              go_wp2_with (first | ((with_reducible refine gate_dst (N := 8) rfl ?_); refine bxe (cs := #[.int .i64 0, .int .i64 0, .int .i64 0, .string (⟨#[]⟩ : ByteArray), .int .i64 0, .int .i64 0, .int .i64 0]) (t := 68) ?_; intro gb109 hg w14 hbox hb; have BK109 := Aside0.mk (hbox); have GW109 := Aside0.mk (bge hg HB.out); have GE109 := Aside0.mk (bge hg HB.out); replace HO_6 := Aside0.mk (Kd.R_below (kdt HO_6.out) hb); replace HB := Aside0.mk (bst HB.out hb); clear hb hbox hg; have hcz15_0 := cz7 BK109.out; have hfz15_0 := blk_frozen BK109.out) | ((with_reducible refine gate_builtin (b := .append) (xs := #[.tmp 40, .tmp 43]) rfl ?_); at_builtin; refine Kd.R_append (Kd.int .i64) (w0 := w) w.heap.size rfl (.tmp 40) (.tmp 43) 24 3 (.int .i64 0) 8 rfl Try.underlying24 info3 rfl (by decide) (by omega) u6 x6_2 ((rd_T68 l0 x17_2).f5) [.int .i64 ((rd_T68 l0 x17_2).f5)] (fun _ => True) (fun _ => False) rfl (by first | (go_simp; done) | (go_simp; rfl)) ?aP (fun _ hk => hk.elim) ?aF ?aO ?aB ?aS ?aL ?_; (case aP => exact rfl); (case aB => exact (bel HB.out)); (case aF => exact (fun _ _ => trivial)); (case aO => exact (by (with_reducible repeat (first | apply Kd.R_alloc | apply Kd.R_drewN | apply Kd.R_drew)); exact Kd.R_mono (Kd.R_far (p := ⟨gb109, 6, none⟩) (Kd.R_far (p := ⟨gb109, 5, none⟩) (Kd.R_far (p := ⟨gb109, 4, none⟩) (Kd.R_far (p := ⟨gb109, 3, none⟩) (Kd.R_far (p := ⟨gb109, 2, none⟩) (Kd.R_far (p := ⟨gb109, 1, none⟩) (Kd.R_far (p := ⟨gb109, 0, none⟩) (Kd.R_types HO_6.out BK109.out (by decide)) (fun _ hk => hk.2) (.int .i64 ((rd_T68 l0 x17_2).f0))) (fun _ hk => hk.2) (.int .i64 ((rd_T68 l0 x17_2).f1))) (fun _ hk => hk.2) (.int .i64 ((rd_T68 l0 x17_2).f2))) (fun _ hk => hk.2) (.string ((rd_T68 l0 x17_2).f3))) (fun _ hk => hk.2) (.int .i64 ((rd_T68 l0 x17_2).f4))) (fun _ hk => hk.2) (.int .i64 ((rd_T68 l0 x17_2).f5))) (fun _ hk => hk.2) (.int .i64 ((rd_T68 l0 x17_2).f6))) (fun _ hk => trivial))); (case aS => exact (bsz HB.out)); (case aL => have := LMc13.out; omega); intro v111 w16 ho hb hg hat; rw [← Ny110.out] at ho; have n0_ := Aside0.mk (blk_grown (g := gb109) (o := .cells #[.int .i64 ((rd_T68 l0 x17_2).f0), .int .i64 ((rd_T68 l0 x17_2).f1), .int .i64 ((rd_T68 l0 x17_2).f2), .string ((rd_T68 l0 x17_2).f3), .int .i64 ((rd_T68 l0 x17_2).f4), .int .i64 ((rd_T68 l0 x17_2).f5), .int .i64 ((rd_T68 l0 x17_2).f6)] 68 (0, 0)) (bkt BK109.out) hg (Kd.R_ne HO_6.out BK109.out (by decide))); have n1_ := Aside0.mk (hb); have n2_ := Aside0.mk (ho); clear BK109; clear HB; clear HO_6; have BK109 := n0_; have HB := n1_; have HO112 := n2_; clear n0_ n1_ n2_; clear ho hb hg hat))
              go_roundg k2
              case measure => have := HJ2.out; have := HK2.out; omega
              case rel => exact ⟨(y110), (wrap64 (x17_2 + 1)), (by first | rfl | (simp; done) | (simp [*]; done)), H', ⟨by have := HJ2.out; have := HK2.out; omega⟩, ⟨kdt HO112.out⟩, ⟨bel HB.out⟩⟩
             ·rw [if_neg c13] at H
              exact absurd H (by simp)
            ·rw [if_neg c12] at H
             have c12b0 : decide (((rd_T68 l0 x17_2).f5) ≤ 6) = false := decide_eq_false c12
             clear c12
             have H' := Aside0.mk H
             clear H
             have p108 : 0 ≤ (x17_2 : Int) := of_decide_eq_true (by first | (with_reducible assumption) | assumption)
             have q108 : x17_2 < (l0.length : Int) := of_decide_eq_true (by first | (with_reducible assumption) | assumption)
             obtain ⟨ad108, e108, hx108_0, hx108_1, hx108_2, hx108_3, hx108_4, hx108_5, hx108_6⟩ := at_T68 HR0.out x17_2 p108 q108
             cases e108
             replace hx108_0 := (HB.out.cell (World.block_lt_of_cell? w _ hx108_0)).trans hx108_0
             replace hx108_1 := (HB.out.cell (World.block_lt_of_cell? w _ hx108_1)).trans hx108_1
             replace hx108_2 := (HB.out.cell (World.block_lt_of_cell? w _ hx108_2)).trans hx108_2
             replace hx108_3 := (HB.out.cell (World.block_lt_of_cell? w _ hx108_3)).trans hx108_3
             replace hx108_4 := (HB.out.cell (World.block_lt_of_cell? w _ hx108_4)).trans hx108_4
             replace hx108_5 := (HB.out.cell (World.block_lt_of_cell? w _ hx108_5)).trans hx108_5
             replace hx108_6 := (HB.out.cell (World.block_lt_of_cell? w _ hx108_6)).trans hx108_6
             replace p108 := eq_true p108
             replace q108 := eq_true q108
             go_wp2_with (first | ((with_reducible refine gate_dst (N := 8) rfl ?_); refine bxe (cs := #[.int .i64 0, .int .i64 0, .int .i64 0, .string (⟨#[]⟩ : ByteArray), .int .i64 0, .int .i64 0, .int .i64 0]) (t := 68) ?_; intro gb109 hg w17 hbox hb; have BK109 := Aside0.mk (hbox); have GW109 := Aside0.mk (bge hg HB.out); have GE109 := Aside0.mk (bge hg HB.out); replace HO_6 := Aside0.mk (Kd.R_below (kdt HO_6.out) hb); replace HB := Aside0.mk (bst HB.out hb); clear hb hbox hg; have hcz18_0 := cz7 BK109.out; have hfz18_0 := blk_frozen BK109.out))
             go_roundg k2
             case measure => have := HJ2.out; have := HK2.out; omega
             case rel => exact ⟨(x6_2), (wrap64 (x17_2 + 1)), (by first | rfl | (simp; done) | (simp [*]; done)), H', ⟨by have := HJ2.out; have := HK2.out; omega⟩, ⟨by (with_reducible repeat (first | apply Kd.R_alloc | apply Kd.R_drewN | apply Kd.R_drew)); exact Kd.R_mono (Kd.R_far (p := ⟨gb109, 6, none⟩) (Kd.R_far (p := ⟨gb109, 5, none⟩) (Kd.R_far (p := ⟨gb109, 4, none⟩) (Kd.R_far (p := ⟨gb109, 3, none⟩) (Kd.R_far (p := ⟨gb109, 2, none⟩) (Kd.R_far (p := ⟨gb109, 1, none⟩) (Kd.R_far (p := ⟨gb109, 0, none⟩) (Kd.R_types HO_6.out BK109.out (by decide)) (fun _ hk => hk.2) (.int .i64 ((rd_T68 l0 x17_2).f0))) (fun _ hk => hk.2) (.int .i64 ((rd_T68 l0 x17_2).f1))) (fun _ hk => hk.2) (.int .i64 ((rd_T68 l0 x17_2).f2))) (fun _ hk => hk.2) (.string ((rd_T68 l0 x17_2).f3))) (fun _ hk => hk.2) (.int .i64 ((rd_T68 l0 x17_2).f4))) (fun _ hk => hk.2) (.int .i64 ((rd_T68 l0 x17_2).f5))) (fun _ hk => hk.2) (.int .i64 ((rd_T68 l0 x17_2).f6))) (fun _ hk => trivial)⟩, ⟨bel HB.out⟩⟩
           ·rw [if_neg c11] at H
            have c11b0 : decide (3 ≤ ((rd_T68 l0 x17_2).f5)) = false := decide_eq_false c11
            clear c11
            have H' := Aside0.mk H
            clear H
            have p108 : 0 ≤ (x17_2 : Int) := of_decide_eq_true (by first | (with_reducible assumption) | assumption)
            have q108 : x17_2 < (l0.length : Int) := of_decide_eq_true (by first | (with_reducible assumption) | assumption)
            obtain ⟨ad108, e108, hx108_0, hx108_1, hx108_2, hx108_3, hx108_4, hx108_5, hx108_6⟩ := at_T68 HR0.out x17_2 p108 q108
            cases e108
            replace hx108_0 := (HB.out.cell (World.block_lt_of_cell? w _ hx108_0)).trans hx108_0
            replace hx108_1 := (HB.out.cell (World.block_lt_of_cell? w _ hx108_1)).trans hx108_1
            replace hx108_2 := (HB.out.cell (World.block_lt_of_cell? w _ hx108_2)).trans hx108_2
            replace hx108_3 := (HB.out.cell (World.block_lt_of_cell? w _ hx108_3)).trans hx108_3
            replace hx108_4 := (HB.out.cell (World.block_lt_of_cell? w _ hx108_4)).trans hx108_4
            replace hx108_5 := (HB.out.cell (World.block_lt_of_cell? w _ hx108_5)).trans hx108_5
            replace hx108_6 := (HB.out.cell (World.block_lt_of_cell? w _ hx108_6)).trans hx108_6
            replace p108 := eq_true p108
            replace q108 := eq_true q108
            go_wp2_with (first | ((with_reducible refine gate_dst (N := 8) rfl ?_); refine bxe (cs := #[.int .i64 0, .int .i64 0, .int .i64 0, .string (⟨#[]⟩ : ByteArray), .int .i64 0, .int .i64 0, .int .i64 0]) (t := 68) ?_; intro gb109 hg w19 hbox hb; have BK109 := Aside0.mk (hbox); have GW109 := Aside0.mk (bge hg HB.out); have GE109 := Aside0.mk (bge hg HB.out); replace HO_6 := Aside0.mk (Kd.R_below (kdt HO_6.out) hb); replace HB := Aside0.mk (bst HB.out hb); clear hb hbox hg; have hcz20_0 := cz7 BK109.out; have hfz20_0 := blk_frozen BK109.out))
            go_roundg k2
            case measure => have := HJ2.out; have := HK2.out; omega
            case rel => exact ⟨(x6_2), (wrap64 (x17_2 + 1)), (by first | rfl | (simp; done) | (simp [*]; done)), H', ⟨by have := HJ2.out; have := HK2.out; omega⟩, ⟨by (with_reducible repeat (first | apply Kd.R_alloc | apply Kd.R_drewN | apply Kd.R_drew)); exact Kd.R_mono (Kd.R_far (p := ⟨gb109, 6, none⟩) (Kd.R_far (p := ⟨gb109, 5, none⟩) (Kd.R_far (p := ⟨gb109, 4, none⟩) (Kd.R_far (p := ⟨gb109, 3, none⟩) (Kd.R_far (p := ⟨gb109, 2, none⟩) (Kd.R_far (p := ⟨gb109, 1, none⟩) (Kd.R_far (p := ⟨gb109, 0, none⟩) (Kd.R_types HO_6.out BK109.out (by decide)) (fun _ hk => hk.2) (.int .i64 ((rd_T68 l0 x17_2).f0))) (fun _ hk => hk.2) (.int .i64 ((rd_T68 l0 x17_2).f1))) (fun _ hk => hk.2) (.int .i64 ((rd_T68 l0 x17_2).f2))) (fun _ hk => hk.2) (.string ((rd_T68 l0 x17_2).f3))) (fun _ hk => hk.2) (.int .i64 ((rd_T68 l0 x17_2).f4))) (fun _ hk => hk.2) (.int .i64 ((rd_T68 l0 x17_2).f5))) (fun _ hk => hk.2) (.int .i64 ((rd_T68 l0 x17_2).f6))) (fun _ hk => trivial)⟩, ⟨bel HB.out⟩⟩
          ·rw [if_neg c10] at H
           have c10b0 : (((rd_T68 l0 x17_2).f4) == a1) = false := beq_eq_false_iff_ne.mpr c10
           have c10b1 : (((rd_T68 l0 x17_2).f4) != a1) = true := bne_iff_ne.mpr c10
           have H' := Aside0.mk H
           clear H
           have p108 : 0 ≤ (x17_2 : Int) := of_decide_eq_true (by first | (with_reducible assumption) | assumption)
           have q108 : x17_2 < (l0.length : Int) := of_decide_eq_true (by first | (with_reducible assumption) | assumption)
           obtain ⟨ad108, e108, hx108_0, hx108_1, hx108_2, hx108_3, hx108_4, hx108_5, hx108_6⟩ := at_T68 HR0.out x17_2 p108 q108
           cases e108
           replace hx108_0 := (HB.out.cell (World.block_lt_of_cell? w _ hx108_0)).trans hx108_0
           replace hx108_1 := (HB.out.cell (World.block_lt_of_cell? w _ hx108_1)).trans hx108_1
           replace hx108_2 := (HB.out.cell (World.block_lt_of_cell? w _ hx108_2)).trans hx108_2
           replace hx108_3 := (HB.out.cell (World.block_lt_of_cell? w _ hx108_3)).trans hx108_3
           replace hx108_4 := (HB.out.cell (World.block_lt_of_cell? w _ hx108_4)).trans hx108_4
           replace hx108_5 := (HB.out.cell (World.block_lt_of_cell? w _ hx108_5)).trans hx108_5
           replace hx108_6 := (HB.out.cell (World.block_lt_of_cell? w _ hx108_6)).trans hx108_6
           replace p108 := eq_true p108
           replace q108 := eq_true q108
           go_wp2_with (first | ((with_reducible refine gate_dst (N := 8) rfl ?_); refine bxe (cs := #[.int .i64 0, .int .i64 0, .int .i64 0, .string (⟨#[]⟩ : ByteArray), .int .i64 0, .int .i64 0, .int .i64 0]) (t := 68) ?_; intro gb109 hg w21 hbox hb; have BK109 := Aside0.mk (hbox); have GW109 := Aside0.mk (bge hg HB.out); have GE109 := Aside0.mk (bge hg HB.out); replace HO_6 := Aside0.mk (Kd.R_below (kdt HO_6.out) hb); replace HB := Aside0.mk (bst HB.out hb); clear hb hbox hg; have hcz22_0 := cz7 BK109.out; have hfz22_0 := blk_frozen BK109.out))
           go_roundg k2
           case measure => have := HJ2.out; have := HK2.out; omega
           case rel => exact ⟨(x6_2), (wrap64 (x17_2 + 1)), (by first | rfl | (simp; done) | (simp [*]; done)), H', ⟨by have := HJ2.out; have := HK2.out; omega⟩, ⟨by (with_reducible repeat (first | apply Kd.R_alloc | apply Kd.R_drewN | apply Kd.R_drew)); exact Kd.R_mono (Kd.R_far (p := ⟨gb109, 6, none⟩) (Kd.R_far (p := ⟨gb109, 5, none⟩) (Kd.R_far (p := ⟨gb109, 4, none⟩) (Kd.R_far (p := ⟨gb109, 3, none⟩) (Kd.R_far (p := ⟨gb109, 2, none⟩) (Kd.R_far (p := ⟨gb109, 1, none⟩) (Kd.R_far (p := ⟨gb109, 0, none⟩) (Kd.R_types HO_6.out BK109.out (by decide)) (fun _ hk => hk.2) (.int .i64 ((rd_T68 l0 x17_2).f0))) (fun _ hk => hk.2) (.int .i64 ((rd_T68 l0 x17_2).f1))) (fun _ hk => hk.2) (.int .i64 ((rd_T68 l0 x17_2).f2))) (fun _ hk => hk.2) (.string ((rd_T68 l0 x17_2).f3))) (fun _ hk => hk.2) (.int .i64 ((rd_T68 l0 x17_2).f4))) (fun _ hk => hk.2) (.int .i64 ((rd_T68 l0 x17_2).f5))) (fun _ hk => hk.2) (.int .i64 ((rd_T68 l0 x17_2).f6))) (fun _ hk => trivial)⟩, ⟨bel HB.out⟩⟩
         ·rw [if_neg c9] at H
          have c9b0 : (((rd_T68 l0 x17_2).f1) == 2) = false := beq_eq_false_iff_ne.mpr c9
          have c9b1 : (((rd_T68 l0 x17_2).f1) != 2) = true := bne_iff_ne.mpr c9
          have H' := Aside0.mk H
          clear H
          have p108 : 0 ≤ (x17_2 : Int) := of_decide_eq_true (by first | (with_reducible assumption) | assumption)
          have q108 : x17_2 < (l0.length : Int) := of_decide_eq_true (by first | (with_reducible assumption) | assumption)
          obtain ⟨ad108, e108, hx108_0, hx108_1, hx108_2, hx108_3, hx108_4, hx108_5, hx108_6⟩ := at_T68 HR0.out x17_2 p108 q108
          cases e108
          replace hx108_0 := (HB.out.cell (World.block_lt_of_cell? w _ hx108_0)).trans hx108_0
          replace hx108_1 := (HB.out.cell (World.block_lt_of_cell? w _ hx108_1)).trans hx108_1
          replace hx108_2 := (HB.out.cell (World.block_lt_of_cell? w _ hx108_2)).trans hx108_2
          replace hx108_3 := (HB.out.cell (World.block_lt_of_cell? w _ hx108_3)).trans hx108_3
          replace hx108_4 := (HB.out.cell (World.block_lt_of_cell? w _ hx108_4)).trans hx108_4
          replace hx108_5 := (HB.out.cell (World.block_lt_of_cell? w _ hx108_5)).trans hx108_5
          replace hx108_6 := (HB.out.cell (World.block_lt_of_cell? w _ hx108_6)).trans hx108_6
          replace p108 := eq_true p108
          replace q108 := eq_true q108
          go_wp2_with (first | ((with_reducible refine gate_dst (N := 8) rfl ?_); refine bxe (cs := #[.int .i64 0, .int .i64 0, .int .i64 0, .string (⟨#[]⟩ : ByteArray), .int .i64 0, .int .i64 0, .int .i64 0]) (t := 68) ?_; intro gb109 hg w23 hbox hb; have BK109 := Aside0.mk (hbox); have GW109 := Aside0.mk (bge hg HB.out); have GE109 := Aside0.mk (bge hg HB.out); replace HO_6 := Aside0.mk (Kd.R_below (kdt HO_6.out) hb); replace HB := Aside0.mk (bst HB.out hb); clear hb hbox hg; have hcz24_0 := cz7 BK109.out; have hfz24_0 := blk_frozen BK109.out))
          go_roundg k2
          case measure => have := HJ2.out; have := HK2.out; omega
          case rel => exact ⟨(x6_2), (wrap64 (x17_2 + 1)), (by first | rfl | (simp; done) | (simp [*]; done)), H', ⟨by have := HJ2.out; have := HK2.out; omega⟩, ⟨by (with_reducible repeat (first | apply Kd.R_alloc | apply Kd.R_drewN | apply Kd.R_drew)); exact Kd.R_mono (Kd.R_far (p := ⟨gb109, 6, none⟩) (Kd.R_far (p := ⟨gb109, 5, none⟩) (Kd.R_far (p := ⟨gb109, 4, none⟩) (Kd.R_far (p := ⟨gb109, 3, none⟩) (Kd.R_far (p := ⟨gb109, 2, none⟩) (Kd.R_far (p := ⟨gb109, 1, none⟩) (Kd.R_far (p := ⟨gb109, 0, none⟩) (Kd.R_types HO_6.out BK109.out (by decide)) (fun _ hk => hk.2) (.int .i64 ((rd_T68 l0 x17_2).f0))) (fun _ hk => hk.2) (.int .i64 ((rd_T68 l0 x17_2).f1))) (fun _ hk => hk.2) (.int .i64 ((rd_T68 l0 x17_2).f2))) (fun _ hk => hk.2) (.string ((rd_T68 l0 x17_2).f3))) (fun _ hk => hk.2) (.int .i64 ((rd_T68 l0 x17_2).f4))) (fun _ hk => hk.2) (.int .i64 ((rd_T68 l0 x17_2).f5))) (fun _ hk => hk.2) (.int .i64 ((rd_T68 l0 x17_2).f6))) (fun _ hk => trivial)⟩, ⟨bel HB.out⟩⟩
        ·rw [if_neg c8] at H
         exact absurd H (by simp)
       ·rw [if_neg c7] at H
        exact absurd H (by simp)
      ·rw [if_neg c6] at H
       have c6b0 : decide (x17_2 < (l0.length : Int)) = false := decide_eq_false c6
       clear c6
       simp only [Option.some.injEq, Prod.mk.injEq] at H
       obtain ⟨rfl, rfl⟩ := H
       go_wp2
       go_ret2
       exact ⟨_, by first | rfl | (simp [errW_none, errW_some] <;> rfl) | (simp [*, errW_none, errW_some] <;> rfl), by (with_reducible repeat (first | apply Kd.R_alloc | apply Kd.R_drewN | apply Kd.R_drew)); exact HO_6.out, bel HB.out⟩

/-! ### sensor_Works: function 23 -/
def sensor_Works.f (k : Nat) (l0 : List (S68)) (a1 : Int) : Option (Bool × Int) := (sensor_Faults.f k l0 a1).bind fun bt115 => (if bt115.2 = 0 then ((slices_Contains_int_int.f k bt115.1 5).bind fun t119 => (some (!t119, bt115.2))) else (some (false, bt115.2)))
theorem sensor_Works.mono : ∀ a0 a1 k, LeO (sensor_Works.f k a0 a1) (sensor_Works.f (k + 1) a0 a1) := by
 intro a0 a1 k
 unfold sensor_Works.f
 repeat' first
   | (with_reducible exact sensor_Faults.mono _ _ _)
   | (with_reducible exact slices_Contains_int_int.mono _ _ _)
   | (with_reducible exact LeO.refl _)
   | (with_reducible exact LeO.none _)
   | (with_reducible refine LeO.ite ?_ ?_)
   | (with_reducible refine LeO.bind ?_ (fun _ => ?_))
   | exact sensor_Faults.mono _ _ _
   | exact slices_Contains_int_int.mono _ _ _
   | exact LeO.none _
   | refine LeO.ite ?_ ?_
   | refine LeO.bind ?_ (fun _ => ?_)
set_option maxHeartbeats 8000000 in
set_option maxRecDepth 100000 in
theorem sensor_Works.calls (k : Nat) (A0 : Option Addr) (c0 : Nat) (l0 : List (S68)) (a1 : Int) (r1 : Bool) (r2 : Int) (w : World) (hr0 : Kd.C k68 w A0 l0.length l0) (hc0 : l0.length ≤ c0) (h : sensor_Works.f k l0 a1 = some (r1, r2)) :
  Calls Try.prog 23 #[.slice A0 l0.length c0, .int .i64 a1] w fun e w' => e = .returned (.tuple #[.bool r1, .int .i64 r2]) ∧ Below w.heap.size w w' := by
 have HR0 := Aside0.mk hr0
 have HC0 := Aside0.mk hc0
 clear hr0 hc0
 have HB := Aside0.mk (Below.refl w.heap.size w)
 have H : ((sensor_Faults.f k l0 a1).bind fun bt115 => (if bt115.2 = 0 then ((slices_Contains_int_int.f k bt115.1 5).bind fun t119 => (some (!t119, bt115.2))) else (some (false, bt115.2)))) = some (r1, r2) := h
 clear h
 replace H := Option.bind_eq_some_iff.mp H
 obtain ⟨⟨t115, t116⟩, A30, H⟩ := H
 replace H : (if t116 = 0 then ((slices_Contains_int_int.f k t115 5).bind fun t119 => (some (!t119, t116))) else (some (false, t116))) = some (r1, r2) := H
 have A3 := Aside0.mk A30
 clear A30
 by_cases c4 : t116 = 0
 ·rw [if_pos c4] at H
  have c4b0 : (t116 == 0) = true := beq_iff_eq.mpr c4
  have c4b1 : (t116 != 0) = false := bne_eq_false_iff_eq.mpr c4
  clear c4
  replace H := Option.bind_eq_some_iff.mp H
  obtain ⟨t119, A50, H⟩ := H
  replace H : (some (!t119, t116)) = some (r1, r2) := H
  have A5 := Aside0.mk A50
  clear A50
  simp only [Option.some.injEq, Prod.mk.injEq] at H
  obtain ⟨rfl, rfl⟩ := H
  go_enter Try.func23, Try.ntmps23
  go_wp2_with (first | ((with_reducible refine gate_callee (f := 21) rfl ?_); refine gsl (some 11) Try.func21 #[.slice A0 l0.length c0, .int .i64 a1] ?_; (with_reducible refine (sensor_Faults.calls k _ _ l0 a1 t115 t116 _ ?side1 ?side2 A3.out).mono ?_); (case side1 => repeat (first | exact HR0.out | (with_reducible refine Kd.C_alloc ?_ _) | (with_reducible refine Kd.C_drewN ?_ _) | (with_reducible refine Kd.C_drew ?_))); (case side2 => exact HC0.out); rintro e w6 ⟨v117, rfl, ho0, hb⟩; refine ⟨_, rfl, ?_⟩; have HO118 := Aside0.mk (Kd.R_lower ho0 (bsz HB.out)); replace HB := Aside0.mk (bst HB.out hb); (try clear hb); (try clear hb2); (try clear hk); (try clear hi); (try clear ho0); obtain ⟨Ao7, co7, eo7⟩ := Kd.R_slice HO118.out; subst eo7) | (go_at_call 47; (with_reducible refine (slices_Contains_int_int.calls k _ _ t115 5 t119 _ ?side1 ?side2 A5.out).mono ?_); (case side1 => repeat (first | exact (Kd.R_reads' HO118.out).2.2 | (with_reducible refine Kd.C_alloc ?_ _) | (with_reducible refine Kd.C_drewN ?_ _) | (with_reducible refine Kd.C_drew ?_))); (case side2 => exact (Kd.R_reads' HO118.out).2.1); rintro e w' ⟨rfl, ⟨nd, rfl⟩⟩))
  go_ret2
  exact bfin (bel HB.out)
 ·rw [if_neg c4] at H
  have c4b0 : (t116 == 0) = false := beq_eq_false_iff_ne.mpr c4
  have c4b1 : (t116 != 0) = true := bne_iff_ne.mpr c4
  simp only [Option.some.injEq, Prod.mk.injEq] at H
  obtain ⟨rfl, rfl⟩ := H
  go_enter Try.func23, Try.ntmps23
  go_wp2_with (first | ((with_reducible refine gate_callee (f := 21) rfl ?_); refine gsl (some 11) Try.func21 #[.slice A0 l0.length c0, .int .i64 a1] ?_; (with_reducible refine (sensor_Faults.calls k _ _ l0 a1 t115 t116 _ ?side1 ?side2 A3.out).mono ?_); (case side1 => repeat (first | exact HR0.out | (with_reducible refine Kd.C_alloc ?_ _) | (with_reducible refine Kd.C_drewN ?_ _) | (with_reducible refine Kd.C_drew ?_))); (case side2 => exact HC0.out); rintro e w8 ⟨v117, rfl, ho0, hb⟩; refine ⟨_, rfl, ?_⟩; have HO118 := Aside0.mk (Kd.R_lower ho0 (bsz HB.out)); replace HB := Aside0.mk (bst HB.out hb); (try clear hb); (try clear hb2); (try clear hk); (try clear hi); (try clear ho0)))
  go_ret2
  exact bfin (bel HB.out)

/-! ### sensor_checked: function 43 -/
def sensor_checked.l0 : Nat → List (S23) → Int → Int → Option (Int)
 | 0, _, _, _ => none
 | k + 1, x6, x7, x8 => if x8 < x7 then (if 0 ≤ x8 then (if x8 < (x6.length : Int) then ((sensor_Check.f k ((rd_T23 x6 x8).f0) ((rd_T23 x6 x8).f1) ((rd_T23 x6 x8).f2)).bind fun t177 => (if t177 = 0 then (sensor_checked.l0 k x6 x7 (wrap64 (x8 + 1))) else (some t177))) else (none)) else (none)) else (some 0)
def sensor_checked.f (k : Nat) (l0 : List (S23)) : Option (Int) := sensor_checked.l0 k l0 (l0.length : Int) 0
theorem sensor_checked.mono_l : ∀ k, (∀ y0 y1 y2, LeO (sensor_checked.l0 k y0 y1 y2) (sensor_checked.l0 (k + 1) y0 y1 y2))
 | 0 => fun _ _ _ r h => by simp [sensor_checked.l0] at h
 | k + 1 => by
  have ih0 := sensor_checked.mono_l k
  ·intro y0 y1 y2
   unfold sensor_checked.l0
   repeat' first
   | (with_reducible exact ih0 _ _ _)
   | (with_reducible exact sensor_Check.mono _ _ _ _)
   | (with_reducible exact LeO.refl _)
   | (with_reducible exact LeO.none _)
   | (with_reducible refine LeO.ite ?_ ?_)
   | (with_reducible refine LeO.bind ?_ (fun _ => ?_))
   | exact ih0 _ _ _
   | exact sensor_Check.mono _ _ _ _
   | exact LeO.none _
   | refine LeO.ite ?_ ?_
   | refine LeO.bind ?_ (fun _ => ?_)
theorem sensor_checked.mono : ∀ a0 k, LeO (sensor_checked.f k a0) (sensor_checked.f (k + 1) a0) := by
 intro a0 k
 have ih0 := sensor_checked.mono_l k
 unfold sensor_checked.f
 repeat' first
   | (with_reducible exact ih0 _ _ _)
   | (with_reducible exact sensor_Check.mono _ _ _ _)
   | (with_reducible exact LeO.refl _)
   | (with_reducible exact LeO.none _)
   | (with_reducible refine LeO.ite ?_ ?_)
   | (with_reducible refine LeO.bind ?_ (fun _ => ?_))
   | exact ih0 _ _ _
   | exact sensor_Check.mono _ _ _ _
   | exact LeO.none _
   | refine LeO.ite ?_ ?_
   | refine LeO.bind ?_ (fun _ => ?_)
set_option maxHeartbeats 8000000 in
set_option maxRecDepth 100000 in
theorem sensor_checked.calls (k : Nat) (A0 : Option Addr) (c0 : Nat) (l0 : List (S23)) (r : Int) (w : World) (hr0 : Kd.C k23 w A0 l0.length l0) (hc0 : l0.length ≤ c0) (h : sensor_checked.f k l0 = some r) :
  Calls Try.prog 43 #[.slice A0 l0.length c0] w fun e w' => e = .returned (.int .i64 r) ∧ Below w.heap.size w w' := by
 have hu23 := Try.underlying23
 have HR0 := Aside0.mk hr0
 have HC0 := Aside0.mk hc0
 clear hr0 hc0
 have HB := Aside0.mk (Below.refl w.heap.size w)
 have H : (sensor_checked.l0 k l0 (l0.length : Int) 0) = some r := h
 clear h
 have H' := Aside0.mk H
 clear H
 go_enter Try.func43, Try.ntmps43
 go_wp2
 go_loopg [8] k (fun kq v8 w' => ∃ (x8_1 : Int), v8 = .int .i64 x8_1 ∧ Aside0 (sensor_checked.l0 kq l0 (l0.length : Int) x8_1 = some r) ∧ Aside0 (kq ≤ k) ∧ Aside0 (Below w.heap.size w w'))
 case atStart => exact ⟨(0), (by first | rfl | (simp; done) | (simp [*]; done)), H', ⟨Nat.le_refl _⟩, ⟨bel HB.out⟩⟩
 case round =>
  clear H'
  obtain ⟨x8_1, rfl, HA, HK1, HB⟩ := hrel
  cases gk with
  | zero => exact absurd HA.out (by simp [sensor_checked.l0])
  | succ k1 =>
   have H := HA.out
   clear HA
   simp only [sensor_checked.l0] at H
   by_cases c2 : x8_1 < (l0.length : Int)
   ·rw [if_pos c2] at H
    have c2b0 : decide (x8_1 < (l0.length : Int)) = true := decide_eq_true c2
    clear c2
    by_cases c3 : 0 ≤ x8_1
    ·rw [if_pos c3] at H
     have c3b0 : decide (0 ≤ x8_1) = true := decide_eq_true c3
     clear c3
     by_cases c4 : x8_1 < (l0.length : Int)
     ·rw [if_pos c4] at H
      have c4b0 : decide (x8_1 < (l0.length : Int)) = true := decide_eq_true c4
      clear c4
      replace H := Option.bind_eq_some_iff.mp H
      obtain ⟨t177, A50, H⟩ := H
      replace H : (if t177 = 0 then (sensor_checked.l0 k1 l0 (l0.length : Int) (wrap64 (x8_1 + 1))) else (some t177)) = some r := H
      have A5 := Aside0.mk A50
      clear A50
      by_cases c6 : t177 = 0
      ·rw [if_pos c6] at H
       have c6b0 : (t177 == 0) = true := beq_iff_eq.mpr c6
       have c6b1 : (t177 != 0) = false := bne_eq_false_iff_eq.mpr c6
       clear c6
       have H' := Aside0.mk H
       clear H
       have p175 : 0 ≤ (x8_1 : Int) := of_decide_eq_true (by first | (with_reducible assumption) | assumption)
       have q175 : x8_1 < (l0.length : Int) := of_decide_eq_true (by first | (with_reducible assumption) | assumption)
       obtain ⟨ad175, e175, hx175_0, hx175_1, hx175_2⟩ := at_T23 HR0.out x8_1 p175 q175
       cases e175
       replace hx175_0 := (HB.out.cell (World.block_lt_of_cell? w _ hx175_0)).trans hx175_0
       replace hx175_1 := (HB.out.cell (World.block_lt_of_cell? w _ hx175_1)).trans hx175_1
       replace hx175_2 := (HB.out.cell (World.block_lt_of_cell? w _ hx175_2)).trans hx175_2
       replace p175 := eq_true p175
       replace q175 := eq_true q175
       go_wp2_with (first | ((with_reducible refine gate_dst (N := 4) rfl ?_); refine bxe (cs := #[.bool false, .int .i64 0, .int .i64 0]) (t := 23) ?_; intro gb176 hg w7 hbox hb; have BK176 := Aside0.mk (hbox); have GW176 := Aside0.mk (bge hg HB.out); have GE176 := Aside0.mk (bge hg HB.out); replace HB := Aside0.mk (bst HB.out hb); clear hb hbox hg; have hcz8_0 := cz3 BK176.out; have hfz8_0 := blk_frozen BK176.out) | ((with_reducible refine gate_callee (f := 14) rfl ?_); refine gsl (some 13) Try.func14 #[.agg #[.bool ((rd_T23 l0 x8_1).f0), .int .i64 ((rd_T23 l0 x8_1).f1), .int .i64 ((rd_T23 l0 x8_1).f2)]] ?_; (with_reducible refine (sensor_Check.calls k1 ((rd_T23 l0 x8_1).f0) ((rd_T23 l0 x8_1).f1) ((rd_T23 l0 x8_1).f2) t177 _ A5.out).mono ?_); rintro e w9 ⟨rfl, hb⟩; refine ⟨_, rfl, ?_⟩; replace BK176 := Aside0.mk (blk_below (g := gb176) (o := .cells #[.bool ((rd_T23 l0 x8_1).f0), .int .i64 ((rd_T23 l0 x8_1).f1), .int .i64 ((rd_T23 l0 x8_1).f2)] 23 (0, 0)) (bkt BK176.out) hb); replace HB := Aside0.mk (bst HB.out hb); (try clear hb); (try clear hb2); (try clear hk); (try clear hi)))
       go_roundg k1
       case measure => have := HK1.out; omega
       case rel => exact ⟨(wrap64 (x8_1 + 1)), (by first | rfl | (simp; done) | (simp [*]; done)), H', ⟨by have := HK1.out; omega⟩, ⟨bel HB.out⟩⟩
      ·rw [if_neg c6] at H
       have c6b0 : (t177 == 0) = false := beq_eq_false_iff_ne.mpr c6
       have c6b1 : (t177 != 0) = true := bne_iff_ne.mpr c6
       obtain rfl := Option.some.inj H
       have p175 : 0 ≤ (x8_1 : Int) := of_decide_eq_true (by first | (with_reducible assumption) | assumption)
       have q175 : x8_1 < (l0.length : Int) := of_decide_eq_true (by first | (with_reducible assumption) | assumption)
       obtain ⟨ad175, e175, hx175_0, hx175_1, hx175_2⟩ := at_T23 HR0.out x8_1 p175 q175
       cases e175
       replace hx175_0 := (HB.out.cell (World.block_lt_of_cell? w _ hx175_0)).trans hx175_0
       replace hx175_1 := (HB.out.cell (World.block_lt_of_cell? w _ hx175_1)).trans hx175_1
       replace hx175_2 := (HB.out.cell (World.block_lt_of_cell? w _ hx175_2)).trans hx175_2
       replace p175 := eq_true p175
       replace q175 := eq_true q175
       go_wp2_with (first | ((with_reducible refine gate_dst (N := 4) rfl ?_); refine bxe (cs := #[.bool false, .int .i64 0, .int .i64 0]) (t := 23) ?_; intro gb176 hg w10 hbox hb; have BK176 := Aside0.mk (hbox); have GW176 := Aside0.mk (bge hg HB.out); have GE176 := Aside0.mk (bge hg HB.out); replace HB := Aside0.mk (bst HB.out hb); clear hb hbox hg; have hcz11_0 := cz3 BK176.out; have hfz11_0 := blk_frozen BK176.out) | ((with_reducible refine gate_callee (f := 14) rfl ?_); refine gsl (some 13) Try.func14 #[.agg #[.bool ((rd_T23 l0 x8_1).f0), .int .i64 ((rd_T23 l0 x8_1).f1), .int .i64 ((rd_T23 l0 x8_1).f2)]] ?_; (with_reducible refine (sensor_Check.calls k1 ((rd_T23 l0 x8_1).f0) ((rd_T23 l0 x8_1).f1) ((rd_T23 l0 x8_1).f2) t177 _ A5.out).mono ?_); rintro e w12 ⟨rfl, hb⟩; refine ⟨_, rfl, ?_⟩; replace BK176 := Aside0.mk (blk_below (g := gb176) (o := .cells #[.bool ((rd_T23 l0 x8_1).f0), .int .i64 ((rd_T23 l0 x8_1).f1), .int .i64 ((rd_T23 l0 x8_1).f2)] 23 (0, 0)) (bkt BK176.out) hb); replace HB := Aside0.mk (bst HB.out hb); (try clear hb); (try clear hb2); (try clear hk); (try clear hi)))
       go_ret
       exact bfin (bel HB.out)
     ·rw [if_neg c4] at H
      exact absurd H (by simp)
    ·rw [if_neg c3] at H
     exact absurd H (by simp)
   ·rw [if_neg c2] at H
    have c2b0 : decide (x8_1 < (l0.length : Int)) = false := decide_eq_false c2
    clear c2
    obtain rfl := Option.some.inj H
    go_wp2
    go_ret
    exact bfin (bel HB.out)

-- NOT PRINTED: function 44 (api_Reading)

end Go.Proofs.Ytlkphdcfgaolnaa.P
