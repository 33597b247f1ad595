-- Printed by wip/myprint.py of this repo (over the kit's printer). Not trusted: Lean checks it.
import Derived.Test.YtckaofgkepcibaaP0
namespace Go.Proofs.Ytckaofgkepcibaa.P
open Go.RowKit Go.Proofs.YtckaofgkepcibaaW.PrintWords Go.Proofs.YtckaofgkepcibaaW.PrintLast Go.Proofs.YtckaofgkepcibaaW.PrintMore
attribute [local go_sem] cell_same1 cell_some1
attribute [local go_sem] max2_int min2_int max_two min_two max_three min_three max_four min_four   -- for this text's walks alone
set_option linter.unusedVariables false
set_option linter.unusedSimpArgs false

/-! ### drive_at: function 46 -/
def drive_at.f (a0 : Int) : Option (Bool) := if a0 ≥ 0 then (some (decide (a0 ≤ 63000))) else (some false)
set_option maxHeartbeats 8000000 in
set_option maxRecDepth 100000 in
theorem drive_at.calls (a0 : Int) (r : Bool) (w : World) (h : drive_at.f a0 = some r) :
  Calls Try.prog 46 #[.int .i64 a0] w fun e w' => e = .returned (.bool r) ∧ Drawn0 w w' := by
 have H : (if a0 ≥ 0 then (some (decide (a0 ≤ 63000))) else (some false)) = some r := h
 clear h
 by_cases c2 : a0 ≥ 0
 ·rw [if_pos c2] at H
  have c2b0 : decide (0 ≤ a0) = true := decide_eq_true c2
  clear c2
  obtain rfl := Option.some.inj H
  go_enter Try.func46, Try.ntmps46
  go_wp2
  go_ret
  exact ⟨by first | rfl | (simp; done) | (simp [*]; done), by repeat (first | exact Drawn0.refl _ | apply Drawn0.step)⟩
 ·rw [if_neg c2] at H
  have c2b0 : decide (0 ≤ a0) = false := decide_eq_false c2
  clear c2
  obtain rfl := Option.some.inj H
  go_enter Try.func46, Try.ntmps46
  go_wp2
  go_ret
  exact ⟨by first | rfl | (simp; done) | (simp [*]; done), by repeat (first | exact Drawn0.refl _ | apply Drawn0.step)⟩

/-! ### drive_left: function 64 -/
def drive_left.f (a0_0 : Int) (a0_1 : Int) (a0_2 : Int) (a0_3 : Int) (a0_4 : Int) : Option (Int) := some (mx (wrap64 (a0_1 - a0_0)) (wrap64 (a0_0 - a0_1)))
set_option maxHeartbeats 8000000 in
set_option maxRecDepth 100000 in
theorem drive_left.calls (a0_0 : Int) (a0_1 : Int) (a0_2 : Int) (a0_3 : Int) (a0_4 : Int) (r : Int) (w : World) (h : drive_left.f a0_0 a0_1 a0_2 a0_3 a0_4 = some r) :
  Calls Try.prog 64 #[.agg #[.int .i64 a0_0, .int .i64 a0_1, .int .i64 a0_2, .int .i64 a0_3, .int .i64 a0_4]] w fun e w' => e = .returned (.int .i64 r) ∧ Below w.heap.size w w' := by
 have hu33 := Try.underlying33
 have HB := Aside0.mk (Below.refl w.heap.size w)
 have H : (some (mx (wrap64 (a0_1 - a0_0)) (wrap64 (a0_0 - a0_1)))) = some r := h
 clear h
 obtain ⟨ji2, hji2⟩ : ∃ j_ : Int, (mx (wrap64 (a0_1 - a0_0)) (wrap64 (a0_0 - a0_1))) = j_ := ⟨_, rfl⟩
 replace H : (some ji2) = some r := by first | (rw [hji2] at H; exact H) | (simp only [hji2] at H ⊢; exact H)
 have hji2_ : (if (wrap64 (a0_1 - a0_0)) < (wrap64 (a0_0 - a0_1)) then (wrap64 (a0_0 - a0_1)) else (wrap64 (a0_1 - a0_0))) = ji2 := hji2
 obtain rfl := Option.some.inj H
 go_enter Try.func64, Try.ntmps64
 go_wp2_with (first | ((with_reducible refine gate_dst (N := 1) rfl ?_); refine bxe (cs := #[.int .i64 a0_0, .int .i64 a0_1, .int .i64 a0_2, .int .i64 a0_3, .int .i64 a0_4]) (t := 33) ?_; intro gb114 hg w3 hbox hb; have BK114 := Aside0.mk (hbox); have GW114 := Aside0.mk (bge hg HB.out); have GE114 := Aside0.mk (bge hg HB.out); replace HB := Aside0.mk (bst HB.out hb); clear hb hbox hg; have hcz4_0 := cz5 BK114.out; have hfz4_0 := blk_frozen BK114.out))
 go_ret
 exact ⟨by first | rfl | (simp [errW_none, errW_some] <;> rfl) | (simp only [← hji2]; first | rfl | (simp [errW_none, errW_some] <;> rfl)) | (simp [*, errW_none, errW_some] <;> rfl), bel HB.out⟩

/-! ### drive_formed: function 55 -/
mutual
def drive_formed.j0 : Nat → Bool → Int → Int → Int → Int → Int → Option (Bool)
 | 0, _, _, _, _, _, _ => none
 | k + 1, x3, x116000, x116001, x116002, x116003, x116004 => if (x3 != (decide (x116004 > 0))) = true then (some false) else (if x116003 = 0 then (drive_formed.j1 k true x116000 x116001 x116002 x116003 x116004) else (drive_formed.j1 k (x116003 == 3) x116000 x116001 x116002 x116003 x116004))
def drive_formed.j1 : Nat → Bool → Int → Int → Int → Int → Int → Option (Bool)
 | 0, _, _, _, _, _, _ => none
 | k + 1, x4, x116000, x116001, x116002, x116003, x116004 => (drive_left.f x116000 x116001 x116002 x116003 x116004).bind fun t116 => (if (x4 != (t116 == 0)) = true then (some false) else (if x116003 = 2 then ((drive_left.f x116000 x116001 x116002 x116003 x116004).bind fun t117 => (some (decide ((wrap64 (Int.tdiv (wrap64 (x116002 * (wrap64 (x116002 - 1)))) 2)) ≤ t117)))) else (if x116002 = 0 then ((drive_left.f x116000 x116001 x116002 x116003 x116004).bind fun t118 => (some (decide ((wrap64 (Int.tdiv (wrap64 (x116002 * (wrap64 (x116002 - 1)))) 2)) ≤ t118)))) else (some false))))
end
def drive_formed.f (k : Nat) (a0_0 : Int) (a0_1 : Int) (a0_2 : Int) (a0_3 : Int) (a0_4 : Int) : Option (Bool) := if a0_3 = 1 then (drive_formed.j0 k true a0_0 a0_1 a0_2 a0_3 a0_4) else (drive_formed.j0 k (a0_3 == 3) a0_0 a0_1 a0_2 a0_3 a0_4)
theorem drive_formed.mono_l : ∀ k, (∀ y0 y1 y2 y3 y4 y5, LeO (drive_formed.j0 k y0 y1 y2 y3 y4 y5) (drive_formed.j0 (k + 1) y0 y1 y2 y3 y4 y5)) ∧ (∀ y0 y1 y2 y3 y4 y5, LeO (drive_formed.j1 k y0 y1 y2 y3 y4 y5) (drive_formed.j1 (k + 1) y0 y1 y2 y3 y4 y5))
 | 0 => ⟨fun _ _ _ _ _ _ r h => by simp [drive_formed.j0] at h, fun _ _ _ _ _ _ r h => by simp [drive_formed.j1] at h⟩
 | k + 1 => by
  obtain ⟨ih0, ih1⟩ := drive_formed.mono_l k
  refine ⟨?_, ?_⟩
  ·intro y0 y1 y2 y3 y4 y5
   unfold drive_formed.j0
   repeat' first
   | (with_reducible exact ih0 _ _ _ _ _ _)
   | (with_reducible exact ih1 _ _ _ _ _ _)
   | (with_reducible exact LeO.refl _)
   | (with_reducible exact LeO.none _)
   | (with_reducible refine LeO.ite ?_ ?_)
   | (with_reducible refine LeO.bind ?_ (fun _ => ?_))
   | exact ih0 _ _ _ _ _ _
   | exact ih1 _ _ _ _ _ _
   | exact LeO.none _
   | refine LeO.ite ?_ ?_
   | refine LeO.bind ?_ (fun _ => ?_)
  ·intro y0 y1 y2 y3 y4 y5
   unfold drive_formed.j1
   repeat' first
   | (with_reducible exact ih0 _ _ _ _ _ _)
   | (with_reducible exact ih1 _ _ _ _ _ _)
   | (with_reducible exact LeO.refl _)
   | (with_reducible exact LeO.none _)
   | (with_reducible refine LeO.ite ?_ ?_)
   | (with_reducible refine LeO.bind ?_ (fun _ => ?_))
   | exact ih0 _ _ _ _ _ _
   | exact ih1 _ _ _ _ _ _
   | exact LeO.none _
   | refine LeO.ite ?_ ?_
   | refine LeO.bind ?_ (fun _ => ?_)
theorem drive_formed.mono : ∀ a0 a1 a2 a3 a4 k, LeO (drive_formed.f k a0 a1 a2 a3 a4) (drive_formed.f (k + 1) a0 a1 a2 a3 a4) := by
 intro a0 a1 a2 a3 a4 k
 obtain ⟨ih0, ih1⟩ := drive_formed.mono_l k
 unfold drive_formed.f
 repeat' first
   | (with_reducible exact ih0 _ _ _ _ _ _)
   | (with_reducible exact ih1 _ _ _ _ _ _)
   | (with_reducible exact LeO.refl _)
   | (with_reducible exact LeO.none _)
   | (with_reducible refine LeO.ite ?_ ?_)
   | (with_reducible refine LeO.bind ?_ (fun _ => ?_))
   | exact ih0 _ _ _ _ _ _
   | exact ih1 _ _ _ _ _ _
   | exact LeO.none _
   | refine LeO.ite ?_ ?_
   | refine LeO.bind ?_ (fun _ => ?_)
def drive_formed.T7 : Bool × List (List Nat × List Nat) := (true, [([], []), ([0], [0]), ([], []), ([2], [2]), ([3], [3]), ([1, 4], [1, 4]), ([5], [5]), ([], []), ([7], [7]), ([6, 8], [6, 8]), ([9, 8, 0, 1, 2, 3, 4, 5, 6, 7, 8, 9], [9])])
def drive_formed.B7 : List Nat := [0, 1, 0, 4, 12, 31, 63, 0, 128, 511, 1023]
theorem drive_formed.tab7 : rtab .any (opsOf Try.f55 7) = drive_formed.T7 := by kernel_rfl
theorem drive_formed.bits7 : waitsOk drive_formed.T7.2 drive_formed.B7 = true := by kernel_rfl
set_option maxHeartbeats 8000000 in
set_option maxRecDepth 100000 in
theorem drive_formed.calls (k : Nat) (a0_0 : Int) (a0_1 : Int) (a0_2 : Int) (a0_3 : Int) (a0_4 : Int) (r : Bool) (w : World) (h : drive_formed.f k a0_0 a0_1 a0_2 a0_3 a0_4 = some r) :
  Calls Try.prog 55 #[.agg #[.int .i64 a0_0, .int .i64 a0_1, .int .i64 a0_2, .int .i64 a0_3, .int .i64 a0_4]] w fun e w' => e = .returned (.bool r) ∧ Below w.heap.size w w' := by
 have hu33 := Try.underlying33
 have HB := Aside0.mk (Below.refl w.heap.size w)
 have H : (if a0_3 = 1 then (drive_formed.j0 k true a0_0 a0_1 a0_2 a0_3 a0_4) else (drive_formed.j0 k (a0_3 == 3) a0_0 a0_1 a0_2 a0_3 a0_4)) = some r := h
 clear h
 have HC2 := Aside0.mk H
 clear H
 go_enter Try.func55, Try.ntmps55
 go_upto_region 1 with (first | ((with_reducible refine gate_dst (N := 1) rfl ?_); refine bxe (cs := #[.int .i64 a0_0, .int .i64 a0_1, .int .i64 a0_2, .int .i64 a0_3, .int .i64 a0_4]) (t := 33) ?_; intro gb115 hg w3 hbox hb; have BK115 := Aside0.mk (hbox); have GW115 := Aside0.mk (bge hg HB.out); have GE115 := Aside0.mk (bge hg HB.out); replace HB := Aside0.mk (bst HB.out hb); clear hb hbox hg))
 (try simp only [Act.put, List.setIfInBounds_toArray, List.set_cons_zero, List.set_cons_succ])
 go_cut [3] (fun v3 wc => ∃ (kq : Nat) (x3_1 : Bool), v3 = .bool x3_1 ∧ Aside0 (drive_formed.j0 kq x3_1 a0_0 a0_1 a0_2 a0_3 a0_4 = some r) ∧ Aside0 (kq ≤ k) ∧ Aside0 (wc.heap[gb115]? = some (.cells #[.int .i64 a0_0, .int .i64 a0_1, .int .i64 a0_2, .int .i64 a0_3, .int .i64 a0_4] 33 (0, 0))) ∧ Aside0 (Below w.heap.size w wc))
 case first =>
  have H := HC2.out
  clear HC2
  by_cases c4 : a0_3 = 1
  ·rw [if_pos c4] at H
   have c4b0 : (a0_3 == 1) = true := beq_iff_eq.mpr c4
   have c4b1 : (a0_3 != 1) = false := bne_eq_false_iff_eq.mpr c4
   clear c4
   (first | rw [c4b0] | (simp only [i64_w, i32_w]; rw [c4b0]) | skip)
   have H' := Aside0.mk H
   clear H
   have hcz5_0 := cz5 BK115.out
   have hfz5_0 := blk_frozen BK115.out
   go_wp2
   go_meet
   case rel => exact ⟨_, (true), (by first | rfl | (simp; done) | (simp [*]; done)), H', ⟨by first | omega | exact Nat.le_refl _⟩, ⟨bkt BK115.out⟩, ⟨bel HB.out⟩⟩
  ·rw [if_neg c4] at H
   have c4b0 : (a0_3 == 1) = false := beq_eq_false_iff_ne.mpr c4
   have c4b1 : (a0_3 != 1) = true := bne_iff_ne.mpr c4
   (first | rw [c4b0] | (simp only [i64_w, i32_w]; rw [c4b0]) | skip)
   have H' := Aside0.mk H
   clear H
   have hcz6_0 := cz5 BK115.out
   have hfz6_0 := blk_frozen BK115.out
   go_wp2
   go_meet
   case rel => exact ⟨_, ((a0_3 == 3)), (by first | rfl | (simp; done) | (simp [*]; done)), H', ⟨by first | omega | exact Nat.le_refl _⟩, ⟨bkt BK115.out⟩, ⟨bel HB.out⟩⟩
 case rest =>
  clear HC2
  try clear p2
  try clear c4
  try clear c4b0
  try clear c4b1
  try clear c5
  try clear hcz5_0
  try clear hcz6_0
  try clear hfz5_0
  try clear hfz6_0
  obtain ⟨kq, x3_1, rfl, HA, HJ1, BK115, HB⟩ := hcut
  cases kq with
  | zero => exact absurd HA.out (by simp [drive_formed.j0])
  | succ kj1 =>
   have H := HA.out
   clear HA
   simp only [drive_formed.j0] at H
   by_cases c7 : (x3_1 != (decide (a0_4 > 0))) = true
   ·rw [if_pos c7] at H
    have c7b0 : (x3_1 != (decide (a0_4 > 0))) = true := c7
    (try (have c7b1 : decide (x3_1 = (decide (a0_4 > 0))) = false := by simpa using c7))
    (try (have c7b2 : (x3_1 == (decide (a0_4 > 0))) = false := by simpa using c7))
    (try (have c7b3 : ¬ (x3_1 = (decide (a0_4 > 0))) := by simpa using c7))
    clear c7
    obtain rfl := Option.some.inj H
    have hcz8_0 := cz5 BK115.out
    have hfz8_0 := blk_frozen BK115.out
    go_wp2
    go_ret
    exact bfin (bel HB.out)
   ·rw [if_neg c7] at H
    have c7b0 : (x3_1 != (decide (a0_4 > 0))) = false := by simpa using c7
    (try (have c7b1 : decide (x3_1 = (decide (a0_4 > 0))) = true := by simpa using c7))
    (try (have c7b2 : (x3_1 == (decide (a0_4 > 0))) = true := by simpa using c7))
    clear c7
    have HC9 := Aside0.mk H
    clear H
    have hcz10_0 := cz5 BK115.out
    have hfz10_0 := blk_frozen BK115.out
    go_upto_region 4 with (fail)
    go_cut [4] (fun v4 wc => ∃ (kq : Nat) (x4_8 : Bool), v4 = .bool x4_8 ∧ Aside0 (drive_formed.j1 kq x4_8 a0_0 a0_1 a0_2 a0_3 a0_4 = some r) ∧ Aside0 (kq ≤ kj1) ∧ Aside0 (wc.heap[gb115]? = some (.cells #[.int .i64 a0_0, .int .i64 a0_1, .int .i64 a0_2, .int .i64 a0_3, .int .i64 a0_4] 33 (0, 0))) ∧ Aside0 (Below w.heap.size w wc))
    case first =>
     have H := HC9.out
     clear HC9
     by_cases c11 : a0_3 = 0
     ·rw [if_pos c11] at H
      have c11b0 : (a0_3 == 0) = true := beq_iff_eq.mpr c11
      have c11b1 : (a0_3 != 0) = false := bne_eq_false_iff_eq.mpr c11
      clear c11
      (first | rw [c11b0] | (simp only [i64_w, i32_w]; rw [c11b0]) | skip)
      have H' := Aside0.mk H
      clear H
      have hcz12_0 := cz5 BK115.out
      have hfz12_0 := blk_frozen BK115.out
      go_wp2
      go_meet
      case rel => exact ⟨_, (true), (by first | rfl | (simp; done) | (simp [*]; done)), H', ⟨by have := HJ1.out; first | omega | exact Nat.le_refl _⟩, ⟨bkt BK115.out⟩, ⟨bel HB.out⟩⟩
     ·rw [if_neg c11] at H
      have c11b0 : (a0_3 == 0) = false := beq_eq_false_iff_ne.mpr c11
      have c11b1 : (a0_3 != 0) = true := bne_iff_ne.mpr c11
      (first | rw [c11b0] | (simp only [i64_w, i32_w]; rw [c11b0]) | skip)
      have H' := Aside0.mk H
      clear H
      have hcz13_0 := cz5 BK115.out
      have hfz13_0 := blk_frozen BK115.out
      go_wp2
      go_meet
      case rel => exact ⟨_, ((a0_3 == 3)), (by first | rfl | (simp; done) | (simp [*]; done)), H', ⟨by have := HJ1.out; first | omega | exact Nat.le_refl _⟩, ⟨bkt BK115.out⟩, ⟨bel HB.out⟩⟩
    case rest =>
     clear HC9
     try clear c1
     try clear p2
     try clear c4
     try clear c4b0
     try clear c4b1
     try clear c5
     try clear c7
     try clear c7b0
     try clear c7b1
     try clear c7b2
     try clear c11
     try clear c11b0
     try clear c11b1
     try clear hcz10_0
     try clear hcz12_0
     try clear hcz13_0
     try clear hcz5_0
     try clear hcz6_0
     try clear hcz8_0
     try clear hfz10_0
     try clear hfz12_0
     try clear hfz13_0
     try clear hfz5_0
     try clear hfz6_0
     try clear hfz8_0
     try clear p2
     obtain ⟨kq, x4_8, rfl, HA, HJ8, BK115, HB⟩ := hcut
     cases kq with
     | zero => exact absurd HA.out (by simp [drive_formed.j1])
     | succ kj8 =>
      have H := HA.out
      clear HA
      simp only [drive_formed.j1] at H
      replace H := Option.bind_eq_some_iff.mp H
      obtain ⟨t116, A140, H⟩ := H
      replace H : (if (x4_8 != (t116 == 0)) = true then (some false) else (if a0_3 = 2 then ((drive_left.f a0_0 a0_1 a0_2 a0_3 a0_4).bind fun t117 => (some (decide ((wrap64 (Int.tdiv (wrap64 (a0_2 * (wrap64 (a0_2 - 1)))) 2)) ≤ t117)))) else (if a0_2 = 0 then ((drive_left.f a0_0 a0_1 a0_2 a0_3 a0_4).bind fun t118 => (some (decide ((wrap64 (Int.tdiv (wrap64 (a0_2 * (wrap64 (a0_2 - 1)))) 2)) ≤ t118)))) else (some false)))) = some r := H
      have A14 := Aside0.mk A140
      clear A140
      by_cases c15 : (x4_8 != (t116 == 0)) = true
      ·rw [if_pos c15] at H
       have c15b0 : (x4_8 != (t116 == 0)) = true := c15
       (try (have c15b1 : decide (x4_8 = (t116 == 0)) = false := by simpa using c15))
       (try (have c15b2 : (x4_8 == (t116 == 0)) = false := by simpa using c15))
       (try (have c15b3 : ¬ (x4_8 = (t116 == 0)) := by simpa using c15))
       clear c15
       obtain rfl := Option.some.inj H
       have hcz16_0 := cz5 BK115.out
       have hfz16_0 := blk_frozen BK115.out
       go_wp2_with (first | ((with_reducible refine gate_callee (f := 64) rfl ?_); refine gsl (some 28) Try.func64 #[.agg #[.int .i64 a0_0, .int .i64 a0_1, .int .i64 a0_2, .int .i64 a0_3, .int .i64 a0_4]] ?_; (with_reducible refine (drive_left.calls a0_0 a0_1 a0_2 a0_3 a0_4 t116 _ A14.out).mono ?_); rintro e w17 ⟨rfl, hb⟩; refine ⟨_, rfl, ?_⟩; replace BK115 := Aside0.mk (bkb BK115.out hb); replace HB := Aside0.mk (bst HB.out hb); (try clear hb); (try clear hb2); (try clear hk); (try clear hi)))
       go_ret
       exact bfin (bel HB.out)
      ·rw [if_neg c15] at H
       have c15b0 : (x4_8 != (t116 == 0)) = false := by simpa using c15
       (try (have c15b1 : decide (x4_8 = (t116 == 0)) = true := by simpa using c15))
       (try (have c15b2 : (x4_8 == (t116 == 0)) = true := by simpa using c15))
       clear c15
       by_cases c18 : a0_3 = 2
       ·rw [if_pos c18] at H
        have c18b0 : (a0_3 == 2) = true := beq_iff_eq.mpr c18
        have c18b1 : (a0_3 != 2) = false := bne_eq_false_iff_eq.mpr c18
        clear c18
        replace H := Option.bind_eq_some_iff.mp H
        obtain ⟨t117, A190, H⟩ := H
        replace H : (some (decide ((wrap64 (Int.tdiv (wrap64 (a0_2 * (wrap64 (a0_2 - 1)))) 2)) ≤ t117))) = some r := H
        have A19 := Aside0.mk A190
        clear A190
        obtain rfl := Option.some.inj H
        have hcz20_0 := cz5 BK115.out
        have hfz20_0 := blk_frozen BK115.out
        try go_wp2_with (first | ((with_reducible refine gate_callee (f := 64) rfl ?_); refine gsl (some 28) Try.func64 #[.agg #[.int .i64 a0_0, .int .i64 a0_1, .int .i64 a0_2, .int .i64 a0_3, .int .i64 a0_4]] ?_; (with_reducible refine (drive_left.calls a0_0 a0_1 a0_2 a0_3 a0_4 t116 _ A14.out).mono ?_); rintro e w21 ⟨rfl, hb⟩; refine ⟨_, rfl, ?_⟩; replace BK115 := Aside0.mk (bkb BK115.out hb); replace HB := Aside0.mk (bst HB.out hb); (try clear hb); (try clear hb2); (try clear hk); (try clear hi); have hcz22_0 := cz5 BK115.out; have hfz22_0 := blk_frozen BK115.out))
        have n0_ := Aside0.mk (blk_drew BK115.out)
        have n1_ := Aside0.mk (below_drew1 HB.out)
        clear BK115
        clear HB
        have BK115 := n0_
        have HB := n1_
        clear n0_ n1_
        refine start_ (n := 11) (S := fun w' => w'.cell? ⟨gb115, 0, none⟩ = some (.int .i64 a0_0) ∧ w'.cell? ⟨gb115, 1, none⟩ = some (.int .i64 a0_1) ∧ w'.cell? ⟨gb115, 2, none⟩ = some (.int .i64 a0_2) ∧ w'.cell? ⟨gb115, 3, none⟩ = some (.int .i64 a0_3) ∧ w'.cell? ⟨gb115, 4, none⟩ = some (.int .i64 a0_4)) (ds := []) #[false, false, false, false, false, false, false, false, false, false, false] (by kernel_rfl) rfl rfl ⟨(blk_cell BK115.out 0).trans rfl, (blk_cell BK115.out 1).trans rfl, (blk_cell BK115.out 2).trans rfl, (blk_cell BK115.out 3).trans rfl, (blk_cell BK115.out 4).trans rfl⟩ (fun hHeld => ?_); refine with_tabW drive_formed.tab7 drive_formed.bits7 (fun HT_ HW_ => ?_)
        generalize w21.drew = w23 at BK115 HB hHeld ⊢
        refine pur 0 (some 41) (bm 11 1) HT_.out ?_
        refine pur 2 (some 43) (bm 11 5) HT_.out ?_
        refine tkp 1 (some 42) (bm 11 7) HT_.out HW_.out hHeld ?_
        refine tkp 3 (some 44) (bm 11 15) HT_.out HW_.out hHeld ?_
        refine pur 4 (some 45) (bm 11 31) HT_.out ?_
        refine pur 5 (some 46) (bm 11 63) HT_.out ?_
        refine pur 6 (some 47) (bm 11 127) HT_.out ?_
        refine tkp 7 (some 48) (bm 11 255) HT_.out HW_.out hHeld ?_
        refine one_ (i := 8) (N := some 49) (bm 11 511) rfl rfl (one_of HT_.out (by kernel_rfl)) (by decide) (fun K hK => ?_)
        refine goes_ Try.func64 (by kernel_rfl) rfl #[.agg #[.int .i64 a0_0, .int .i64 a0_1, .int .i64 a0_2, .int .i64 a0_3, .int .i64 a0_4]] (by rfl) rfl rfl (by (try simp only [List.map_toArray, List.map_cons, List.map_nil]); first | done | rfl | (simp only [List.length_drop, List.length_take]; rfl)) ?_
        with_reducible refine (drive_left.calls a0_0 a0_1 a0_2 a0_3 a0_4 t117 _ A19.out).mono ?_
        rintro e w24 ⟨rfl, hb⟩
        refine ⟨_, rfl, ?_⟩
        have n0_ := Aside0.mk (bkb BK115.out hb)
        have n1_ := Aside0.mk (bst HB.out hb)
        clear BK115
        clear HB
        have BK115 := n0_
        have HB := n1_
        clear n0_ n1_
        (try clear hb)
        (try clear hb2)
        (try clear hk)
        (try clear hi)
        refine hK.out _ _ ⟨(blk_cell BK115.out 0).trans rfl, (blk_cell BK115.out 1).trans rfl, (blk_cell BK115.out 2).trans rfl, (blk_cell BK115.out 3).trans rfl, (blk_cell BK115.out 4).trans rfl⟩ (fun hHeld => ?_)
        clear hK K
        refine norm_ (a' := ?_) ?_ ?_
        rotate_left
        ·show Act.put _ (some 49) _ = _
         simp only [Act.put, List.setIfInBounds_toArray, List.set_cons_zero, List.set_cons_succ, i64_w, i32_w]
         rfl
        refine pur 9 (some 50) (bm 11 1023) HT_.out ?_
        refine pur 10 (some 2) (bm 11 2047) HT_.out ?_
        refine done_ (done_of HT_.out (by kernel_rfl)) ?_
        try go_wp2
        go_ret
        exact bfin (bel HB.out)
       ·rw [if_neg c18] at H
        have c18b0 : (a0_3 == 2) = false := beq_eq_false_iff_ne.mpr c18
        have c18b1 : (a0_3 != 2) = true := bne_iff_ne.mpr c18
        by_cases c25 : a0_2 = 0
        ·rw [if_pos c25] at H
         have c25b0 : (a0_2 == 0) = true := beq_iff_eq.mpr c25
         have c25b1 : (a0_2 != 0) = false := bne_eq_false_iff_eq.mpr c25
         clear c25
         replace H := Option.bind_eq_some_iff.mp H
         obtain ⟨t118, A260, H⟩ := H
         replace H : (some (decide ((wrap64 (Int.tdiv (wrap64 (a0_2 * (wrap64 (a0_2 - 1)))) 2)) ≤ t118))) = some r := H
         have A26 := Aside0.mk A260
         clear A260
         obtain rfl := Option.some.inj H
         have hcz27_0 := cz5 BK115.out
         have hfz27_0 := blk_frozen BK115.out
         try go_wp2_with (first | ((with_reducible refine gate_callee (f := 64) rfl ?_); refine gsl (some 28) Try.func64 #[.agg #[.int .i64 a0_0, .int .i64 a0_1, .int .i64 a0_2, .int .i64 a0_3, .int .i64 a0_4]] ?_; (with_reducible refine (drive_left.calls a0_0 a0_1 a0_2 a0_3 a0_4 t116 _ A14.out).mono ?_); rintro e w28 ⟨rfl, hb⟩; refine ⟨_, rfl, ?_⟩; replace BK115 := Aside0.mk (bkb BK115.out hb); replace HB := Aside0.mk (bst HB.out hb); (try clear hb); (try clear hb2); (try clear hk); (try clear hi); have hcz29_0 := cz5 BK115.out; have hfz29_0 := blk_frozen BK115.out))
         have n0_ := Aside0.mk (blk_drew BK115.out)
         have n1_ := Aside0.mk (below_drew1 HB.out)
         clear BK115
         clear HB
         have BK115 := n0_
         have HB := n1_
         clear n0_ n1_
         refine start_ (n := 11) (S := fun w' => w'.cell? ⟨gb115, 0, none⟩ = some (.int .i64 a0_0) ∧ w'.cell? ⟨gb115, 1, none⟩ = some (.int .i64 a0_1) ∧ w'.cell? ⟨gb115, 2, none⟩ = some (.int .i64 a0_2) ∧ w'.cell? ⟨gb115, 3, none⟩ = some (.int .i64 a0_3) ∧ w'.cell? ⟨gb115, 4, none⟩ = some (.int .i64 a0_4)) (ds := []) #[false, false, false, false, false, false, false, false, false, false, false] (by kernel_rfl) rfl rfl ⟨(blk_cell BK115.out 0).trans rfl, (blk_cell BK115.out 1).trans rfl, (blk_cell BK115.out 2).trans rfl, (blk_cell BK115.out 3).trans rfl, (blk_cell BK115.out 4).trans rfl⟩ (fun hHeld => ?_); refine with_tabW drive_formed.tab7 drive_formed.bits7 (fun HT_ HW_ => ?_)
         generalize w28.drew = w30 at BK115 HB hHeld ⊢
         refine pur 0 (some 41) (bm 11 1) HT_.out ?_
         refine pur 2 (some 43) (bm 11 5) HT_.out ?_
         refine tkp 1 (some 42) (bm 11 7) HT_.out HW_.out hHeld ?_
         refine tkp 3 (some 44) (bm 11 15) HT_.out HW_.out hHeld ?_
         refine pur 4 (some 45) (bm 11 31) HT_.out ?_
         refine pur 5 (some 46) (bm 11 63) HT_.out ?_
         refine pur 6 (some 47) (bm 11 127) HT_.out ?_
         refine tkp 7 (some 48) (bm 11 255) HT_.out HW_.out hHeld ?_
         refine one_ (i := 8) (N := some 49) (bm 11 511) rfl rfl (one_of HT_.out (by kernel_rfl)) (by decide) (fun K hK => ?_)
         refine goes_ Try.func64 (by kernel_rfl) rfl #[.agg #[.int .i64 a0_0, .int .i64 a0_1, .int .i64 a0_2, .int .i64 a0_3, .int .i64 a0_4]] (by rfl) rfl rfl (by (try simp only [List.map_toArray, List.map_cons, List.map_nil]); first | done | rfl | (simp only [List.length_drop, List.length_take]; rfl)) ?_
         with_reducible refine (drive_left.calls a0_0 a0_1 a0_2 a0_3 a0_4 t118 _ A26.out).mono ?_
         rintro e w31 ⟨rfl, hb⟩
         refine ⟨_, rfl, ?_⟩
         have n0_ := Aside0.mk (bkb BK115.out hb)
         have n1_ := Aside0.mk (bst HB.out hb)
         clear BK115
         clear HB
         have BK115 := n0_
         have HB := n1_
         clear n0_ n1_
         (try clear hb)
         (try clear hb2)
         (try clear hk)
         (try clear hi)
         refine hK.out _ _ ⟨(blk_cell BK115.out 0).trans rfl, (blk_cell BK115.out 1).trans rfl, (blk_cell BK115.out 2).trans rfl, (blk_cell BK115.out 3).trans rfl, (blk_cell BK115.out 4).trans rfl⟩ (fun hHeld => ?_)
         clear hK K
         refine norm_ (a' := ?_) ?_ ?_
         rotate_left
         ·show Act.put _ (some 49) _ = _
          simp only [Act.put, List.setIfInBounds_toArray, List.set_cons_zero, List.set_cons_succ, i64_w, i32_w]
          rfl
         refine pur 9 (some 50) (bm 11 1023) HT_.out ?_
         refine pur 10 (some 2) (bm 11 2047) HT_.out ?_
         refine done_ (done_of HT_.out (by kernel_rfl)) ?_
         try go_wp2
         go_ret
         exact bfin (bel HB.out)
        ·rw [if_neg c25] at H
         have c25b0 : (a0_2 == 0) = false := beq_eq_false_iff_ne.mpr c25
         have c25b1 : (a0_2 != 0) = true := bne_iff_ne.mpr c25
         obtain rfl := Option.some.inj H
         have hcz32_0 := cz5 BK115.out
         have hfz32_0 := blk_frozen BK115.out
         go_wp2_with (first | ((with_reducible refine gate_callee (f := 64) rfl ?_); refine gsl (some 28) Try.func64 #[.agg #[.int .i64 a0_0, .int .i64 a0_1, .int .i64 a0_2, .int .i64 a0_3, .int .i64 a0_4]] ?_; (with_reducible refine (drive_left.calls a0_0 a0_1 a0_2 a0_3 a0_4 t116 _ A14.out).mono ?_); rintro e w33 ⟨rfl, hb⟩; refine ⟨_, rfl, ?_⟩; replace BK115 := Aside0.mk (bkb BK115.out hb); replace HB := Aside0.mk (bst HB.out hb); (try clear hb); (try clear hb2); (try clear hk); (try clear hi); have hcz34_0 := cz5 BK115.out; have hfz34_0 := blk_frozen BK115.out))
         go_ret
         exact bfin (bel HB.out)

/-! ### drive_Check: function 45 -/
def drive_Check.j0 : Nat → Bool → Int → Int → Int → Int → Int → Option (Int)
 | 0, _, _, _, _, _, _ => none
 | k + 1, x3, x120000, x120001, x120002, x120003, x120004 => if x3 = true then (some 2) else ((drive_formed.f k x120000 x120001 x120002 x120003 x120004).bind fun t122 => (if t122 = true then (some 0) else (some 3)))
def drive_Check.f (k : Nat) (a0_0 : Int) (a0_1 : Int) (a0_2 : Int) (a0_3 : Int) (a0_4 : Int) : Option (Int) := (drive_at.f a0_0).bind fun t120 => (if t120 = true then ((drive_at.f a0_1).bind fun t121 => (if t121 = true then (if a0_2 < 0 then (drive_Check.j0 k true a0_0 a0_1 a0_2 a0_3 a0_4) else (if a0_2 > 20 then (drive_Check.j0 k true a0_0 a0_1 a0_2 a0_3 a0_4) else (if a0_3 < 0 then (drive_Check.j0 k true a0_0 a0_1 a0_2 a0_3 a0_4) else (if a0_3 > 3 then (drive_Check.j0 k true a0_0 a0_1 a0_2 a0_3 a0_4) else (if a0_4 < 0 then (drive_Check.j0 k true a0_0 a0_1 a0_2 a0_3 a0_4) else (drive_Check.j0 k (decide (a0_4 > 5)) a0_0 a0_1 a0_2 a0_3 a0_4)))))) else (drive_Check.j0 k true a0_0 a0_1 a0_2 a0_3 a0_4))) else (drive_Check.j0 k true a0_0 a0_1 a0_2 a0_3 a0_4))
theorem drive_Check.mono_l : ∀ k, (∀ y0 y1 y2 y3 y4 y5, LeO (drive_Check.j0 k y0 y1 y2 y3 y4 y5) (drive_Check.j0 (k + 1) y0 y1 y2 y3 y4 y5))
 | 0 => fun _ _ _ _ _ _ r h => by simp [drive_Check.j0] at h
 | k + 1 => by
  have ih0 := drive_Check.mono_l k
  ·intro y0 y1 y2 y3 y4 y5
   unfold drive_Check.j0
   repeat' first
   | (with_reducible exact ih0 _ _ _ _ _ _)
   | (with_reducible exact drive_formed.mono _ _ _ _ _ _)
   | (with_reducible exact LeO.refl _)
   | (with_reducible exact LeO.none _)
   | (with_reducible refine LeO.ite ?_ ?_)
   | (with_reducible refine LeO.bind ?_ (fun _ => ?_))
   | exact ih0 _ _ _ _ _ _
   | exact drive_formed.mono _ _ _ _ _ _
   | exact LeO.none _
   | refine LeO.ite ?_ ?_
   | refine LeO.bind ?_ (fun _ => ?_)
theorem drive_Check.mono : ∀ a0 a1 a2 a3 a4 k, LeO (drive_Check.f k a0 a1 a2 a3 a4) (drive_Check.f (k + 1) a0 a1 a2 a3 a4) := by
 intro a0 a1 a2 a3 a4 k
 have ih0 := drive_Check.mono_l k
 unfold drive_Check.f
 repeat' first
   | (with_reducible exact ih0 _ _ _ _ _ _)
   | (with_reducible exact drive_formed.mono _ _ _ _ _ _)
   | (with_reducible exact LeO.refl _)
   | (with_reducible exact LeO.none _)
   | (with_reducible refine LeO.ite ?_ ?_)
   | (with_reducible refine LeO.bind ?_ (fun _ => ?_))
   | exact ih0 _ _ _ _ _ _
   | exact drive_formed.mono _ _ _ _ _ _
   | exact LeO.none _
   | refine LeO.ite ?_ ?_
   | refine LeO.bind ?_ (fun _ => ?_)
set_option maxHeartbeats 8000000 in
set_option maxRecDepth 100000 in
theorem drive_Check.calls (k : Nat) (a0_0 : Int) (a0_1 : Int) (a0_2 : Int) (a0_3 : Int) (a0_4 : Int) (r : Int) (w : World) (h : drive_Check.f k a0_0 a0_1 a0_2 a0_3 a0_4 = some r) :
  Calls Try.prog 45 #[.agg #[.int .i64 a0_0, .int .i64 a0_1, .int .i64 a0_2, .int .i64 a0_3, .int .i64 a0_4]] w fun e w' => e = .returned (.int .i64 r) ∧ Below w.heap.size w w' := by
 have hu33 := Try.underlying33
 have HB := Aside0.mk (Below.refl w.heap.size w)
 have H : ((drive_at.f a0_0).bind fun t120 => (if t120 = true then ((drive_at.f a0_1).bind fun t121 => (if t121 = true then (if a0_2 < 0 then (drive_Check.j0 k true a0_0 a0_1 a0_2 a0_3 a0_4) else (if a0_2 > 20 then (drive_Check.j0 k true a0_0 a0_1 a0_2 a0_3 a0_4) else (if a0_3 < 0 then (drive_Check.j0 k true a0_0 a0_1 a0_2 a0_3 a0_4) else (if a0_3 > 3 then (drive_Check.j0 k true a0_0 a0_1 a0_2 a0_3 a0_4) else (if a0_4 < 0 then (drive_Check.j0 k true a0_0 a0_1 a0_2 a0_3 a0_4) else (drive_Check.j0 k (decide (a0_4 > 5)) a0_0 a0_1 a0_2 a0_3 a0_4)))))) else (drive_Check.j0 k true a0_0 a0_1 a0_2 a0_3 a0_4))) else (drive_Check.j0 k true a0_0 a0_1 a0_2 a0_3 a0_4))) = some r := h
 clear h
 have HC2 := Aside0.mk H
 clear H
 go_enter Try.func45, Try.ntmps45
 go_upto_region 1 with (first | ((with_reducible refine gate_dst (N := 1) rfl ?_); refine bxe (cs := #[.int .i64 a0_0, .int .i64 a0_1, .int .i64 a0_2, .int .i64 a0_3, .int .i64 a0_4]) (t := 33) ?_; intro gb119 hg w3 hbox hb; have BK119 := Aside0.mk (hbox); have GW119 := Aside0.mk (bge hg HB.out); have GE119 := Aside0.mk (bge hg HB.out); replace HB := Aside0.mk (bst HB.out hb); clear hb hbox hg))
 (try simp only [Act.put, List.setIfInBounds_toArray, List.set_cons_zero, List.set_cons_succ])
 go_cut [3] (fun v3 wc => ∃ (kq : Nat) (x3_1 : Bool), v3 = .bool x3_1 ∧ Aside0 (drive_Check.j0 kq x3_1 a0_0 a0_1 a0_2 a0_3 a0_4 = some r) ∧ Aside0 (kq ≤ k) ∧ Aside0 (wc.heap[gb119]? = some (.cells #[.int .i64 a0_0, .int .i64 a0_1, .int .i64 a0_2, .int .i64 a0_3, .int .i64 a0_4] 33 (0, 0))) ∧ Aside0 (Below w.heap.size w wc))
 case first =>
  have H := HC2.out
  clear HC2
  replace H := Option.bind_eq_some_iff.mp H
  obtain ⟨t120, A40, H⟩ := H
  replace H : (if t120 = true then ((drive_at.f a0_1).bind fun t121 => (if t121 = true then (if a0_2 < 0 then (drive_Check.j0 k true a0_0 a0_1 a0_2 a0_3 a0_4) else (if a0_2 > 20 then (drive_Check.j0 k true a0_0 a0_1 a0_2 a0_3 a0_4) else (if a0_3 < 0 then (drive_Check.j0 k true a0_0 a0_1 a0_2 a0_3 a0_4) else (if a0_3 > 3 then (drive_Check.j0 k true a0_0 a0_1 a0_2 a0_3 a0_4) else (if a0_4 < 0 then (drive_Check.j0 k true a0_0 a0_1 a0_2 a0_3 a0_4) else (drive_Check.j0 k (decide (a0_4 > 5)) a0_0 a0_1 a0_2 a0_3 a0_4)))))) else (drive_Check.j0 k true a0_0 a0_1 a0_2 a0_3 a0_4))) else (drive_Check.j0 k true a0_0 a0_1 a0_2 a0_3 a0_4)) = some r := H
  have A4 := Aside0.mk A40
  clear A40
  by_cases c5 : t120 = true
  ·subst c5
   have H1 : ((drive_at.f a0_1).bind fun t121 => (if t121 = true then (if a0_2 < 0 then (drive_Check.j0 k true a0_0 a0_1 a0_2 a0_3 a0_4) else (if a0_2 > 20 then (drive_Check.j0 k true a0_0 a0_1 a0_2 a0_3 a0_4) else (if a0_3 < 0 then (drive_Check.j0 k true a0_0 a0_1 a0_2 a0_3 a0_4) else (if a0_3 > 3 then (drive_Check.j0 k true a0_0 a0_1 a0_2 a0_3 a0_4) else (if a0_4 < 0 then (drive_Check.j0 k true a0_0 a0_1 a0_2 a0_3 a0_4) else (drive_Check.j0 k (decide (a0_4 > 5)) a0_0 a0_1 a0_2 a0_3 a0_4)))))) else (drive_Check.j0 k true a0_0 a0_1 a0_2 a0_3 a0_4))) = some r := by rw [if_pos rfl] at H; exact H
   clear H
   have H := H1
   clear H1
   replace H := Option.bind_eq_some_iff.mp H
   obtain ⟨t121, A60, H⟩ := H
   replace H : (if t121 = true then (if a0_2 < 0 then (drive_Check.j0 k true a0_0 a0_1 a0_2 a0_3 a0_4) else (if a0_2 > 20 then (drive_Check.j0 k true a0_0 a0_1 a0_2 a0_3 a0_4) else (if a0_3 < 0 then (drive_Check.j0 k true a0_0 a0_1 a0_2 a0_3 a0_4) else (if a0_3 > 3 then (drive_Check.j0 k true a0_0 a0_1 a0_2 a0_3 a0_4) else (if a0_4 < 0 then (drive_Check.j0 k true a0_0 a0_1 a0_2 a0_3 a0_4) else (drive_Check.j0 k (decide (a0_4 > 5)) a0_0 a0_1 a0_2 a0_3 a0_4)))))) else (drive_Check.j0 k true a0_0 a0_1 a0_2 a0_3 a0_4)) = some r := H
   have A6 := Aside0.mk A60
   clear A60
   by_cases c7 : t121 = true
   ·subst c7
    have H1 : (if a0_2 < 0 then (drive_Check.j0 k true a0_0 a0_1 a0_2 a0_3 a0_4) else (if a0_2 > 20 then (drive_Check.j0 k true a0_0 a0_1 a0_2 a0_3 a0_4) else (if a0_3 < 0 then (drive_Check.j0 k true a0_0 a0_1 a0_2 a0_3 a0_4) else (if a0_3 > 3 then (drive_Check.j0 k true a0_0 a0_1 a0_2 a0_3 a0_4) else (if a0_4 < 0 then (drive_Check.j0 k true a0_0 a0_1 a0_2 a0_3 a0_4) else (drive_Check.j0 k (decide (a0_4 > 5)) a0_0 a0_1 a0_2 a0_3 a0_4)))))) = some r := by rw [if_pos rfl] at H; exact H
    clear H
    have H := H1
    clear H1
    by_cases c8 : a0_2 < 0
    ·rw [if_pos c8] at H
     have c8b0 : decide (a0_2 < 0) = true := decide_eq_true c8
     clear c8
     (first | rw [c8b0] | (simp only [i64_w, i32_w]; rw [c8b0]) | skip)
     have H' := Aside0.mk H
     clear H
     have hcz9_0 := cz5 BK119.out
     have hfz9_0 := blk_frozen BK119.out
     go_wp2_with (first | ((with_reducible refine gate_callee (f := 46) rfl ?_); refine gsl (some 6) Try.func46 #[.int .i64 a0_0] ?_; (with_reducible refine (drive_at.calls a0_0 true _ A4.out).mono ?_); rintro e w' ⟨rfl, ⟨nd, rfl⟩⟩; refine ⟨_, rfl, ?_⟩) | (go_at_call 46; (with_reducible refine (drive_at.calls a0_1 true _ A6.out).mono ?_); rintro e w' ⟨rfl, ⟨nd, rfl⟩⟩; (try clear A6)))
     go_meet
     case rel => exact ⟨_, (true), (by first | rfl | (simp; done) | (simp [*]; done)), H', ⟨by first | omega | exact Nat.le_refl _⟩, ⟨bkt BK119.out⟩, ⟨bel HB.out⟩⟩
    ·rw [if_neg c8] at H
     have c8b0 : decide (a0_2 < 0) = false := decide_eq_false c8
     clear c8
     (first | rw [c8b0] | (simp only [i64_w, i32_w]; rw [c8b0]) | skip)
     by_cases c10 : a0_2 > 20
     ·rw [if_pos c10] at H
      have c10b0 : decide (20 < a0_2) = true := decide_eq_true c10
      clear c10
      have H' := Aside0.mk H
      clear H
      have hcz11_0 := cz5 BK119.out
      have hfz11_0 := blk_frozen BK119.out
      go_wp2_with (first | ((with_reducible refine gate_callee (f := 46) rfl ?_); refine gsl (some 6) Try.func46 #[.int .i64 a0_0] ?_; (with_reducible refine (drive_at.calls a0_0 true _ A4.out).mono ?_); rintro e w' ⟨rfl, ⟨nd, rfl⟩⟩; refine ⟨_, rfl, ?_⟩) | (go_at_call 46; (with_reducible refine (drive_at.calls a0_1 true _ A6.out).mono ?_); rintro e w' ⟨rfl, ⟨nd, rfl⟩⟩; (try clear A6)))
      go_meet
      case rel => exact ⟨_, (true), (by first | rfl | (simp; done) | (simp [*]; done)), H', ⟨by first | omega | exact Nat.le_refl _⟩, ⟨bkt BK119.out⟩, ⟨bel HB.out⟩⟩
     ·rw [if_neg c10] at H
      have c10b0 : decide (20 < a0_2) = false := decide_eq_false c10
      clear c10
      by_cases c12 : a0_3 < 0
      ·rw [if_pos c12] at H
       have c12b0 : decide (a0_3 < 0) = true := decide_eq_true c12
       clear c12
       have H' := Aside0.mk H
       clear H
       have hcz13_0 := cz5 BK119.out
       have hfz13_0 := blk_frozen BK119.out
       go_wp2_with (first | ((with_reducible refine gate_callee (f := 46) rfl ?_); refine gsl (some 6) Try.func46 #[.int .i64 a0_0] ?_; (with_reducible refine (drive_at.calls a0_0 true _ A4.out).mono ?_); rintro e w' ⟨rfl, ⟨nd, rfl⟩⟩; refine ⟨_, rfl, ?_⟩) | (go_at_call 46; (with_reducible refine (drive_at.calls a0_1 true _ A6.out).mono ?_); rintro e w' ⟨rfl, ⟨nd, rfl⟩⟩; (try clear A6)))
       go_meet
       case rel => exact ⟨_, (true), (by first | rfl | (simp; done) | (simp [*]; done)), H', ⟨by first | omega | exact Nat.le_refl _⟩, ⟨bkt BK119.out⟩, ⟨bel HB.out⟩⟩
      ·rw [if_neg c12] at H
       have c12b0 : decide (a0_3 < 0) = false := decide_eq_false c12
       clear c12
       by_cases c14 : a0_3 > 3
       ·rw [if_pos c14] at H
        have c14b0 : decide (3 < a0_3) = true := decide_eq_true c14
        clear c14
        have H' := Aside0.mk H
        clear H
        have hcz15_0 := cz5 BK119.out
        have hfz15_0 := blk_frozen BK119.out
        go_wp2_with (first | ((with_reducible refine gate_callee (f := 46) rfl ?_); refine gsl (some 6) Try.func46 #[.int .i64 a0_0] ?_; (with_reducible refine (drive_at.calls a0_0 true _ A4.out).mono ?_); rintro e w' ⟨rfl, ⟨nd, rfl⟩⟩; refine ⟨_, rfl, ?_⟩) | (go_at_call 46; (with_reducible refine (drive_at.calls a0_1 true _ A6.out).mono ?_); rintro e w' ⟨rfl, ⟨nd, rfl⟩⟩; (try clear A6)))
        go_meet
        case rel => exact ⟨_, (true), (by first | rfl | (simp; done) | (simp [*]; done)), H', ⟨by first | omega | exact Nat.le_refl _⟩, ⟨bkt BK119.out⟩, ⟨bel HB.out⟩⟩
       ·rw [if_neg c14] at H
        have c14b0 : decide (3 < a0_3) = false := decide_eq_false c14
        clear c14
        by_cases c16 : a0_4 < 0
        ·rw [if_pos c16] at H
         have c16b0 : decide (a0_4 < 0) = true := decide_eq_true c16
         clear c16
         have H' := Aside0.mk H
         clear H
         have hcz17_0 := cz5 BK119.out
         have hfz17_0 := blk_frozen BK119.out
         go_wp2_with (first | ((with_reducible refine gate_callee (f := 46) rfl ?_); refine gsl (some 6) Try.func46 #[.int .i64 a0_0] ?_; (with_reducible refine (drive_at.calls a0_0 true _ A4.out).mono ?_); rintro e w' ⟨rfl, ⟨nd, rfl⟩⟩; refine ⟨_, rfl, ?_⟩) | (go_at_call 46; (with_reducible refine (drive_at.calls a0_1 true _ A6.out).mono ?_); rintro e w' ⟨rfl, ⟨nd, rfl⟩⟩; (try clear A6)))
         go_meet
         case rel => exact ⟨_, (true), (by first | rfl | (simp; done) | (simp [*]; done)), H', ⟨by first | omega | exact Nat.le_refl _⟩, ⟨bkt BK119.out⟩, ⟨bel HB.out⟩⟩
        ·rw [if_neg c16] at H
         have c16b0 : decide (a0_4 < 0) = false := decide_eq_false c16
         clear c16
         have H' := Aside0.mk H
         clear H
         have hcz18_0 := cz5 BK119.out
         have hfz18_0 := blk_frozen BK119.out
         go_wp2_with (first | ((with_reducible refine gate_callee (f := 46) rfl ?_); refine gsl (some 6) Try.func46 #[.int .i64 a0_0] ?_; (with_reducible refine (drive_at.calls a0_0 true _ A4.out).mono ?_); rintro e w' ⟨rfl, ⟨nd, rfl⟩⟩; refine ⟨_, rfl, ?_⟩) | (go_at_call 46; (with_reducible refine (drive_at.calls a0_1 true _ A6.out).mono ?_); rintro e w' ⟨rfl, ⟨nd, rfl⟩⟩; (try clear A6)))
         go_meet
         case rel => exact ⟨_, (decide (a0_4 > 5)), (by first | rfl | (simp; done) | (simp [*]; done)), H', ⟨by first | omega | exact Nat.le_refl _⟩, ⟨bkt BK119.out⟩, ⟨bel HB.out⟩⟩
   ·replace c7 := Bool.eq_false_iff.mpr c7
    subst c7
    have H1 : (drive_Check.j0 k true a0_0 a0_1 a0_2 a0_3 a0_4) = some r := by rw [if_neg (show ¬ (false = true) by decide)] at H; exact H
    clear H
    have H := H1
    clear H1
    have H' := Aside0.mk H
    clear H
    have hcz19_0 := cz5 BK119.out
    have hfz19_0 := blk_frozen BK119.out
    go_wp2_with (first | ((with_reducible refine gate_callee (f := 46) rfl ?_); refine gsl (some 6) Try.func46 #[.int .i64 a0_0] ?_; (with_reducible refine (drive_at.calls a0_0 true _ A4.out).mono ?_); rintro e w' ⟨rfl, ⟨nd, rfl⟩⟩; refine ⟨_, rfl, ?_⟩) | (go_at_call 46; (with_reducible refine (drive_at.calls a0_1 false _ A6.out).mono ?_); rintro e w' ⟨rfl, ⟨nd, rfl⟩⟩; (try clear A6)))
    go_meet
    case rel => exact ⟨_, (true), (by first | rfl | (simp; done) | (simp [*]; done)), H', ⟨by first | omega | exact Nat.le_refl _⟩, ⟨bkt BK119.out⟩, ⟨bel HB.out⟩⟩
  ·replace c5 := Bool.eq_false_iff.mpr c5
   subst c5
   have H1 : (drive_Check.j0 k true a0_0 a0_1 a0_2 a0_3 a0_4) = some r := by rw [if_neg (show ¬ (false = true) by decide)] at H; exact H
   clear H
   have H := H1
   clear H1
   have H' := Aside0.mk H
   clear H
   have hcz20_0 := cz5 BK119.out
   have hfz20_0 := blk_frozen BK119.out
   go_wp2_with (first | ((with_reducible refine gate_callee (f := 46) rfl ?_); refine gsl (some 6) Try.func46 #[.int .i64 a0_0] ?_; (with_reducible refine (drive_at.calls a0_0 false _ A4.out).mono ?_); rintro e w' ⟨rfl, ⟨nd, rfl⟩⟩; refine ⟨_, rfl, ?_⟩))
   go_meet
   case rel => exact ⟨_, (true), (by first | rfl | (simp; done) | (simp [*]; done)), H', ⟨by first | omega | exact Nat.le_refl _⟩, ⟨bkt BK119.out⟩, ⟨bel HB.out⟩⟩
 case rest =>
  clear HC2
  try clear c1
  try clear p2
  try clear c4
  try clear c5
  try clear c7
  try clear c8
  try clear c8b0
  try clear c10
  try clear c10b0
  try clear c12
  try clear c12b0
  try clear c14
  try clear c14b0
  try clear c16
  try clear c16b0
  try clear hcz11_0
  try clear hcz13_0
  try clear hcz15_0
  try clear hcz17_0
  try clear hcz18_0
  try clear hcz19_0
  try clear hcz20_0
  try clear hcz9_0
  try clear hfz11_0
  try clear hfz13_0
  try clear hfz15_0
  try clear hfz17_0
  try clear hfz18_0
  try clear hfz19_0
  try clear hfz20_0
  try clear hfz9_0
  obtain ⟨kq, x3_1, rfl, HA, HJ1, BK119, HB⟩ := hcut
  cases kq with
  | zero => exact absurd HA.out (by simp [drive_Check.j0])
  | succ kj1 =>
   have H := HA.out
   clear HA
   simp only [drive_Check.j0] at H
   by_cases c21 : x3_1 = true
   ·subst c21
    have H1 : (some 2) = some r := by rw [if_pos rfl] at H; exact H
    clear H
    have H := H1
    clear H1
    obtain rfl := Option.some.inj H
    go_wp2
    go_ret
    exact bfin (bel HB.out)
   ·replace c21 := Bool.eq_false_iff.mpr c21
    subst c21
    have H1 : ((drive_formed.f kj1 a0_0 a0_1 a0_2 a0_3 a0_4).bind fun t122 => (if t122 = true then (some 0) else (some 3))) = some r := by rw [if_neg (show ¬ (false = true) by decide)] at H; exact H
    clear H
    have H := H1
    clear H1
    replace H := Option.bind_eq_some_iff.mp H
    obtain ⟨t122, A220, H⟩ := H
    replace H : (if t122 = true then (some 0) else (some 3)) = some r := H
    have A22 := Aside0.mk A220
    clear A220
    by_cases c23 : t122 = true
    ·subst c23
     have H1 : (some 0) = some r := by rw [if_pos rfl] at H; exact H
     clear H
     have H := H1
     clear H1
     obtain rfl := Option.some.inj H
     have hcz24_0 := cz5 BK119.out
     have hfz24_0 := blk_frozen BK119.out
     go_wp2_with (first | ((with_reducible refine gate_callee (f := 55) rfl ?_); refine gsl (some 46) Try.func55 #[.agg #[.int .i64 a0_0, .int .i64 a0_1, .int .i64 a0_2, .int .i64 a0_3, .int .i64 a0_4]] ?_; (with_reducible refine (drive_formed.calls kj1 a0_0 a0_1 a0_2 a0_3 a0_4 true _ A22.out).mono ?_); rintro e w25 ⟨rfl, hb⟩; refine ⟨_, rfl, ?_⟩; replace BK119 := Aside0.mk (bkb BK119.out hb); replace HB := Aside0.mk (bst HB.out hb); (try clear hb); (try clear hb2); (try clear hk); (try clear hi)))
     go_ret
     exact bfin (bel HB.out)
    ·replace c23 := Bool.eq_false_iff.mpr c23
     subst c23
     have H1 : (some 3) = some r := by rw [if_neg (show ¬ (false = true) by decide)] at H; exact H
     clear H
     have H := H1
     clear H1
     obtain rfl := Option.some.inj H
     have hcz26_0 := cz5 BK119.out
     have hfz26_0 := blk_frozen BK119.out
     go_wp2_with (first | ((with_reducible refine gate_callee (f := 55) rfl ?_); refine gsl (some 46) Try.func55 #[.agg #[.int .i64 a0_0, .int .i64 a0_1, .int .i64 a0_2, .int .i64 a0_3, .int .i64 a0_4]] ?_; (with_reducible refine (drive_formed.calls kj1 a0_0 a0_1 a0_2 a0_3 a0_4 false _ A22.out).mono ?_); rintro e w27 ⟨rfl, hb⟩; refine ⟨_, rfl, ?_⟩; replace BK119 := Aside0.mk (bkb BK119.out hb); replace HB := Aside0.mk (bst HB.out hb); (try clear hb); (try clear hb2); (try clear hk); (try clear hi)))
     go_ret
     exact bfin (bel HB.out)

/-! ### drive_rule_valid: function 59 -/
def drive_rule_valid.f (a0_0 : Int) (a0_1 : Int) : Option (Bool) := if a0_0 ≥ 1 then (if a0_0 ≤ 20 then (if a0_1 ≥ 0 then (some (decide (a0_1 ≤ 5))) else (some false)) else (some false)) else (some false)
set_option maxHeartbeats 8000000 in
set_option maxRecDepth 100000 in
theorem drive_rule_valid.calls (a0_0 : Int) (a0_1 : Int) (r : Bool) (w : World) (h : drive_rule_valid.f a0_0 a0_1 = some r) :
  Calls Try.prog 59 #[.agg #[.int .i64 a0_0, .int .i64 a0_1]] w fun e w' => e = .returned (.bool r) ∧ Below w.heap.size w w' := by
 have hu85 := Try.underlying85
 have HB := Aside0.mk (Below.refl w.heap.size w)
 have H : (if a0_0 ≥ 1 then (if a0_0 ≤ 20 then (if a0_1 ≥ 0 then (some (decide (a0_1 ≤ 5))) else (some false)) else (some false)) else (some false)) = some r := h
 clear h
 by_cases c2 : a0_0 ≥ 1
 ·rw [if_pos c2] at H
  have c2b0 : decide (1 ≤ a0_0) = true := decide_eq_true c2
  clear c2
  by_cases c3 : a0_0 ≤ 20
  ·rw [if_pos c3] at H
   have c3b0 : decide (a0_0 ≤ 20) = true := decide_eq_true c3
   clear c3
   by_cases c4 : a0_1 ≥ 0
   ·rw [if_pos c4] at H
    have c4b0 : decide (0 ≤ a0_1) = true := decide_eq_true c4
    clear c4
    obtain rfl := Option.some.inj H
    go_enter Try.func59, Try.ntmps59
    go_wp2_with (first | ((with_reducible refine gate_dst (N := 1) rfl ?_); refine bxe (cs := #[.int .i64 a0_0, .int .i64 a0_1]) (t := 85) ?_; intro gb126 hg w5 hbox hb; have BK126 := Aside0.mk (hbox); have GW126 := Aside0.mk (bge hg HB.out); have GE126 := Aside0.mk (bge hg HB.out); replace HB := Aside0.mk (bst HB.out hb); clear hb hbox hg; have hcz6_0 := cz2 BK126.out; have hfz6_0 := blk_frozen BK126.out))
    go_ret
    exact bfin (bel HB.out)
   ·rw [if_neg c4] at H
    have c4b0 : decide (0 ≤ a0_1) = false := decide_eq_false c4
    clear c4
    obtain rfl := Option.some.inj H
    go_enter Try.func59, Try.ntmps59
    go_wp2_with (first | ((with_reducible refine gate_dst (N := 1) rfl ?_); refine bxe (cs := #[.int .i64 a0_0, .int .i64 a0_1]) (t := 85) ?_; intro gb126 hg w7 hbox hb; have BK126 := Aside0.mk (hbox); have GW126 := Aside0.mk (bge hg HB.out); have GE126 := Aside0.mk (bge hg HB.out); replace HB := Aside0.mk (bst HB.out hb); clear hb hbox hg; have hcz8_0 := cz2 BK126.out; have hfz8_0 := blk_frozen BK126.out))
    go_ret
    exact bfin (bel HB.out)
  ·rw [if_neg c3] at H
   have c3b0 : decide (a0_0 ≤ 20) = false := decide_eq_false c3
   clear c3
   obtain rfl := Option.some.inj H
   go_enter Try.func59, Try.ntmps59
   go_wp2_with (first | ((with_reducible refine gate_dst (N := 1) rfl ?_); refine bxe (cs := #[.int .i64 a0_0, .int .i64 a0_1]) (t := 85) ?_; intro gb126 hg w9 hbox hb; have BK126 := Aside0.mk (hbox); have GW126 := Aside0.mk (bge hg HB.out); have GE126 := Aside0.mk (bge hg HB.out); replace HB := Aside0.mk (bst HB.out hb); clear hb hbox hg; have hcz10_0 := cz2 BK126.out; have hfz10_0 := blk_frozen BK126.out))
   go_ret
   exact bfin (bel HB.out)
 ·rw [if_neg c2] at H
  have c2b0 : decide (1 ≤ a0_0) = false := decide_eq_false c2
  clear c2
  obtain rfl := Option.some.inj H
  go_enter Try.func59, Try.ntmps59
  go_wp2_with (first | ((with_reducible refine gate_dst (N := 1) rfl ?_); refine bxe (cs := #[.int .i64 a0_0, .int .i64 a0_1]) (t := 85) ?_; intro gb126 hg w11 hbox hb; have BK126 := Aside0.mk (hbox); have GW126 := Aside0.mk (bge hg HB.out); have GE126 := Aside0.mk (bge hg HB.out); replace HB := Aside0.mk (bst HB.out hb); clear hb hbox hg; have hcz12_0 := cz2 BK126.out; have hfz12_0 := blk_frozen BK126.out))
  go_ret
  exact bfin (bel HB.out)

end Go.Proofs.Ytckaofgkepcibaa.P
