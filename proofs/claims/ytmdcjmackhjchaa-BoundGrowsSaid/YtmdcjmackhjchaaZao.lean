import Derived.Test.YtmdcjmackhjchaaZad
section
-- Printed by wip/myprint.py of this repo (over the kit's printer). Not trusted: Lean checks it.
namespace Go.Proofs.Ytmdcjmackhjchaa.P
open Go.RowKit Go.Proofs.YtmdcjmackhjchaaW.PrintWords Go.Proofs.YtmdcjmackhjchaaW.PrintLast Go.Proofs.YtmdcjmackhjchaaW.PrintMore
attribute [local go_sem] cell_same1 cell_some1 ix27_0 ix27_1 ix27_2
attribute [local go_sem] max2_int min2_int max_two min_two max_three min_three max_four min_four   -- for this text's walks alone
set_option linter.unusedVariables false
set_option linter.unusedSimpArgs false

/-! ### r07_Check: function 47 -/
mutual
def r07_Check.j0 : Nat → List Int → Bool → Option (Int × Int)
 | 0, _, _ => none
 | k + 1, x0, x12 => if x12 = true then (some (4, 0)) else (r07_Check.l0 k x0 0)
def r07_Check.l0 : Nat → List Int → Int → Option (Int × Int)
 | 0, _, _ => none
 | k + 1, x0, x4 => if x4 < (x0.length : Int) then (if 0 ≤ x4 then (if (rd x0 x4) < 1 then (some (2, x4)) else (if (rd x0 x4) > 1000 then (some (2, x4)) else (r07_Check.l0 k x0 (wrap64 (x4 + 1))))) else (none)) else (some (0, 0))
end
def r07_Check.f (k : Nat) (l0 : List Int) : Option (Int × Int) := if (l0.length : Int) < 1 then (r07_Check.j0 k l0 true) else (r07_Check.j0 k l0 (decide ((l0.length : Int) > 63)))
theorem r07_Check.mono_l : ∀ k, (∀ y0 y1, LeO (r07_Check.j0 k y0 y1) (r07_Check.j0 (k + 1) y0 y1)) ∧ (∀ y0 y1, LeO (r07_Check.l0 k y0 y1) (r07_Check.l0 (k + 1) y0 y1))
 | 0 => ⟨fun _ _ r h => by simp [r07_Check.j0] at h, fun _ _ r h => by simp [r07_Check.l0] at h⟩
 | k + 1 => by
  obtain ⟨ih0, ih1⟩ := r07_Check.mono_l k
  refine ⟨?_, ?_⟩
  ·as_aux_lemma =>
   intro y0 y1
   unfold r07_Check.j0
   repeat' first
   | (with_reducible exact ih0 _ _)
   | (with_reducible exact ih1 _ _)
   | (with_reducible exact LeO.refl _)
   | (with_reducible exact LeO.none _)
   | (with_reducible refine LeO.ite ?_ ?_)
   | (with_reducible refine LeO.bind ?_ (fun _ => ?_))
   | exact ih0 _ _
   | exact ih1 _ _
   | exact LeO.none _
   | refine LeO.ite ?_ ?_
   | refine LeO.bind ?_ (fun _ => ?_)
  ·as_aux_lemma =>
   intro y0 y1
   unfold r07_Check.l0
   repeat' first
   | (with_reducible exact ih0 _ _)
   | (with_reducible exact ih1 _ _)
   | (with_reducible exact LeO.refl _)
   | (with_reducible exact LeO.none _)
   | (with_reducible refine LeO.ite ?_ ?_)
   | (with_reducible refine LeO.bind ?_ (fun _ => ?_))
   | exact ih0 _ _
   | exact ih1 _ _
   | exact LeO.none _
   | refine LeO.ite ?_ ?_
   | refine LeO.bind ?_ (fun _ => ?_)
theorem r07_Check.mono : ∀ a0 k, LeO (r07_Check.f k a0) (r07_Check.f (k + 1) a0) := by
 intro a0 k
 obtain ⟨ih0, ih1⟩ := r07_Check.mono_l k
 unfold r07_Check.f
 repeat' first
   | (with_reducible exact ih0 _ _)
   | (with_reducible exact ih1 _ _)
   | (with_reducible exact LeO.refl _)
   | (with_reducible exact LeO.none _)
   | (with_reducible refine LeO.ite ?_ ?_)
   | (with_reducible refine LeO.bind ?_ (fun _ => ?_))
   | exact ih0 _ _
   | exact ih1 _ _
   | exact LeO.none _
   | refine LeO.ite ?_ ?_
   | refine LeO.bind ?_ (fun _ => ?_)
set_option maxHeartbeats 8000000 in
set_option maxRecDepth 100000 in
theorem r07_Check.calls (k : Nat) (A0 : Option Addr) (c0 : Nat) (l0 : List Int) (r1 : Int) (r2 : Int) (w : World) (hr0 : Kd.C (Kd.int .i64) w A0 l0.length l0) (hc0 : l0.length ≤ c0) (h : r07_Check.f k l0 = some (r1, r2)) :
  Calls Try.prog 47 #[.slice A0 l0.length c0] w fun e w' => e = .returned (.tuple #[.int .i64 r1, .int .i64 r2]) ∧ Drawn0 w w' := by
 have HR0 := Aside0.mk hr0
 have HC0 := Aside0.mk hc0
 clear hr0 hc0
 have H : (if (l0.length : Int) < 1 then (r07_Check.j0 k l0 true) else (r07_Check.j0 k l0 (decide ((l0.length : Int) > 63)))) = some (r1, r2) := h
 clear h
 have HC2 := Aside0.mk H
 clear H
 go_enter Try.func47, Try.ntmps47
 go_upto_region 1 with (fail)
 go_cut [12] (fun v12 wc => ∃ (kq : Nat) (x12_1 : Bool), v12 = .bool x12_1 ∧ Aside0 (r07_Check.j0 kq l0 x12_1 = some (r1, r2)) ∧ Aside0 (kq ≤ k) ∧ Drawn0 w wc)
 case first =>
  have H := HC2.out
  clear HC2
  by_cases c3 : (l0.length : Int) < 1
  ·as_aux_lemma =>
   rw [if_pos c3] at H
   have c3b0 : decide ((l0.length : Int) < 1) = true := decide_eq_true c3
   have c3b1 : decide (l0.length < 1) = true := decide_eq_true (by omega)
   clear c3
   (first | rw [c3b0] | (simp only [i64_w, i32_w]; rw [c3b0]) | skip)
   have H' := Aside0.mk H
   clear H
   go_wp2
   go_meet
   case rel => exact ⟨_, (true), (by first | rfl | (simp; done) | (simp [*]; done)), H', ⟨by first | omega | exact Nat.le_refl _⟩, by repeat (first | exact Drawn0.refl _ | apply Drawn0.step)⟩
  ·as_aux_lemma =>
   rw [if_neg c3] at H
   have c3b0 : decide ((l0.length : Int) < 1) = false := decide_eq_false c3
   have c3b1 : decide (l0.length < 1) = false := decide_eq_false (by omega)
   clear c3
   (first | rw [c3b0] | (simp only [i64_w, i32_w]; rw [c3b0]) | skip)
   have H' := Aside0.mk H
   clear H
   go_wp2
   go_meet
   case rel => exact ⟨_, (decide ((l0.length : Int) > 63)), (by first | rfl | (simp; done) | (simp [*]; done)), H', ⟨by first | omega | exact Nat.le_refl _⟩, by repeat (first | exact Drawn0.refl _ | apply Drawn0.step)⟩
 case rest =>
  clear HC2
  try clear p2
  try clear c3
  try clear c3b0
  try clear c3b1
  obtain ⟨kq, x12_1, rfl, HA, HJ1, ⟨mc1, rfl⟩⟩ := hcut
  cases kq with
  | zero => exact absurd HA.out (by simp [r07_Check.j0])
  | succ kj1 =>
   have H := HA.out
   clear HA
   simp only [r07_Check.j0] at H
   by_cases c4 : x12_1 = true
   ·as_aux_lemma =>
    subst c4
    have H1 : (some (4, 0)) = some (r1, r2) := by rw [if_pos rfl] at H; exact H
    clear H
    have H := H1
    clear H1
    simp only [Option.some.injEq, Prod.mk.injEq] at H
    obtain ⟨rfl, rfl⟩ := H
    go_wp2
    go_ret2
    exact ⟨by first | rfl | (simp; done) | (simp [*]; done), by repeat (first | exact Drawn0.refl _ | apply Drawn0.step)⟩
   ·as_aux_lemma =>
    replace c4 := Bool.eq_false_iff.mpr c4
    subst c4
    have H1 : (r07_Check.l0 kj1 l0 0) = some (r1, r2) := by rw [if_neg (show ¬ (false = true) by decide)] at H; exact H
    clear H
    have H := H1
    clear H1
    have H' := Aside0.mk H
    clear H
    go_wp2
    go_loopg [4] kj1 (fun kq v4 w' => ∃ (x4_2 : Int), v4 = .int .i64 x4_2 ∧ Aside0 (r07_Check.l0 kq l0 x4_2 = some (r1, r2)) ∧ Aside0 (kq ≤ kj1) ∧ Drawn0 w w')
    case atStart => exact ⟨(0), (by first | rfl | (simp; done) | (simp [*]; done)), H', ⟨Nat.le_refl _⟩, by repeat (first | exact Drawn0.refl _ | apply Drawn0.step)⟩
    case round =>
     clear H'
     try clear c1
     try clear p2
     try clear c3
     try clear c3b0
     try clear c3b1
     try clear c4
     try clear p2
     obtain ⟨x4_2, rfl, HA, HK2, ⟨m2, rfl⟩⟩ := hrel
     cases gk with
     | zero => exact absurd HA.out (by simp [r07_Check.l0])
     | succ k2 =>
      have H := HA.out
      clear HA
      simp only [r07_Check.l0] at H
      by_cases c5 : x4_2 < (l0.length : Int)
      ·as_aux_lemma =>
       rw [if_pos c5] at H
       have c5b0 : decide (x4_2 < (l0.length : Int)) = true := decide_eq_true c5
       clear c5
       by_cases c6 : 0 ≤ x4_2
       ·as_aux_lemma =>
        rw [if_pos c6] at H
        have c6b0 : decide (0 ≤ x4_2) = true := decide_eq_true c6
        clear c6
        by_cases c7 : (rd l0 x4_2) < 1
        ·as_aux_lemma =>
         rw [if_pos c7] at H
         have c7b0 : decide ((rd l0 x4_2) < 1) = true := decide_eq_true c7
         clear c7
         simp only [Option.some.injEq, Prod.mk.injEq] at H
         obtain ⟨rfl, rfl⟩ := H
         have p231 : 0 ≤ (x4_2 : Int) := of_decide_eq_true (by first | (with_reducible assumption) | assumption)
         have q231 : x4_2 < (l0.length : Int) := of_decide_eq_true (by first | (with_reducible assumption) | assumption)
         obtain ⟨ad231, e231, hx231_0⟩ := Kd.at_int HR0.out x4_2 p231 q231
         cases e231
         replace p231 := eq_true p231
         replace q231 := eq_true q231
         go_wp2
         go_ret2
         exact ⟨by first | rfl | (simp; done) | (simp [*]; done), by repeat (first | exact Drawn0.refl _ | apply Drawn0.step)⟩
        ·as_aux_lemma =>
         rw [if_neg c7] at H
         have c7b0 : decide ((rd l0 x4_2) < 1) = false := decide_eq_false c7
         clear c7
         by_cases c8 : (rd l0 x4_2) > 1000
         ·as_aux_lemma =>
          rw [if_pos c8] at H
          have c8b0 : decide (1000 < (rd l0 x4_2)) = true := decide_eq_true c8
          clear c8
          simp only [Option.some.injEq, Prod.mk.injEq] at H
          obtain ⟨rfl, rfl⟩ := H
          have p231 : 0 ≤ (x4_2 : Int) := of_decide_eq_true (by first | (with_reducible assumption) | assumption)
          have q231 : x4_2 < (l0.length : Int) := of_decide_eq_true (by first | (with_reducible assumption) | assumption)
          obtain ⟨ad231, e231, hx231_0⟩ := Kd.at_int HR0.out x4_2 p231 q231
          cases e231
          replace p231 := eq_true p231
          replace q231 := eq_true q231
          have p232 : 0 ≤ (x4_2 : Int) := of_decide_eq_true (by first | (with_reducible assumption) | assumption)
          have q232 : x4_2 < (l0.length : Int) := of_decide_eq_true (by first | (with_reducible assumption) | assumption)
          obtain ⟨ad232, e232, hx232_0⟩ := Kd.at_int HR0.out x4_2 p232 q232
          obtain rfl : ad231 = ad232 := (by injection e232)
          replace p232 := eq_true p232
          replace q232 := eq_true q232
          go_wp2
          go_ret2
          exact ⟨by first | rfl | (simp; done) | (simp [*]; done), by repeat (first | exact Drawn0.refl _ | apply Drawn0.step)⟩
         ·as_aux_lemma =>
          rw [if_neg c8] at H
          have c8b0 : decide (1000 < (rd l0 x4_2)) = false := decide_eq_false c8
          clear c8
          have H' := Aside0.mk H
          clear H
          have p231 : 0 ≤ (x4_2 : Int) := of_decide_eq_true (by first | (with_reducible assumption) | assumption)
          have q231 : x4_2 < (l0.length : Int) := of_decide_eq_true (by first | (with_reducible assumption) | assumption)
          obtain ⟨ad231, e231, hx231_0⟩ := Kd.at_int HR0.out x4_2 p231 q231
          cases e231
          replace p231 := eq_true p231
          replace q231 := eq_true q231
          have p232 : 0 ≤ (x4_2 : Int) := of_decide_eq_true (by first | (with_reducible assumption) | assumption)
          have q232 : x4_2 < (l0.length : Int) := of_decide_eq_true (by first | (with_reducible assumption) | assumption)
          obtain ⟨ad232, e232, hx232_0⟩ := Kd.at_int HR0.out x4_2 p232 q232
          obtain rfl : ad231 = ad232 := (by injection e232)
          replace p232 := eq_true p232
          replace q232 := eq_true q232
          go_wp2
          go_roundg k2
          case measure => have := HJ1.out; have := HK2.out; omega
          case rel => exact ⟨(wrap64 (x4_2 + 1)), (by first | rfl | (simp; done) | (simp [*]; done)), H', ⟨by have := HJ1.out; have := HK2.out; omega⟩, by repeat (first | exact Drawn0.refl _ | apply Drawn0.step)⟩
       ·rw [if_neg c6] at H
        exact absurd H (by simp)
      ·as_aux_lemma =>
       rw [if_neg c5] at H
       have c5b0 : decide (x4_2 < (l0.length : Int)) = false := decide_eq_false c5
       clear c5
       simp only [Option.some.injEq, Prod.mk.injEq] at H
       obtain ⟨rfl, rfl⟩ := H
       go_wp2
       go_ret2
       exact ⟨by first | rfl | (simp; done) | (simp [*]; done), by repeat (first | exact Drawn0.refl _ | apply Drawn0.step)⟩

/-! ### r07_positions: function 48 -/
def r07_positions.l0 : Nat → List Int → List Int → Int → Option (List Int)
 | 0, _, _, _ => none
 | k + 1, x0, x3, x4 => if x4 < (x0.length : Int) then (if 0 ≤ x4 then (if x4 < (x3.length : Int) then (if x3.length < 17592186044416 then (r07_positions.l0 k x0 (x3 ++ [wrap64 ((rd x3 x4) + (rd x0 x4))]) (wrap64 (x4 + 1))) else (none)) else (none)) else (none)) else (some x3)
def r07_positions.f (k : Nat) (l0 : List Int) : Option (List Int) := r07_positions.l0 k l0 (([0] : List Int)) 0
theorem r07_positions.mono_l : ∀ k, (∀ y0 y1 y2, LeO (r07_positions.l0 k y0 y1 y2) (r07_positions.l0 (k + 1) y0 y1 y2))
 | 0 => fun _ _ _ r h => by simp [r07_positions.l0] at h
 | k + 1 => by
  have ih0 := r07_positions.mono_l k
  ·as_aux_lemma =>
   intro y0 y1 y2
   unfold r07_positions.l0
   repeat' first
   | (with_reducible exact ih0 _ _ _)
   | (with_reducible exact LeO.refl _)
   | (with_reducible exact LeO.none _)
   | (with_reducible refine LeO.ite ?_ ?_)
   | (with_reducible refine LeO.bind ?_ (fun _ => ?_))
   | exact ih0 _ _ _
   | exact LeO.none _
   | refine LeO.ite ?_ ?_
   | refine LeO.bind ?_ (fun _ => ?_)
theorem r07_positions.mono : ∀ a0 k, LeO (r07_positions.f k a0) (r07_positions.f (k + 1) a0) := by
 intro a0 k
 have ih0 := r07_positions.mono_l k
 unfold r07_positions.f
 repeat' first
   | (with_reducible exact ih0 _ _ _)
   | (with_reducible exact LeO.refl _)
   | (with_reducible exact LeO.none _)
   | (with_reducible refine LeO.ite ?_ ?_)
   | (with_reducible refine LeO.bind ?_ (fun _ => ?_))
   | exact ih0 _ _ _
   | exact LeO.none _
   | refine LeO.ite ?_ ?_
   | refine LeO.bind ?_ (fun _ => ?_)
def r07_positions.T5 : Bool × List (List Nat × List Nat) := (true, [([], []), ([], []), ([], []), ([1, 2], [1, 2]), ([3], [3]), ([], []), ([], []), ([5, 6], [5, 6]), ([7], [7]), ([4, 8], [4, 8]), ([9], [9]), ([0, 10], [0, 10]), ([11, 11, 0, 1, 2, 3, 4, 5, 6, 7, 8, 9, 10, 11], [0, 1, 11])])
def r07_positions.B5 : List Nat := [0, 0, 0, 6, 14, 0, 0, 96, 224, 510, 1022, 2047, 4095]
theorem r07_positions.tab5 : rtab .any (opsOf Try.f48 5) = r07_positions.T5 := by kernel_rfl
theorem r07_positions.bits5 : waitsOk r07_positions.T5.2 r07_positions.B5 = true := by kernel_rfl
set_option maxHeartbeats 8000000 in
set_option maxRecDepth 100000 in
theorem r07_positions.calls (k : Nat) (A0 : Option Addr) (c0 : Nat) (l0 : List Int) (r : List Int) (w : World) (hr0 : Kd.C (Kd.int .i64) w A0 l0.length l0) (hc0 : l0.length ≤ c0) (h : r07_positions.f k l0 = some r) :
  Calls Try.prog 48 #[.slice A0 l0.length c0] w fun e w' => ∃ v0_ : Value, e = .returned (v0_) ∧ Kd.R (Kd.int .i64) 3 w' w.heap.size (fun _ => True) v0_ r ∧ Below w.heap.size w w' := by
 have HR0 := Aside0.mk hr0
 have HC0 := Aside0.mk hc0
 clear hr0 hc0
 have HB := Aside0.mk (Below.refl w.heap.size w)
 have H : (r07_positions.l0 k l0 (([0] : List Int)) 0) = some r := h
 clear h
 obtain ⟨y233, hy233⟩ : ∃ y_ : List Int, y_ = (([0] : List Int)) := ⟨_, rfl⟩
 replace H : (r07_positions.l0 k l0 y233 0) = some r := by first | (rw [hy233]; with_reducible exact H) | (have H2_ := (Option.bind_some _ _).symm.trans H; rw [hy233]; with_reducible exact H2_) | (have H2_ := (Option.bind_some _ _).symm.trans H; with_reducible exact H2_) | with_reducible exact H | (rw [hy233]; exact H) | exact H
 have Ny233 := Aside0.mk hy233
 clear hy233
 have H' := Aside0.mk H
 clear H
 go_enter Try.func48, Try.ntmps48
 go_wp2_with (first | ((with_reducible refine gate_dst (N := 5) rfl ?_); refine Kd.R_lit (Kd.int .i64) _ 3 ?hg (N := 5) ?hd (xs := ([0] : List Int)) (inner := [.int .i64 0]) (ok := fun _ => True) (okp := fun _ => True) ?hr ?hp (fun _ hk => hk) trivial (Below.refl _ _) (Nat.le_refl _) (by simp) ?_; (case hd => rfl); (case hg => rfl); (case hr => first | (go_simp; done) | (go_simp; rfl)); (case hp => exact (Reps.one (show Kd.M (Kd.int .i64) _ _ _ 0 [.int .i64 0] from rfl) (Reps.none _ _))); intro v234 w2 ho3 hb hg_ hnew_; clear hg_ hnew_; (first | rw [← Ny233.out] at ho3 | (simp only [Int.reduceToNat] at ho3; rw [← Ny233.out] at ho3)); have HO235 := Aside0.mk (Kd.R_lower ho3 (bsz HB.out)); replace HB := Aside0.mk (bst HB.out hb); clear hb ho3))
 go_loopg [3, 4] k (fun kq v3 v4 w' => ∃ (x3_1 : List Int) (x4_1 : Int), v4 = .int .i64 x4_1 ∧ Aside0 (r07_positions.l0 kq l0 x3_1 x4_1 = some r) ∧ Aside0 (kq ≤ k) ∧ Aside0 (Kd.R (Kd.int .i64) 3 w' w.heap.size (fun _ => True) v3 x3_1) ∧ Aside0 (Below w.heap.size w w'))
 case atStart => exact ⟨(y233), (0), (by first | rfl | (simp; done) | (simp [*]; done)), H', ⟨Nat.le_refl _⟩, ⟨kdt HO235.out⟩, ⟨bel HB.out⟩⟩
 case round =>
  clear H'
  try clear p2
  obtain ⟨x3_1, x4_1, rfl, HA, HK1, HO_3, HB⟩ := hrel
  cases gk with
  | zero => exact absurd HA.out (by simp [r07_positions.l0])
  | succ k1 =>
   have H := HA.out
   clear HA
   simp only [r07_positions.l0] at H
   by_cases c4 : x4_1 < (l0.length : Int)
   ·as_aux_lemma =>
    rw [if_pos c4] at H
    have c4b0 : decide (x4_1 < (l0.length : Int)) = true := decide_eq_true c4
    clear c4
    by_cases c5 : 0 ≤ x4_1
    ·as_aux_lemma =>
     rw [if_pos c5] at H
     have c5b0 : decide (0 ≤ x4_1) = true := decide_eq_true c5
     clear c5
     by_cases c6 : x4_1 < (x3_1.length : Int)
     ·as_aux_lemma =>
      rw [if_pos c6] at H
      have c6b0 : decide (x4_1 < (x3_1.length : Int)) = true := decide_eq_true c6
      clear c6
      by_cases c7 : x3_1.length < 17592186044416
      ·as_aux_lemma =>
       rw [if_pos c7] at H
       have LMc7 := Aside0.mk c7
       clear c7
       obtain ⟨y238, hy238⟩ : ∃ y_ : List Int, y_ = (x3_1 ++ [wrap64 ((rd x3_1 x4_1) + (rd l0 x4_1))]) := ⟨_, rfl⟩
       replace H : (r07_positions.l0 k1 l0 y238 (wrap64 (x4_1 + 1))) = some r := by first | (rw [hy238]; with_reducible exact H) | (have H2_ := (Option.bind_some _ _).symm.trans H; rw [hy238]; with_reducible exact H2_) | (have H2_ := (Option.bind_some _ _).symm.trans H; with_reducible exact H2_) | with_reducible exact H | (rw [hy238]; exact H) | exact H
       have Ny238 := Aside0.mk hy238
       clear hy238
       have H' := Aside0.mk H
       clear H
       try go_wp2
       have n0_ := Aside0.mk (Kd.R_drew HO_3.out)
       have n1_ := Aside0.mk (below_drew1 HB.out)
       clear HO_3
       clear HB
       have HO_3 := n0_
       have HB := n1_
       clear n0_ n1_
       obtain ⟨Ao9, co9, eo9⟩ := Kd.R_slice HO_3.out
       (first | subst eo9 | (injection eo9 with f1_ f2_ f3_; have f4_ := f1_.symm; have f5_ := f3_.symm; clear f1_ f2_ f3_; subst f4_; subst f5_))
       have p236 : 0 ≤ (x4_1 : Int) := of_decide_eq_true (by first | (with_reducible assumption) | assumption)
       have q236 : x4_1 < (x3_1.length : Int) := of_decide_eq_true (by first | (with_reducible assumption) | assumption)
       obtain ⟨ad236, e236, hx236_0⟩ := Kd.at_int (Kd.R_reads' HO_3.out).2.2 x4_1 p236 q236
       cases e236
       replace p236 := eq_true p236
       replace q236 := eq_true q236
       have p237 : 0 ≤ (x4_1 : Int) := of_decide_eq_true (by first | (with_reducible assumption) | assumption)
       have q237 : x4_1 < (l0.length : Int) := of_decide_eq_true (by first | (with_reducible assumption) | assumption)
       obtain ⟨ad237, e237, hx237_0⟩ := Kd.at_int HR0.out x4_1 p237 q237
       have hw237_0 := hx237_0
       cases e237
       replace hx237_0 := (HB.out.cell (World.block_lt_of_cell? w _ hx237_0)).trans hx237_0
       replace p237 := eq_true p237
       replace q237 := eq_true q237
       refine start_ (n := 13) (S := fun w' => w'.cell? (ad236.add (x4_1).toNat) = some (.int .i64 (rd x3_1 x4_1)) ∧ w'.cell? (ad237.add (x4_1).toNat) = some (.int .i64 (rd l0 x4_1))) (ds := [10, 11]) #[false, false, false, false, false, false, false, false, false, false, false, false, false] (by kernel_rfl) rfl rfl ⟨hx236_0, ((HB.out.cell (World.block_lt_of_cell? w _ hw237_0)).trans hw237_0)⟩ (fun hHeld => ?_); refine with_tabW r07_positions.tab5 r07_positions.bits5 (fun HT_ HW_ => ?_)
       generalize wr.drew = w8 at HO_3 HB hx236_0 hx237_0 hHeld ⊢
       refine pur 0 (some 12) (bm 13 1) HT_.out ?_
       refine pur 1 (some 13) (bm 13 3) HT_.out ?_
       refine pur 2 (some 14) (bm 13 7) HT_.out ?_
       refine pur 3 (some 15) (bm 13 15) HT_.out ?_
       refine pur 5 (some 17) (bm 13 47) HT_.out ?_
       refine pur 6 (some 18) (bm 13 111) HT_.out ?_
       refine pur 7 (some 19) (bm 13 239) HT_.out ?_
       refine tkp 4 (some 16) (bm 13 255) HT_.out HW_.out hHeld ?_
       refine tkp 8 (some 20) (bm 13 511) HT_.out HW_.out hHeld ?_
       refine pur 9 (some 21) (bm 13 1023) HT_.out ?_
       refine last_ (i := 10) (N := some 22) #[true, true, true, true, true, true, true, true, true, true, true, false, false] rfl rfl (one_of HT_.out (by kernel_rfl)) (by decide) (fun K hK => ?_)
       refine value_ (w1 := ?_) (v := ?_) (by rfl) rfl ?_ ?_
       rotate_left 2
       ·go_simp
        constructor
        ·rfl
        ·rfl
       refine hK.out _ _ ?_
       clear hK K
       refine norm_ (a' := ?_) ?_ ?_
       rotate_left
       ·show Act.put _ (some 22) _ = _
        simp only [Act.put, List.setIfInBounds_toArray, List.set_cons_zero, List.set_cons_succ, i64_w, i32_w]
        rfl
       refine last_ (i := 11) (N := some 23) #[true, true, true, true, true, true, true, true, true, true, true, true, false] rfl rfl (one_of HT_.out (by kernel_rfl)) (by decide) (fun K hK => ?_)
       refine Kd.R_append_step (Kd.int .i64) (w0 := w) w.heap.size (by rfl) (.tmp 12) (.tmp 22) 22 3 (.int .i64 0) 8 rfl Try.underlying22 info3 rfl (by decide) (by omega) (.slice (some ad236) x3_1.length co9) x3_1 (wrap64 ((rd x3_1 x4_1) + (rd l0 x4_1))) [.int .i64 (wrap64 ((rd x3_1 x4_1) + (rd l0 x4_1)))] (fun _ => True) (fun _ => False) rfl rfl ?aP (fun _ hk => hk.elim) ?aF ?aO ?aB ?aS ?aL ?_
       (case aP => exact rfl)
       (case aB => exact (bel HB.out))
       (case aF => exact (fun _ _ => trivial))
       (case aO => exact (kdt HO_3.out))
       (case aS => exact (bsz HB.out))
       (case aL => have := LMc7.out; omega)
       intro v239 w10 ho hb hg hat
       rw [← Ny238.out] at ho
       have n0_ := Aside0.mk (hb)
       have n1_ := Aside0.mk (ho)
       clear HB
       clear HO_3
       have HB := n0_
       have HO240 := n1_
       clear n0_ n1_
       clear ho hb hg hat
       refine hK.out _ _ ?_
       clear hK K
       refine norm_ (a' := ?_) ?_ ?_
       rotate_left
       ·show Act.put _ (some 23) _ = _
        simp only [Act.put, List.setIfInBounds_toArray, List.set_cons_zero, List.set_cons_succ, i64_w, i32_w]
        rfl
       refine pur 12 (some 3) (bm 13 8191) HT_.out ?_
       refine done_ (done_of HT_.out (by kernel_rfl)) ?_
       try go_wp2
       go_roundg k1
       case measure => have := HK1.out; omega
       case rel => exact ⟨(y238), (wrap64 (x4_1 + 1)), (by first | rfl | (simp; done) | (simp [*]; done)), H', ⟨by have := HK1.out; omega⟩, ⟨kdt HO240.out⟩, ⟨bel HB.out⟩⟩
      ·rw [if_neg c7] at H
       exact absurd H (by simp)
     ·rw [if_neg c6] at H
      exact absurd H (by simp)
    ·rw [if_neg c5] at H
     exact absurd H (by simp)
   ·as_aux_lemma =>
    rw [if_neg c4] at H
    have c4b0 : decide (x4_1 < (l0.length : Int)) = false := decide_eq_false c4
    clear c4
    obtain rfl := Option.some.inj H
    go_wp2
    go_ret
    exact ⟨_, by first | rfl | (simp [errW_none, errW_some] <;> rfl) | (simp [*, errW_none, errW_some] <;> rfl), by (with_reducible repeat (first | apply Kd.R_alloc | apply Kd.R_drewN | apply Kd.R_drew)); exact HO_3.out, bel HB.out⟩

/-! ### r07_Height: function 39 -/
def r07_Height.f (k : Nat) (l0 : List Int) : Option (Int × Int) := (r07_Check.f k l0).bind fun bt241 => (if bt241.1 = 0 then ((r07_positions.f k l0).bind fun t243 => (if 0 ≤ (l0.length : Int) then (if (l0.length : Int) < (t243.length : Int) then (some (rd t243 (l0.length : Int), 0)) else (none)) else (none))) else (some (0, bt241.1)))
theorem r07_Height.mono : ∀ a0 k, LeO (r07_Height.f k a0) (r07_Height.f (k + 1) a0) := by
 intro a0 k
 unfold r07_Height.f
 repeat' first
   | (with_reducible exact r07_Check.mono _ _)
   | (with_reducible exact r07_positions.mono _ _)
   | (with_reducible exact LeO.refl _)
   | (with_reducible exact LeO.none _)
   | (with_reducible refine LeO.ite ?_ ?_)
   | (with_reducible refine LeO.bind ?_ (fun _ => ?_))
   | exact r07_Check.mono _ _
   | exact r07_positions.mono _ _
   | exact LeO.none _
   | refine LeO.ite ?_ ?_
   | refine LeO.bind ?_ (fun _ => ?_)
set_option maxHeartbeats 8000000 in
set_option maxRecDepth 100000 in
theorem r07_Height.calls (k : Nat) (A0 : Option Addr) (c0 : Nat) (l0 : List Int) (r1 : Int) (r2 : Int) (w : World) (hr0 : Kd.C (Kd.int .i64) w A0 l0.length l0) (hc0 : l0.length ≤ c0) (h : r07_Height.f k l0 = some (r1, r2)) :
  Calls Try.prog 39 #[.slice A0 l0.length c0] w fun e w' => e = .returned (.tuple #[.int .i64 r1, .int .i64 r2]) ∧ Below w.heap.size w w' := by
 have HR0 := Aside0.mk hr0
 have HC0 := Aside0.mk hc0
 clear hr0 hc0
 have HB := Aside0.mk (Below.refl w.heap.size w)
 have H : ((r07_Check.f k l0).bind fun bt241 => (if bt241.1 = 0 then ((r07_positions.f k l0).bind fun t243 => (if 0 ≤ (l0.length : Int) then (if (l0.length : Int) < (t243.length : Int) then (some (rd t243 (l0.length : Int), 0)) else (none)) else (none))) else (some (0, bt241.1)))) = some (r1, r2) := h
 clear h
 replace H := Option.bind_eq_some_iff.mp H
 obtain ⟨⟨t241, t242⟩, A20, H⟩ := H
 replace H : (if t241 = 0 then ((r07_positions.f k l0).bind fun t243 => (if 0 ≤ (l0.length : Int) then (if (l0.length : Int) < (t243.length : Int) then (some (rd t243 (l0.length : Int), 0)) else (none)) else (none))) else (some (0, t241))) = some (r1, r2) := H
 have A2 := Aside0.mk A20
 clear A20
 by_cases c3 : t241 = 0
 ·as_aux_lemma =>
  rw [if_pos c3] at H
  have c3b0 : (t241 == 0) = true := beq_iff_eq.mpr c3
  have c3b1 : (t241 != 0) = false := bne_eq_false_iff_eq.mpr c3
  clear c3
  replace H := Option.bind_eq_some_iff.mp H
  obtain ⟨t243, A40, H⟩ := H
  replace H : (if 0 ≤ (l0.length : Int) then (if (l0.length : Int) < (t243.length : Int) then (some (rd t243 (l0.length : Int), 0)) else (none)) else (none)) = some (r1, r2) := H
  have A4 := Aside0.mk A40
  clear A40
  by_cases c5 : 0 ≤ (l0.length : Int)
  ·as_aux_lemma =>
   rw [if_pos c5] at H
   have c5b0 : decide (0 ≤ (l0.length : Int)) = true := decide_eq_true c5
   have c5b1 : decide (0 ≤ l0.length) = true := decide_eq_true (by omega)
   clear c5
   by_cases c6 : (l0.length : Int) < (t243.length : Int)
   ·as_aux_lemma =>
    rw [if_pos c6] at H
    have c6b0 : decide ((l0.length : Int) < (t243.length : Int)) = true := decide_eq_true c6
    have c6b1 : decide (l0.length < t243.length) = true := decide_eq_true (Int.ofNat_lt.mp c6)
    clear c6
    simp only [Option.some.injEq, Prod.mk.injEq] at H
    obtain ⟨rfl, rfl⟩ := H
    go_enter Try.func39, Try.ntmps39
    go_wp2_with (first | ((with_reducible refine gate_callee (f := 47) rfl ?_); refine gsl (some 8) Try.func47 #[.slice A0 l0.length c0] ?_; (with_reducible refine (r07_Check.calls k _ _ l0 t241 t242 _ ?side1 ?side2 A2.out).mono ?_); (case side1 => repeat (first | exact HR0.out | (with_reducible refine Kd.C_alloc ?_ _) | (with_reducible refine Kd.C_drewN ?_ _) | (with_reducible refine Kd.C_drew ?_))); (case side2 => exact HC0.out); rintro e w' ⟨rfl, ⟨nd, rfl⟩⟩; refine ⟨_, rfl, ?_⟩) | ((with_reducible refine gate_callee (f := 48) rfl ?_); refine gsl (some 15) Try.func48 #[.slice A0 l0.length c0] ?_; (with_reducible refine (r07_positions.calls k _ _ l0 t243 _ ?side1 ?side2 A4.out).mono ?_); (case side1 => repeat (first | exact HR0.out | (with_reducible refine Kd.C_alloc ?_ _) | (with_reducible refine Kd.C_drewN ?_ _) | (with_reducible refine Kd.C_drew ?_))); (case side2 => exact HC0.out); rintro e w7 ⟨v244, rfl, ho0, hb⟩; refine ⟨_, rfl, ?_⟩; have HO245 := Aside0.mk (Kd.R_lower ho0 (bsz HB.out)); replace HB := Aside0.mk (bst HB.out hb); (try clear hb); (try clear hb2); (try clear hk); (try clear hi); (try clear ho0); obtain ⟨Ao8, co8, eo8⟩ := Kd.R_slice HO245.out; subst eo8; have p246 : 0 ≤ ((l0.length : Int) : Int) := of_decide_eq_true (by first | (with_reducible assumption) | assumption); have q246 : (l0.length : Int) < (t243.length : Int) := of_decide_eq_true (by first | (with_reducible assumption) | assumption); obtain ⟨ad246, e246, hx246_0⟩ := Kd.at_int (Kd.R_reads' HO245.out).2.2 (l0.length : Int) p246 q246; cases e246; (try simp only [Go.IntWalk.toNatUp] at hx246_0); replace p246 := eq_true p246; replace q246 := eq_true q246))
    go_ret2
    exact bfin (bel HB.out)
   ·rw [if_neg c6] at H
    exact absurd H (by simp)
  ·rw [if_neg c5] at H
   exact absurd H (by simp)
 ·as_aux_lemma =>
  rw [if_neg c3] at H
  have c3b0 : (t241 == 0) = false := beq_eq_false_iff_ne.mpr c3
  have c3b1 : (t241 != 0) = true := bne_iff_ne.mpr c3
  simp only [Option.some.injEq, Prod.mk.injEq] at H
  obtain ⟨rfl, rfl⟩ := H
  go_enter Try.func39, Try.ntmps39
  go_wp2_with (first | ((with_reducible refine gate_callee (f := 47) rfl ?_); refine gsl (some 8) Try.func47 #[.slice A0 l0.length c0] ?_; (with_reducible refine (r07_Check.calls k _ _ l0 t241 t242 _ ?side1 ?side2 A2.out).mono ?_); (case side1 => repeat (first | exact HR0.out | (with_reducible refine Kd.C_alloc ?_ _) | (with_reducible refine Kd.C_drewN ?_ _) | (with_reducible refine Kd.C_drew ?_))); (case side2 => exact HC0.out); rintro e w' ⟨rfl, ⟨nd, rfl⟩⟩; refine ⟨_, rfl, ?_⟩))
  go_ret2
  exact bfin (bel HB.out)

end Go.Proofs.Ytmdcjmackhjchaa.P
end

section
/- Package shaft: the check of gaps by a library function over a function value, and the positions of the floors by a closure: what they answer, and that the Go code comes to just this. -/
namespace Go.Proofs.Ytmdcjmackhjchaa.P
open Go.RowKit Go.Proofs.YtmdcjmackhjchaaW.PrintWords Go.Proofs.YtmdcjmackhjchaaW.PrintLast Go.Proofs.YtmdcjmackhjchaaW.PrintMore
set_option linter.unusedVariables false
set_option linter.unusedSimpArgs false

def gbad (g : Int) : Bool := decide (g < 1) || decide (g > 1000)
/-- The first bad gap from i on, among d. -/
def sfb (xs : List Int) (i : Nat) : Nat → Int
 | 0 => -1
 | d + 1 => if gbad (rd xs i) = true then (i : Int) else sfb xs (i + 1) d
def shaft_Check.f (l0 : List Int) : Option (Int × Int) :=
 if l0.length < 1 then some (4, 0) else if l0.length ≥ 64 then some (4, 0) else
 if sfb l0 0 l0.length ≥ 0 then some (2, sfb l0 0 l0.length) else some (0, 0)
/-- The position of floor k. -/
def pos (l : List Int) (k : Nat) : Int := (l.take k).sum
def posns (l : List Int) : List Int := (List.range (l.length + 1)).map (pos l)
def shaft_Positions.f (l0 : List Int) : Option (List Int × Int) :=
 (shaft_Check.f l0).bind fun r => if r.1 = 0 then some (posns l0, 0) else some ([], r.1)

theorem bad_any (g : Int) (w : World) : Calls Try.prog 59 #[.int .i64 g] w fun e w' => e = .returned (.bool (gbad g)) ∧ w' = w := by
 unfold gbad
 by_cases h1 : g < 1
 ·go_enter Try.func59, Try.ntmps59
  go_wp2
  go_ret
  exact ⟨by simp [h1], rfl⟩
 ·by_cases h2 : g > 1000
  all_goals
   go_enter Try.func59, Try.ntmps59
   go_wp2
   go_ret
   exact ⟨by simp [h1, h2], rfl⟩

theorem ret_i {a b : Int} (h : a = b) : Ending.returned (.int .i64 a) = .returned (.int .i64 b) := by rw [h]

theorem index_any (A0 : Option Addr) (c0 : Nat) (l0 : List Int) (w : World) (hr0 : Kd.C (Kd.int .i64) w A0 l0.length l0) (hn : l0.length ≤ 1000) :
  Calls Try.prog 60 #[.slice A0 l0.length c0, .func (.func 59) #[] #[]] w fun e w' => e = .returned (.int .i64 (sfb l0 0 l0.length)) ∧ w' = w := by
 have HR := Aside0.mk hr0
 clear hr0
 obtain ⟨n, hN⟩ : ∃ n, n = l0.length := ⟨_, rfl⟩
 rw [← hN]
 rw [← hN] at hn
 have HN := Aside0.mk hN
 clear hN
 go_enter Try.func60, Try.ntmps60
 go_wp2
 go_loop [8] (fun v => ∃ k : Nat, k ≤ n ∧ v = .int .i64 k ∧ Aside0 (sfb l0 0 n = sfb l0 k (n - k))) (fun v => n - (intOf v).toNat)
 case atStart => exact ⟨0, Nat.zero_le _, rfl, ⟨rfl⟩⟩
 case round =>
  obtain ⟨k, hk, rfl, hs⟩ := hrel
  by_cases hlt : k < n
  ·obtain ⟨ad, e, hc⟩ := Kd.at_int HR.out (k : Int) (by omega) (by rw [← HN.out]; omega)
   subst e
   have hc' : w.cell? (ad.add k) = some (.int .i64 (rd l0 k)) := hc
   clear hc
   have hs2 : sfb l0 0 n = if gbad (rd l0 k) = true then (k : Int) else sfb l0 (k + 1) (n - (k + 1)) := by
    rw [hs.out, show n - k = (n - (k + 1)) + 1 from by omega, sfb]
   have HS := Aside0.mk hs2
   clear hs hs2
   cases hb : gbad (rd l0 k) with
   | true =>
    have HB := Aside0.mk hb
    clear hb
    go_wp2_with (go_at_call 59; refine (bad_any _ _).mono ?_; rintro e w' ⟨rfl, rfl⟩; simp only [HB.out])
    go_ret
    exact ⟨ret_i (by rw [HS.out, if_pos HB.out]), rfl⟩
   | false =>
    have HB := Aside0.mk hb
    clear hb
    go_wp2_with (go_at_call 59; refine (bad_any _ _).mono ?_; rintro e w' ⟨rfl, rfl⟩; simp only [HB.out])
    go_round
    case rel => exact ⟨k + 1, by omega, by go_num, ⟨by rw [HS.out, if_neg (by rw [HB.out]; simp)]⟩⟩
    case measure => simp [intOf]; omega
  ·have hkn : k = n := by omega
   subst hkn
   go_wp2
   go_ret
   exact ⟨ret_i (by rw [hs.out, show k - k = 0 from by omega, sfb]), rfl⟩

theorem shaft_Check.calls (A0 : Option Addr) (c0 : Nat) (l0 : List Int) (r1 : Int) (r2 : Int) (w : World) (hr0 : Kd.C (Kd.int .i64) w A0 l0.length l0) (hc0 : l0.length ≤ c0) (h : shaft_Check.f l0 = some (r1, r2)) :
  Calls Try.prog 51 #[.slice A0 l0.length c0] w fun e w' => e = .returned (.tuple #[.int .i64 r1, .int .i64 r2]) ∧ Below w.heap.size w w' := by
 have HR := Aside0.mk hr0
 clear hr0 hc0
 unfold shaft_Check.f at h
 by_cases h1 : l0.length < 1
 ·rw [if_pos h1] at h
  simp only [Option.some.injEq, Prod.mk.injEq] at h
  obtain ⟨rfl, rfl⟩ := h
  have h1' : (l0.length : Int) < 1 := by omega
  clear h1
  go_enter Try.func51, Try.ntmps51
  go_wp2
  go_ret2
  exact ⟨rfl, Below.refl _ _⟩
 ·rw [if_neg h1] at h
  have h1' : ¬ (l0.length : Int) < 1 := by omega
  by_cases h2 : l0.length ≥ 64
  ·rw [if_pos h2] at h
   simp only [Option.some.injEq, Prod.mk.injEq] at h
   obtain ⟨rfl, rfl⟩ := h
   have h2' : (64 : Int) ≤ (l0.length : Int) := by omega
   clear h1 h2
   go_enter Try.func51, Try.ntmps51
   go_wp2
   go_ret2
   exact ⟨rfl, Below.refl _ _⟩
  ·rw [if_neg h2] at h
   have h2' : ¬ (64 : Int) ≤ (l0.length : Int) := by omega
   have HX := Aside0.mk (fun W (hr : Kd.C (Kd.int .i64) W A0 l0.length l0) => index_any A0 c0 l0 W hr (by omega))
   obtain ⟨q, hq⟩ : ∃ q, q = sfb l0 0 l0.length := ⟨_, rfl⟩
   rw [← hq] at h HX
   clear h1 h2 hq
   by_cases h3 : q ≥ 0
   ·rw [if_pos h3] at h
    simp only [Option.some.injEq, Prod.mk.injEq] at h
    obtain ⟨rfl, rfl⟩ := h
    go_enter Try.func51, Try.ntmps51
    go_wp2_with (go_at_call 60; refine (HX.out _ HR.out).mono ?_; rintro e w' ⟨rfl, rfl⟩)
    go_ret2
    exact ⟨rfl, Below.refl _ _⟩
   ·rw [if_neg h3] at h
    simp only [Option.some.injEq, Prod.mk.injEq] at h
    obtain ⟨rfl, rfl⟩ := h
    go_enter Try.func51, Try.ntmps51
    go_wp2_with (go_at_call 60; refine (HX.out _ HR.out).mono ?_; rintro e w' ⟨rfl, rfl⟩)
    go_ret2
    exact ⟨rfl, Below.refl _ _⟩

/-! ### the positions, in plain Lean -/
theorem sfb_good (l : List Int) : ∀ (d i : Nat), sfb l i d < 0 → ∀ j, i ≤ j → j < i + d → 1 ≤ rd l j ∧ rd l j ≤ 1000 := by
 intro d
 induction d with
 | zero => intro i _ j h1 h2; omega
 | succ d ih =>
  intro i h j h1 h2
  rw [sfb] at h
  split at h
  ·omega
  ·rename_i hb
   by_cases e : j = i
   ·subst e
    simp [gbad] at hb
    omega
   ·exact ih (i + 1) h j (by omega) (by omega)
theorem pos_succ (l : List Int) (k : Nat) (h : k < l.length) : pos l (k + 1) = pos l k + rd l k := by
 unfold pos rd
 have e := List.take_succ_eq_append_getElem h
 rw [Int.toNat_natCast, List.getD_eq_getElem?_getD, List.getElem?_eq_getElem h, e, List.sum_append]
 simp
theorem pos_bound (l : List Int) (hg : ∀ j : Nat, j < l.length → 1 ≤ rd l j ∧ rd l j ≤ 1000) (k : Nat) (h : k ≤ l.length) : (k : Int) ≤ pos l k ∧ pos l k ≤ 1000 * k := by
 induction k with
 | zero => simp [pos]
 | succ k ih =>
  have := ih (by omega)
  have := hg k (by omega)
  rw [pos_succ l k (by omega)]
  omega
/-- The row behind the rounds below k. -/
def mix (l : List Int) (k : Nat) : List Int := (List.range (l.length + 1)).map fun i => if i < k then pos l i else rd l ((i : Int) - 1)
theorem mix_len (l : List Int) (k : Nat) : (mix l k).length = l.length + 1 := by simp [mix]
theorem mix_one (l : List Int) : mix l 1 = 0 :: l := by
 apply List.ext_getElem
 ·simp [mix]
 ·intro i h1 h2
  cases i with
  | zero => simp [mix, pos]
  | succ i =>
   simp [mix, rd]
   rw [List.getElem?_eq_getElem (by simpa using h2)]
   rfl
theorem mix_all (l : List Int) : mix l (l.length + 1) = posns l := by
 unfold mix posns
 apply List.map_congr_left
 intro i hi
 rw [if_pos (by simpa using hi)]
theorem mix_set (l : List Int) (k : Nat) (hk : 1 ≤ k) (h : k ≤ l.length) : (mix l k).set k (pos l k) = mix l (k + 1) := by
 apply List.ext_getElem
 ·simp [mix]
 ·intro i h1 h2
  rw [List.getElem_set]
  simp only [mix, List.getElem_map, List.getElem_range]
  by_cases e : k = i
  ·subst e; simp
  ·rw [if_neg e]
   by_cases h3 : i < k
   ·rw [if_pos h3, if_pos (by omega)]
   ·rw [if_neg h3, if_neg (by omega)]
theorem mix_rd (l : List Int) (k : Nat) (hk : 1 ≤ k) (h : k ≤ l.length) : rd (mix l k) k = rd l ((k : Int) - 1) := by
 conv => lhs; unfold rd
 rw [Int.toNat_natCast, List.getD_eq_getElem?_getD]
 simp [mix, show k < l.length + 1 by omega]

theorem climb_any (B : Nat) (g a : Int) (w : World) (hB : w.heap[B]? = some (.cells #[.int .i64 a] 3 (0, 0))) (ha : -1000000 ≤ a) (ha2 : a ≤ 1000000) (hg : -1000000 ≤ g) (hg2 : g ≤ 1000000) :
  Calls Try.prog 52 #[.int .i64 g, .pointer (some ⟨B, 0, none⟩)] w fun e w' => e = .returned (.int .i64 (a + g)) ∧ w'.heap[B]? = some (.cells #[.int .i64 (a + g)] 3 (0, 0)) ∧ KeepBut w w' B none ∧ (∀ w0, Below w0.heap.size w0 w → w0.heap.size ≤ B → Below w0.heap.size w0 w') := by
 have HB := Aside0.mk hB
 have hc := blk_cell hB 0
 have hf := blk_frozen hB 0
 simp at hc
 clear hB
 go_enter Try.func52, Try.ntmps52
 go_wp2
 go_ret
 exact ⟨rfl, blk_put HB.out 0 _ rfl, (KeepBut.refl w B none).set_ 0 _, fun w0 h1 h2 => below_set h1 h2⟩

theorem positions_bad (A0 : Option Addr) (c0 : Nat) (l0 : List Int) (r1 r2 : Int) (w : World) (hr0 : Kd.C (Kd.int .i64) w A0 l0.length l0) (hc0 : l0.length ≤ c0) (h : shaft_Check.f l0 = some (r1, r2)) (hr : r1 ≠ 0) :
  Calls Try.prog 42 #[.slice A0 l0.length c0] w fun e w' => e = .returned (.tuple #[.slice none 0 0, .int .i64 r1]) ∧ Below w.heap.size w w' := by
 have HC := Aside0.mk (shaft_Check.calls A0 c0 l0 r1 r2 w hr0 hc0 h)
 have hb : (r1 != 0) = true := bne_iff_ne.mpr hr
 clear hr0 h hr
 go_enter Try.func42, Try.ntmps42
 go_wp2_with (go_at_call 51; refine HC.out.mono ?_; rintro e w' ⟨rfl, hb2⟩)
 go_ret2
 exact ⟨rfl, hb2⟩

set_option maxRecDepth 100000 in
theorem positions_good (A0 : Option Addr) (c0 : Nat) (l0 : List Int) (r2 : Int) (w : World) (hr0 : Kd.C (Kd.int .i64) w A0 l0.length l0) (hc0 : l0.length ≤ c0) (h : shaft_Check.f l0 = some (0, r2)) :
  Calls Try.prog 42 #[.slice A0 l0.length c0] w fun e w' => ∃ v0_ : Value, e = .returned (.tuple #[v0_, .int .i64 0]) ∧ Kd.R (Kd.int .i64) 3 w' w.heap.size (fun _ => True) v0_ (posns l0) ∧ Below w.heap.size w w' := by
 have HC := Aside0.mk (shaft_Check.calls A0 c0 l0 0 r2 w hr0 hc0 h)
 have HR := Aside0.mk hr0
 have hmf : ∀ (fn : Fn) (first cap : Array Value) (w : World), (Instr.makeFunc fn first cap).run Try.prog w = .ok (.func fn first cap) w := fun _ _ _ _ => rfl
 obtain ⟨hn1, hn2, hgood⟩ : 1 ≤ l0.length ∧ l0.length < 64 ∧ ∀ j : Nat, j < l0.length → 1 ≤ rd l0 j ∧ rd l0 j ≤ 1000 := by
  unfold shaft_Check.f at h
  by_cases h1 : l0.length < 1
  ·rw [if_pos h1] at h; simp at h
  ·rw [if_neg h1] at h
   by_cases h2 : l0.length ≥ 64
   ·rw [if_pos h2] at h; simp at h
   ·rw [if_neg h2] at h
    by_cases h3 : sfb l0 0 l0.length ≥ 0
    ·rw [if_pos h3] at h; simp at h
    ·exact ⟨by omega, by omega, fun j hj => sfb_good l0 l0.length 0 (by omega) j (by omega) (by omega)⟩
 have HG := Aside0.mk hgood
 obtain ⟨ad, hA, hcell⟩ := (Kd.reads_of_C (d := (0 : Int)) hr0).2.2 (by omega)
 subst hA
 have HCE := Aside0.mk hcell
 clear hr0 h hgood hc0 hcell
 obtain ⟨n, hN⟩ : ∃ n, n = l0.length := ⟨_, rfl⟩
 have HN := Aside0.mk hN
 rw [← hN] at hn1 hn2 HC ⊢
 clear hN
 obtain ⟨i0, hi0, hz0, hz1, hz2⟩ := info_parts info3
 go_enter Try.func42, Try.ntmps42
 go_wp2_with (first | (go_at_call 51; refine HC.out.mono ?_; rintro e w1 ⟨rfl, hb⟩; have HB := Aside0.mk hb; clear hb) | (at_builtin; refine wpList_append_grows _ rfl (.tmp 21) (.tmp 22) 22 rfl 3 i0 (.int .i64 0) 1 8 Try.underlying22 hi0 hz0 hz1 hz2 rfl (by decide) (some ⟨w1.heap.size + 1, 0, none⟩) 1 1 [.int .i64 0] rfl (fun h => by cases h) rfl ?olds ad n c0 (l0.map (Value.int .i64)) rfl (by rw [HN.out]; simp) ?news ?one (by omega) (by unfold maxLen; omega) (by omega) ?next))
 case olds =>
  intro b hb j u hu
  cases hb
  match j, hu with
  | 0, hu => simp at hu; subst hu; simp [Addr.add]
 case news =>
  intro j u hu
  have hj : j < l0.length := by have := (List.getElem?_eq_some_iff.1 hu).1; simpa using this
  have hc := HCE.out j (by omega)
  rw [List.getElem?_map, List.getElem?_eq_getElem hj] at hu
  simp at hu
  subst hu
  rw [List.getD_eq_getElem?_getD, List.getElem?_eq_getElem hj] at hc
  exact pw_cell_below (below_alloc (below_alloc HB.out _) _) hc
 case one => intro u hu; obtain ⟨x, _, rfl⟩ := List.mem_map.1 hu; rfl
 case next =>
  intro v' w2 hown hgrow
  obtain ⟨g, cap, rfl⟩ : ∃ g cap, v' = .slice (some ⟨g, 0, none⟩) (1 + n) cap := by
   rcases hown.2 with ⟨_, h⟩ | ⟨g, cap', _, h, _⟩
   ·simp at h
   ·exact ⟨g, cap', h⟩
  have hg2 : w1.heap.size + 2 ≤ g := by have := own_base hown g rfl; simpa using this
  have hB0 : w.heap.size ≤ w1.heap.size := HB.out.size
  have BK := Aside0.mk (blk_grown (blk_alloc (blk_new w1 (.cells #[.int .i64 0] 3)) (.cells #[.int .i64 0] 79)) hgrow (by simp))
  have OW := Aside0.mk (show Kd.R (Kd.int .i64) 3 w2 w.heap.size (fun _ => True) (.slice (some ⟨g, 0, none⟩) (1 + n) cap) (mix l0 1) from Kd.R_of_own (by rw [mix_one, List.length_cons, ← HN.out, show n + 1 = 1 + n from by omega]; exact own_weaken (base' := w.heap.size) hown (by first | omega | (simp; omega))) (fun _ _ => trivial))
  have BE := Aside0.mk (Below.grown (below_alloc (below_alloc HB.out (.cells #[.int .i64 0] 3)) (.cells #[.int .i64 0] 79)) hgrow (by simp; omega) (fun k h => by cases h))
  clear hown hgrow
  go_wp2
  go_loopw [10] (fun v wr => ∃ k : Nat, 1 ≤ k ∧ k ≤ n + 1 ∧ v = .int .i64 k ∧ Aside0 (wr.heap[w1.heap.size]? = some (.cells #[.int .i64 (pos l0 (k - 1))] 3 (0, 0))) ∧ Aside0 (Kd.R (Kd.int .i64) 3 wr w.heap.size (fun _ => True) (.slice (some ⟨g, 0, none⟩) (1 + n) cap) (mix l0 k)) ∧ Aside0 (Below w.heap.size w wr)) (fun v _ => n + 1 - (intOf v).toNat)
  case atStart => exact ⟨1, by omega, by omega, rfl, ⟨by simpa [pos] using BK.out⟩, OW, BE⟩
  case round =>
   obtain ⟨k, hk1, hk2, rfl, K1, K2, K3⟩ := hrel
   by_cases hlt : k < 1 + n
   ·have K2' := Aside0.mk (show Kd.R (Kd.int .i64) 3 wr w.heap.size (fun k_ => k_ ≠ w1.heap.size) (.slice (some ⟨g, 0, none⟩) (1 + n) cap) (mix l0 k) from Kd.R_of_own (Kd.own_of_R K2.out) (fun k_ h_ => by simp [Value.ownBlock] at h_; omega))
    have hc : wr.cell? ⟨g, k, none⟩ = some (.int .i64 (rd l0 ((k : Int) - 1))) := by
     have ho : wr.ownsRow w.heap.size 3 1 (.slice (some ⟨g, 0, none⟩) (1 + n) cap) (1 + n) (nums .i64 (mix l0 k)) := by have h := Kd.own_of_R K2.out; rw [mix_len, ← HN.out, show n + 1 = 1 + n from by omega] at h; exact h
     have := (own_at ho (k : Int) (by omega) (by omega)).1
     rw [mix_rd l0 k hk1 (by rw [← HN.out]; omega)] at this
     simpa using this
    have hb := HG.out (k - 1) (by rw [← HN.out]; omega)
    rw [show ((k - 1 : Nat) : Int) = (k : Int) - 1 from by omega] at hb
    have hp := pos_bound l0 HG.out (k - 1) (by rw [← HN.out]; omega)
    have hps := pos_succ l0 (k - 1) (by rw [← HN.out]; omega)
    rw [show k - 1 + 1 = k from by omega, show ((k - 1 : Nat) : Int) = (k : Int) - 1 from by omega] at hps
    have HPS := Aside0.mk hps
    clear hps
    have h0 : (0 : Int) ≤ (k : Int) := by omega
    have h1 : (k : Int) < 1 + (n : Int) := by omega
    go_wp2_with (go_at_call 52; refine (climb_any w1.heap.size _ _ _ K1.out (by omega) (by omega) (by omega) (by omega)).mono ?_; rintro e w3 ⟨rfl, hB3, hK3, hL3⟩; rw [← HPS.out] at hB3 ⊢; have M1 := Aside0.mk hB3; have M2 := Aside0.mk (Kd.R_keep (ok := fun k_ => k_ ≠ w1.heap.size) K2'.out hK3 (fun _ h => h)); have M3 := Aside0.mk (hL3 w K3.out hB0); clear hB3 hK3 hL3 hc; have ho : w3.ownsRow w.heap.size 3 1 (.slice (some ⟨g, 0, none⟩) (1 + n) cap) (1 + n) (nums .i64 (mix l0 k)) := (by have h := Kd.own_of_R M2.out; rw [mix_len, ← HN.out, show n + 1 = 1 + n from by omega] at h; exact h); have hc := (own_at ho (k : Int) (by omega) (by omega)).1; have hf := (own_at ho (k : Int) (by omega) (by omega)).2; rw [Int.toNat_natCast] at hc hf; clear ho)
    go_roundw
    case rel => exact ⟨k + 1, by omega, by omega, by go_num, ⟨by simpa using blk_far M1.out (p := ⟨g, k, none⟩) (by simp; omega) _⟩, ⟨by have h := Kd.R_putn M2.out (k : Int) (pos l0 k); rw [Int.toNat_natCast, mix_set l0 k hk1 (by rw [← HN.out]; omega)] at h; exact Kd.R_mono h (fun _ _ => trivial)⟩, ⟨below_set M3.out (by omega)⟩⟩
    case measure => simp [intOf]; omega
   ·have hkn : k = l0.length + 1 := by rw [← HN.out]; omega
    have hlt' : ¬ (k : Int) < 1 + (n : Int) := by omega
    go_wp2
    go_ret2
    exact ⟨_, rfl, by have h := K2.out; rw [hkn, mix_all] at h; exact h, K3.out⟩

theorem shaft_Positions.calls (A0 : Option Addr) (c0 : Nat) (l0 : List Int) (r1 : List Int) (r2 : Int) (w : World) (hr0 : Kd.C (Kd.int .i64) w A0 l0.length l0) (hc0 : l0.length ≤ c0) (h : shaft_Positions.f l0 = some (r1, r2)) :
  Calls Try.prog 42 #[.slice A0 l0.length c0] w fun e w' => ∃ v0_ : Value, e = .returned (.tuple #[v0_, .int .i64 r2]) ∧ Kd.R (Kd.int .i64) 3 w' w.heap.size (fun _ => True) v0_ r1 ∧ Below w.heap.size w w' := by
 unfold shaft_Positions.f at h
 obtain ⟨⟨x, y⟩, hx, h⟩ := Option.bind_eq_some_iff.mp h
 dsimp only at h
 by_cases h0 : x = 0
 ·subst h0
  rw [if_pos rfl] at h
  simp only [Option.some.injEq, Prod.mk.injEq] at h
  obtain ⟨rfl, rfl⟩ := h
  exact positions_good A0 c0 l0 y w hr0 hc0 hx
 ·rw [if_neg h0] at h
  simp only [Option.some.injEq, Prod.mk.injEq] at h
  obtain ⟨rfl, rfl⟩ := h
  refine (positions_bad A0 c0 l0 x y w hr0 hc0 hx h0).mono ?_
  rintro e w' ⟨rfl, hb⟩
  exact ⟨_, rfl, Kd.R_nil _ _ _ _ _, hb⟩
end Go.Proofs.Ytmdcjmackhjchaa.P
end

section
-- Printed by wip/myprint.py of this repo (over the kit's printer). Not trusted: Lean checks it.
namespace Go.Proofs.Ytmdcjmackhjchaa.P
open Go.RowKit Go.Proofs.YtmdcjmackhjchaaW.PrintWords Go.Proofs.YtmdcjmackhjchaaW.PrintLast Go.Proofs.YtmdcjmackhjchaaW.PrintMore
attribute [local go_sem] cell_same1 cell_some1 ix27_0 ix27_1 ix27_2
attribute [local go_sem] max2_int min2_int max_two min_two max_three min_three max_four min_four   -- for this text's walks alone
set_option linter.unusedVariables false
set_option linter.unusedSimpArgs false

/-! ### shaft_Height: function 27 -/
def shaft_Height.f (l0 : List Int) : Option (Int × Int) := (shaft_Positions.f l0).bind fun bt130 => (if bt130.2 = 0 then (if 0 ≤ (wrap64 ((bt130.1.length : Int) - 1)) then (if (wrap64 ((bt130.1.length : Int) - 1)) < (bt130.1.length : Int) then (some (rd bt130.1 (wrap64 ((bt130.1.length : Int) - 1)), 0)) else (none)) else (none)) else (some (0, bt130.2)))
set_option maxHeartbeats 8000000 in
set_option maxRecDepth 100000 in
theorem shaft_Height.calls (A0 : Option Addr) (c0 : Nat) (l0 : List Int) (r1 : Int) (r2 : Int) (w : World) (hr0 : Kd.C (Kd.int .i64) w A0 l0.length l0) (hc0 : l0.length ≤ c0) (h : shaft_Height.f l0 = some (r1, r2)) :
  Calls Try.prog 27 #[.slice A0 l0.length c0] w fun e w' => e = .returned (.tuple #[.int .i64 r1, .int .i64 r2]) ∧ Below w.heap.size w w' := by
 have HR0 := Aside0.mk hr0
 have HC0 := Aside0.mk hc0
 clear hr0 hc0
 have HB := Aside0.mk (Below.refl w.heap.size w)
 have H : ((shaft_Positions.f l0).bind fun bt130 => (if bt130.2 = 0 then (if 0 ≤ (wrap64 ((bt130.1.length : Int) - 1)) then (if (wrap64 ((bt130.1.length : Int) - 1)) < (bt130.1.length : Int) then (some (rd bt130.1 (wrap64 ((bt130.1.length : Int) - 1)), 0)) else (none)) else (none)) else (some (0, bt130.2)))) = some (r1, r2) := h
 clear h
 replace H := Option.bind_eq_some_iff.mp H
 obtain ⟨⟨t130, t131⟩, A20, H⟩ := H
 replace H : (if t131 = 0 then (if 0 ≤ (wrap64 ((t130.length : Int) - 1)) then (if (wrap64 ((t130.length : Int) - 1)) < (t130.length : Int) then (some (rd t130 (wrap64 ((t130.length : Int) - 1)), 0)) else (none)) else (none)) else (some (0, t131))) = some (r1, r2) := H
 have A2 := Aside0.mk A20
 clear A20
 by_cases c3 : t131 = 0
 ·as_aux_lemma =>
  rw [if_pos c3] at H
  have c3b0 : (t131 == 0) = true := beq_iff_eq.mpr c3
  have c3b1 : (t131 != 0) = false := bne_eq_false_iff_eq.mpr c3
  clear c3
  obtain ⟨ji4, hji4⟩ : ∃ j_ : Int, (wrap64 ((t130.length : Int) - 1)) = j_ := ⟨_, rfl⟩
  replace H : (if 0 ≤ (ji4) then (if (ji4) < (t130.length : Int) then (some (rd t130 (ji4), 0)) else (none)) else (none)) = some (r1, r2) := by first | (rw [hji4] at H; exact H) | (simp only [hji4] at H ⊢; exact H)
  (try rw [hji4] at A2)
  have hji4w : (IntKind.i64.wrap ((t130.length : Int) - 1)) = ji4 := (i64_w _).trans hji4
  by_cases c5 : 0 ≤ (ji4)
  ·as_aux_lemma =>
   rw [if_pos c5] at H
   have c5b0 : decide (0 ≤ (ji4)) = true := decide_eq_true c5
   clear c5
   by_cases c6 : (ji4) < (t130.length : Int)
   ·as_aux_lemma =>
    rw [if_pos c6] at H
    have c6b0 : decide ((ji4) < (t130.length : Int)) = true := decide_eq_true c6
    clear c6
    simp only [Option.some.injEq, Prod.mk.injEq] at H
    obtain ⟨rfl, rfl⟩ := H
    go_enter Try.func27, Try.ntmps27
    go_wp2_with (first | ((with_reducible refine gate_callee (f := 42) rfl ?_); refine gsl (some 8) Try.func42 #[.slice A0 l0.length c0] ?_; (with_reducible refine (shaft_Positions.calls _ _ l0 t130 t131 _ ?side1 ?side2 A2.out).mono ?_); (case side1 => repeat (first | exact HR0.out | (with_reducible refine Kd.C_alloc ?_ _) | (with_reducible refine Kd.C_drewN ?_ _) | (with_reducible refine Kd.C_drew ?_))); (case side2 => exact HC0.out); rintro e w7 ⟨v132, rfl, ho0, hb⟩; refine ⟨_, rfl, ?_⟩; have HO133 := Aside0.mk (Kd.R_lower ho0 (bsz HB.out)); replace HB := Aside0.mk (bst HB.out hb); (try clear hb); (try clear hb2); (try clear hk); (try clear hi); (try clear ho0); obtain ⟨Ao8, co8, eo8⟩ := Kd.R_slice HO133.out; subst eo8; have p134 : 0 ≤ ((ji4) : Int) := of_decide_eq_true (by first | (with_reducible assumption) | assumption); have q134 : (ji4) < (t130.length : Int) := of_decide_eq_true (by first | (with_reducible assumption) | assumption); obtain ⟨ad134, e134, hx134_0⟩ := Kd.at_int (Kd.R_reads' HO133.out).2.2 (ji4) p134 q134; cases e134; replace p134 := eq_true p134; replace q134 := eq_true q134))
    go_ret2
    exact ⟨by first | rfl | (simp [errW_none, errW_some] <;> rfl) | (simp only [← hji4]; first | rfl | (simp [errW_none, errW_some] <;> rfl)) | (simp [*, errW_none, errW_some] <;> rfl), bel HB.out⟩
   ·rw [if_neg c6] at H
    exact absurd H (by simp)
  ·rw [if_neg c5] at H
   exact absurd H (by simp)
 ·as_aux_lemma =>
  rw [if_neg c3] at H
  have c3b0 : (t131 == 0) = false := beq_eq_false_iff_ne.mpr c3
  have c3b1 : (t131 != 0) = true := bne_iff_ne.mpr c3
  simp only [Option.some.injEq, Prod.mk.injEq] at H
  obtain ⟨rfl, rfl⟩ := H
  go_enter Try.func27, Try.ntmps27
  go_wp2_with (first | ((with_reducible refine gate_callee (f := 42) rfl ?_); refine gsl (some 8) Try.func42 #[.slice A0 l0.length c0] ?_; (with_reducible refine (shaft_Positions.calls _ _ l0 t130 t131 _ ?side1 ?side2 A2.out).mono ?_); (case side1 => repeat (first | exact HR0.out | (with_reducible refine Kd.C_alloc ?_ _) | (with_reducible refine Kd.C_drewN ?_ _) | (with_reducible refine Kd.C_drew ?_))); (case side2 => exact HC0.out); rintro e w9 ⟨v132, rfl, ho0, hb⟩; refine ⟨_, rfl, ?_⟩; have HO133 := Aside0.mk (Kd.R_lower ho0 (bsz HB.out)); replace HB := Aside0.mk (bst HB.out hb); (try clear hb); (try clear hb2); (try clear hk); (try clear hi); (try clear ho0)))
  go_ret2
  exact bfin (bel HB.out)

end Go.Proofs.Ytmdcjmackhjchaa.P
end

section
/- Package shaft and its reference, as far as heights go: plain Lean, no program. -/
namespace Go.Proofs.Ytmdcjmackhjchaa.P.Sh
open Go.RowKit Go.Proofs.Ytmdcjmackhjchaa.P Go.Proofs.YtmdcjmackhjchaaW.PrintWords Go.Proofs.YtmdcjmackhjchaaW.PrintLast Go.Proofs.YtmdcjmackhjchaaW.PrintMore
set_option linter.unusedSimpArgs false
set_option linter.unusedVariables false

theorem wsm (x : Int) (h : -1000000000000 ≤ x) (h2 : x ≤ 1000000000000) : wrap64 x = x := by unfold wrap64; omega

/-- Gaps that are valid. -/
def gok (l : List Int) : Prop := 1 ≤ l.length ∧ l.length < 64 ∧ ∀ j : Nat, j < l.length → 1 ≤ rd l j ∧ rd l j ≤ 1000

theorem sfb_all (l : List Int) : ∀ (d i : Nat), (∀ j, i ≤ j → j < i + d → 1 ≤ rd l j ∧ rd l j ≤ 1000) → sfb l i d = -1 := by
 intro d
 induction d with
 | zero => intro i _; rfl
 | succ d ih =>
  intro i h
  have := h i (by omega) (by omega)
  rw [sfb, if_neg (by simp [gbad]; omega)]
  exact ih (i + 1) (fun j h1 h2 => h j (by omega) (by omega))
theorem check_ok (l : List Int) (h : gok l) : shaft_Check.f l = some (0, 0) := by
 obtain ⟨h1, h2, h3⟩ := h
 unfold shaft_Check.f
 rw [if_neg (by omega), if_neg (by omega), sfb_all l l.length 0 (fun j _ hj => h3 j (by omega)), if_neg (by omega)]

theorem posns_len (l : List Int) : (posns l).length = l.length + 1 := by simp [posns]
theorem posns_rd (l : List Int) (k : Nat) (h : k ≤ l.length) : rd (posns l) k = pos l k := by
 unfold rd
 rw [Int.toNat_natCast, List.getD_eq_getElem?_getD]
 simp [posns, show k < l.length + 1 by omega]
theorem pos_top (l : List Int) (h : gok l) (k : Nat) (hk : k ≤ l.length) : 0 ≤ pos l k ∧ pos l k ≤ 64000 := by
 have := pos_bound l h.2.2 k hk
 have := h.2.1
 omega

theorem positions_ok (l : List Int) (h : gok l) : shaft_Positions.f l = some (posns l, 0) := by
 unfold shaft_Positions.f
 rw [check_ok l h]
 rfl

/-! ### the reference -/
theorem ref_Check_loop (l : List Int) (hl : l.length ≤ 1000) : ∀ (d k i : Nat), i + d = l.length →
  r07_Check.l0 (k + d + 1) l i = some (if sfb l i d ≥ 0 then (2, sfb l i d) else (0, 0)) := by
 intro d
 induction d with
 | zero =>
  intro k i hi
  rw [r07_Check.l0, if_neg (by omega), sfb, if_neg (by omega)]
 | succ d ih =>
  intro k i hi
  rw [show k + (d + 1) + 1 = (k + d + 1) + 1 from by omega, r07_Check.l0, if_pos (by omega), if_pos (by omega), sfb]
  by_cases h1 : rd l i < 1
  ·rw [if_pos h1, if_pos (show gbad (rd l i) = true by simp [gbad, h1]), if_pos (by omega)]
  ·rw [if_neg h1]
   by_cases h2 : rd l i > 1000
   ·rw [if_pos h2, if_pos (show gbad (rd l i) = true by simp [gbad]; omega), if_pos (by omega)]
   ·rw [if_neg h2, if_neg (show ¬ gbad (rd l i) = true by simp [gbad]; omega), wsm _ (by omega) (by omega), show (i : Int) + 1 = ((i + 1 : Nat) : Int) from by omega]
    exact ih k (i + 1) (by omega)
theorem ref_Check_eq (l : List Int) (k : Nat) : r07_Check.f (k + 70) l = shaft_Check.f l := by
 unfold r07_Check.f shaft_Check.f
 rw [show k + 70 = (k + 69) + 1 from rfl]
 by_cases h1 : l.length < 1
 ·rw [if_pos h1, if_pos (by omega), r07_Check.j0, if_pos rfl]
 ·rw [if_neg h1, if_neg (by omega), r07_Check.j0]
  by_cases h2 : l.length ≥ 64
  ·rw [if_pos h2, decide_eq_true (by omega), if_pos rfl]
  ·rw [if_neg h2, decide_eq_false (by omega), if_neg (by decide)]
   have e := ref_Check_loop l (by omega) l.length (k + 68 - l.length) 0 (by omega)
   rw [show k + 68 - l.length + l.length + 1 = k + 69 from by omega, show ((0 : Nat) : Int) = 0 from rfl] at e
   rw [e]
   split <;> rfl

theorem ref_pos_loop (l : List Int) (h : gok l) : ∀ (d k i : Nat), i + d = l.length →
  r07_positions.l0 (k + d + 1) l ((List.range (i + 1)).map (pos l)) i = some (posns l) := by
 intro d
 induction d with
 | zero =>
  intro k i hi
  rw [r07_positions.l0, if_neg (by omega)]
  unfold posns
  rw [show i = l.length from by omega]
 | succ d ih =>
  intro k i hi
  have hb := pos_top l h i (by omega)
  have hg := h.2.2 i (by omega)
  have hl := h.2.1
  have hr : rd ((List.range (i + 1)).map (pos l)) i = pos l i := by
   unfold rd
   rw [Int.toNat_natCast, List.getD_eq_getElem?_getD]
   simp
  rw [show k + (d + 1) + 1 = (k + d + 1) + 1 from by omega, r07_positions.l0, if_pos (by omega), if_pos (by omega), if_pos (by simp; omega), if_pos (by simp; omega), hr, wsm _ (by omega) (by omega), wsm _ (by omega) (by omega), ← pos_succ l i (by omega)]
  have e := ih k (i + 1) (by omega)
  rw [List.range_succ, List.map_append] at e
  rw [show (i : Int) + 1 = ((i + 1 : Nat) : Int) from by omega]
  exact e
theorem ref_positions_eq (l : List Int) (h : gok l) (k : Nat) : r07_positions.f (k + 70) l = some (posns l) := by
 have hl := h.2.1
 have e := ref_pos_loop l h l.length (k + 69 - l.length) 0 (by omega)
 rw [show k + 69 - l.length + l.length + 1 = k + 70 from by omega, show ((0 : Nat) : Int) = 0 from rfl] at e
 unfold r07_positions.f
 rw [← e]
 rfl
theorem ref_Height_ok (l : List Int) (h : gok l) (k : Nat) : r07_Height.f (k + 70) l = some (pos l l.length, 0) := by
 unfold r07_Height.f
 rw [ref_Check_eq, check_ok l h, Option.bind_some, if_pos rfl, ref_positions_eq l h, Option.bind_some, if_pos (by omega), if_pos (by rw [posns_len]; omega), posns_rd l l.length (by omega)]
theorem Height_ok (l : List Int) (h : gok l) : shaft_Height.f l = some (pos l l.length, 0) := by
 have hl := h.2.1
 unfold shaft_Height.f
 rw [positions_ok l h, Option.bind_some, if_pos rfl]
 dsimp only
 rw [posns_len, wsm _ (by omega) (by omega), if_pos (by omega), if_pos (by omega), show (((l.length + 1 : Nat) : Int) - 1) = ((l.length : Nat) : Int) from by omega, posns_rd l l.length (by omega)]
end Go.Proofs.Ytmdcjmackhjchaa.P.Sh
end
