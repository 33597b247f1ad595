-- Printed by wip/myprint.py of this repo (over the kit's printer). Not trusted: Lean checks it.
import Derived.Test.YtlkphdcfgaolnaaP0
namespace Go.Proofs.Ytlkphdcfgaolnaa.P
open Go.RowKit Go.Proofs.YtlkphdcfgaolnaaW.PrintWords Go.Proofs.YtlkphdcfgaolnaaW.PrintLast Go.Proofs.YtlkphdcfgaolnaaW.PrintMore
attribute [local go_sem] cell_same1 cell_some1
attribute [local go_sem] max2_int min2_int max_two min_two max_three min_three max_four min_four   -- for this text's walks alone
set_option linter.unusedVariables false
set_option linter.unusedSimpArgs false

/-! ### r07_positions: function 56 -/
def r07_positions.l0 : Nat → List Int → List Int → Int → Option (List Int)
 | 0, _, _, _ => none
 | k + 1, x0, x3, x4 => if x4 < (x0.length : Int) then (if 0 ≤ x4 then (if x4 < (x3.length : Int) then (if x3.length < 17592186044416 then (r07_positions.l0 k x0 (x3 ++ [wrap64 ((rd x3 x4) + (rd x0 x4))]) (wrap64 (x4 + 1))) else (none)) else (none)) else (none)) else (some x3)
def r07_positions.f (k : Nat) (l0 : List Int) : Option (List Int) := r07_positions.l0 k l0 (([0] : List Int)) 0
theorem r07_positions.mono_l : ∀ k, (∀ y0 y1 y2, LeO (r07_positions.l0 k y0 y1 y2) (r07_positions.l0 (k + 1) y0 y1 y2))
 | 0 => fun _ _ _ r h => by simp [r07_positions.l0] at h
 | k + 1 => by
  have ih0 := r07_positions.mono_l k
  ·intro y0 y1 y2
   unfold r07_positions.l0
   repeat' first
   | (with_reducible exact ih0 _ _ _)
   | (with_reducible exact LeO.refl _)
   | (with_reducible exact LeO.none _)
   | (with_reducible refine LeO.ite ?_ ?_)
   | (with_reducible refine LeO.bind ?_ (fun _ => ?_))
   | exact ih0 _ _ _
   | exact LeO.none _
   | refine LeO.ite ?_ ?_
   | refine LeO.bind ?_ (fun _ => ?_)
theorem r07_positions.mono : ∀ a0 k, LeO (r07_positions.f k a0) (r07_positions.f (k + 1) a0) := by
 intro a0 k
 have ih0 := r07_positions.mono_l k
 unfold r07_positions.f
 repeat' first
   | (with_reducible exact ih0 _ _ _)
   | (with_reducible exact LeO.refl _)
   | (with_reducible exact LeO.none _)
   | (with_reducible refine LeO.ite ?_ ?_)
   | (with_reducible refine LeO.bind ?_ (fun _ => ?_))
   | exact ih0 _ _ _
   | exact LeO.none _
   | refine LeO.ite ?_ ?_
   | refine LeO.bind ?_ (fun _ => ?_)
def r07_positions.T5 : Bool × List (List Nat × List Nat) := (true, [([], []), ([], []), ([], []), ([1, 2], [1, 2]), ([3], [3]), ([], []), ([], []), ([5, 6], [5, 6]), ([7], [7]), ([4, 8], [4, 8]), ([9], [9]), ([0, 10], [0, 10]), ([11, 11, 0, 1, 2, 3, 4, 5, 6, 7, 8, 9, 10, 11], [0, 1, 11])])
def r07_positions.B5 : List Nat := [0, 0, 0, 6, 14, 0, 0, 96, 224, 510, 1022, 2047, 4095]
theorem r07_positions.tab5 : rtab .any (opsOf Try.f56 5) = r07_positions.T5 := by kernel_rfl
theorem r07_positions.bits5 : waitsOk r07_positions.T5.2 r07_positions.B5 = true := by kernel_rfl
set_option maxHeartbeats 8000000 in
set_option maxRecDepth 100000 in
theorem r07_positions.calls (k : Nat) (A0 : Option Addr) (c0 : Nat) (l0 : List Int) (r : List Int) (w : World) (hr0 : Kd.C (Kd.int .i64) w A0 l0.length l0) (hc0 : l0.length ≤ c0) (h : r07_positions.f k l0 = some r) :
  Calls Try.prog 56 #[.slice A0 l0.length c0] w fun e w' => ∃ v0_ : Value, e = .returned (v0_) ∧ Kd.R (Kd.int .i64) 3 w' w.heap.size (fun _ => True) v0_ r ∧ Below w.heap.size w w' := by
 have HR0 := Aside0.mk hr0
 have HC0 := Aside0.mk hc0
 clear hr0 hc0
 have HB := Aside0.mk (Below.refl w.heap.size w)
 have H : (r07_positions.l0 k l0 (([0] : List Int)) 0) = some r := h
 clear h
 obtain ⟨y232, hy232⟩ : ∃ y_ : List Int, y_ = (([0] : List Int)) := ⟨_, rfl⟩
 replace H : (r07_positions.l0 k l0 y232 0) = some r := by first | (rw [hy232]; with_reducible exact H) | (have H2_ := (Option.bind_some _ _).symm.trans H; rw [hy232]; with_reducible exact H2_) | (have H2_ := (Option.bind_some _ _).symm.trans H; with_reducible exact H2_) | with_reducible exact H | (rw [hy232]; exact H) | exact H
 have Ny232 := Aside0.mk hy232
 clear hy232
 have H' := Aside0.mk H
 clear H
 go_enter Try.func56, Try.ntmps56
 go_wp2_with (first | ((with_reducible refine gate_dst (N := 5) rfl ?_); refine Kd.R_lit (Kd.int .i64) _ 3 ?hg (N := 5) ?hd (xs := ([0] : List Int)) (inner := [.int .i64 0]) (ok := fun _ => True) (okp := fun _ => True) ?hr ?hp (fun _ hk => hk) trivial (Below.refl _ _) (Nat.le_refl _) (by simp) ?_; (case hd => rfl); (case hg => rfl); (case hr => first | (go_simp; done) | (go_simp; rfl)); (case hp => exact (Reps.one (show Kd.M (Kd.int .i64) _ _ _ 0 [.int .i64 0] from rfl) (Reps.none _ _))); intro v233 w2 ho3 hb hg_ hnew_; clear hg_ hnew_; (first | rw [← Ny232.out] at ho3 | (simp only [Int.reduceToNat] at ho3; rw [← Ny232.out] at ho3)); have HO234 := Aside0.mk (Kd.R_lower ho3 (bsz HB.out)); replace HB := Aside0.mk (bst HB.out hb); clear hb ho3))
 go_loopg [3, 4] k (fun kq v3 v4 w' => ∃ (x3_1 : List Int) (x4_1 : Int), v4 = .int .i64 x4_1 ∧ Aside0 (r07_positions.l0 kq l0 x3_1 x4_1 = some r) ∧ Aside0 (kq ≤ k) ∧ Aside0 (Kd.R (Kd.int .i64) 3 w' w.heap.size (fun _ => True) v3 x3_1) ∧ Aside0 (Below w.heap.size w w'))
 case atStart => exact ⟨(y232), (0), (by first | rfl | (simp; done) | (simp [*]; done)), H', ⟨Nat.le_refl _⟩, ⟨kdt HO234.out⟩, ⟨bel HB.out⟩⟩
 case round =>
  clear H'
  try clear p2
  obtain ⟨x3_1, x4_1, rfl, HA, HK1, HO_3, HB⟩ := hrel
  cases gk with
  | zero => exact absurd HA.out (by simp [r07_positions.l0])
  | succ k1 =>
   have H := HA.out
   clear HA
   simp only [r07_positions.l0] at H
   by_cases c4 : x4_1 < (l0.length : Int)
   ·rw [if_pos c4] at H
    have c4b0 : decide (x4_1 < (l0.length : Int)) = true := decide_eq_true c4
    clear c4
    by_cases c5 : 0 ≤ x4_1
    ·rw [if_pos c5] at H
     have c5b0 : decide (0 ≤ x4_1) = true := decide_eq_true c5
     clear c5
     by_cases c6 : x4_1 < (x3_1.length : Int)
     ·rw [if_pos c6] at H
      have c6b0 : decide (x4_1 < (x3_1.length : Int)) = true := decide_eq_true c6
      clear c6
      by_cases c7 : x3_1.length < 17592186044416
      ·rw [if_pos c7] at H
       have LMc7 := Aside0.mk c7
       clear c7
       obtain ⟨y237, hy237⟩ : ∃ y_ : List Int, y_ = (x3_1 ++ [wrap64 ((rd x3_1 x4_1) + (rd l0 x4_1))]) := ⟨_, rfl⟩
       replace H : (r07_positions.l0 k1 l0 y237 (wrap64 (x4_1 + 1))) = some r := by first | (rw [hy237]; with_reducible exact H) | (have H2_ := (Option.bind_some _ _).symm.trans H; rw [hy237]; with_reducible exact H2_) | (have H2_ := (Option.bind_some _ _).symm.trans H; with_reducible exact H2_) | with_reducible exact H | (rw [hy237]; exact H) | exact H
       have Ny237 := Aside0.mk hy237
       clear hy237
       have H' := Aside0.mk H
       clear H
       try go_wp2
       have n0_ := Aside0.mk (Kd.R_drew HO_3.out)
       have n1_ := Aside0.mk (below_drew1 HB.out)
       clear HO_3
       clear HB
       have HO_3 := n0_
       have HB := n1_
       clear n0_ n1_
       obtain ⟨Ao9, co9, eo9⟩ := Kd.R_slice HO_3.out
       (first | subst eo9 | (injection eo9 with f1_ f2_ f3_; have f4_ := f1_.symm; have f5_ := f3_.symm; clear f1_ f2_ f3_; subst f4_; subst f5_))
       have p235 : 0 ≤ (x4_1 : Int) := of_decide_eq_true (by first | (with_reducible assumption) | assumption)
       have q235 : x4_1 < (x3_1.length : Int) := of_decide_eq_true (by first | (with_reducible assumption) | assumption)
       obtain ⟨ad235, e235, hx235_0⟩ := Kd.at_int (Kd.R_reads' HO_3.out).2.2 x4_1 p235 q235
       cases e235
       replace p235 := eq_true p235
       replace q235 := eq_true q235
       have p236 : 0 ≤ (x4_1 : Int) := of_decide_eq_true (by first | (with_reducible assumption) | assumption)
       have q236 : x4_1 < (l0.length : Int) := of_decide_eq_true (by first | (with_reducible assumption) | assumption)
       obtain ⟨ad236, e236, hx236_0⟩ := Kd.at_int HR0.out x4_1 p236 q236
       have hw236_0 := hx236_0
       cases e236
       replace hx236_0 := (HB.out.cell (World.block_lt_of_cell? w _ hx236_0)).trans hx236_0
       replace p236 := eq_true p236
       replace q236 := eq_true q236
       refine start_ (n := 13) (S := fun w' => w'.cell? (ad235.add (x4_1).toNat) = some (.int .i64 (rd x3_1 x4_1)) ∧ w'.cell? (ad236.add (x4_1).toNat) = some (.int .i64 (rd l0 x4_1))) (ds := [10, 11]) #[false, false, false, false, false, false, false, false, false, false, false, false, false] (by kernel_rfl) rfl rfl ⟨hx235_0, ((HB.out.cell (World.block_lt_of_cell? w _ hw236_0)).trans hw236_0)⟩ (fun hHeld => ?_); refine with_tabW r07_positions.tab5 r07_positions.bits5 (fun HT_ HW_ => ?_)
       generalize wr.drew = w8 at HO_3 HB hx235_0 hx236_0 hHeld ⊢
       refine pur 0 (some 12) (bm 13 1) HT_.out ?_
       refine pur 1 (some 13) (bm 13 3) HT_.out ?_
       refine pur 2 (some 14) (bm 13 7) HT_.out ?_
       refine pur 3 (some 15) (bm 13 15) HT_.out ?_
       refine pur 5 (some 17) (bm 13 47) HT_.out ?_
       refine pur 6 (some 18) (bm 13 111) HT_.out ?_
       refine pur 7 (some 19) (bm 13 239) HT_.out ?_
       refine tkp 4 (some 16) (bm 13 255) HT_.out HW_.out hHeld ?_
       refine tkp 8 (some 20) (bm 13 511) HT_.out HW_.out hHeld ?_
       refine pur 9 (some 21) (bm 13 1023) HT_.out ?_
       refine last_ (i := 10) (N := some 22) #[true, true, true, true, true, true, true, true, true, true, true, false, false] rfl rfl (one_of HT_.out (by kernel_rfl)) (by decide) (fun K hK => ?_)
       refine value_ (w1 := ?_) (v := ?_) (by rfl) rfl ?_ ?_
       rotate_left 2
       ·go_simp
        constructor
        ·rfl
        ·rfl
       refine hK.out _ _ ?_
       clear hK K
       refine norm_ (a' := ?_) ?_ ?_
       rotate_left
       ·show Act.put _ (some 22) _ = _
        simp only [Act.put, List.setIfInBounds_toArray, List.set_cons_zero, List.set_cons_succ, i64_w, i32_w]
        rfl
       refine last_ (i := 11) (N := some 23) #[true, true, true, true, true, true, true, true, true, true, true, true, false] rfl rfl (one_of HT_.out (by kernel_rfl)) (by decide) (fun K hK => ?_)
       refine Kd.R_append_step (Kd.int .i64) (w0 := w) w.heap.size (by rfl) (.tmp 12) (.tmp 22) 24 3 (.int .i64 0) 8 rfl Try.underlying24 info3 rfl (by decide) (by omega) (.slice (some ad235) x3_1.length co9) x3_1 (wrap64 ((rd x3_1 x4_1) + (rd l0 x4_1))) [.int .i64 (wrap64 ((rd x3_1 x4_1) + (rd l0 x4_1)))] (fun _ => True) (fun _ => False) rfl rfl ?aP (fun _ hk => hk.elim) ?aF ?aO ?aB ?aS ?aL ?_
       (case aP => exact rfl)
       (case aB => exact (bel HB.out))
       (case aF => exact (fun _ _ => trivial))
       (case aO => exact (kdt HO_3.out))
       (case aS => exact (bsz HB.out))
       (case aL => have := LMc7.out; omega)
       intro v238 w10 ho hb hg hat
       rw [← Ny237.out] at ho
       have n0_ := Aside0.mk (hb)
       have n1_ := Aside0.mk (ho)
       clear HB
       clear HO_3
       have HB := n0_
       have HO239 := n1_
       clear n0_ n1_
       clear ho hb hg hat
       refine hK.out _ _ ?_
       clear hK K
       refine norm_ (a' := ?_) ?_ ?_
       rotate_left
       ·show Act.put _ (some 23) _ = _
        simp only [Act.put, List.setIfInBounds_toArray, List.set_cons_zero, List.set_cons_succ, i64_w, i32_w]
        rfl
       refine pur 12 (some 3) (bm 13 8191) HT_.out ?_
       refine done_ (done_of HT_.out (by kernel_rfl)) ?_
       try go_wp2
       go_roundg k1
       case measure => have := HK1.out; omega
       case rel => exact ⟨(y237), (wrap64 (x4_1 + 1)), (by first | rfl | (simp; done) | (simp [*]; done)), H', ⟨by have := HK1.out; omega⟩, ⟨kdt HO239.out⟩, ⟨bel HB.out⟩⟩
      ·rw [if_neg c7] at H
       exact absurd H (by simp)
     ·rw [if_neg c6] at H
      exact absurd H (by simp)
    ·rw [if_neg c5] at H
     exact absurd H (by simp)
   ·rw [if_neg c4] at H
    have c4b0 : decide (x4_1 < (l0.length : Int)) = false := decide_eq_false c4
    clear c4
    obtain rfl := Option.some.inj H
    go_wp2
    go_ret
    exact ⟨_, by first | rfl | (simp [errW_none, errW_some] <;> rfl) | (simp [*, errW_none, errW_some] <;> rfl), by (with_reducible repeat (first | apply Kd.R_alloc | apply Kd.R_drewN | apply Kd.R_drew)); exact HO_3.out, bel HB.out⟩

/-! ### r07_Check: function 57 -/
mutual
def r07_Check.j0 : Nat → List Int → Bool → Option (Int × Int)
 | 0, _, _ => none
 | k + 1, x0, x12 => if x12 = true then (some (4, 0)) else (r07_Check.l0 k x0 0)
def r07_Check.l0 : Nat → List Int → Int → Option (Int × Int)
 | 0, _, _ => none
 | k + 1, x0, x4 => if x4 < (x0.length : Int) then (if 0 ≤ x4 then (if (rd x0 x4) < 1 then (some (2, x4)) else (if (rd x0 x4) > 1000 then (some (2, x4)) else (r07_Check.l0 k x0 (wrap64 (x4 + 1))))) else (none)) else (some (0, 0))
end
def r07_Check.f (k : Nat) (l0 : List Int) : Option (Int × Int) := if (l0.length : Int) < 1 then (r07_Check.j0 k l0 true) else (r07_Check.j0 k l0 (decide ((l0.length : Int) > 63)))
theorem r07_Check.mono_l : ∀ k, (∀ y0 y1, LeO (r07_Check.j0 k y0 y1) (r07_Check.j0 (k + 1) y0 y1)) ∧ (∀ y0 y1, LeO (r07_Check.l0 k y0 y1) (r07_Check.l0 (k + 1) y0 y1))
 | 0 => ⟨fun _ _ r h => by simp [r07_Check.j0] at h, fun _ _ r h => by simp [r07_Check.l0] at h⟩
 | k + 1 => by
  obtain ⟨ih0, ih1⟩ := r07_Check.mono_l k
  refine ⟨?_, ?_⟩
  ·intro y0 y1
   unfold r07_Check.j0
   repeat' first
   | (with_reducible exact ih0 _ _)
   | (with_reducible exact ih1 _ _)
   | (with_reducible exact LeO.refl _)
   | (with_reducible exact LeO.none _)
   | (with_reducible refine LeO.ite ?_ ?_)
   | (with_reducible refine LeO.bind ?_ (fun _ => ?_))
   | exact ih0 _ _
   | exact ih1 _ _
   | exact LeO.none _
   | refine LeO.ite ?_ ?_
   | refine LeO.bind ?_ (fun _ => ?_)
  ·intro y0 y1
   unfold r07_Check.l0
   repeat' first
   | (with_reducible exact ih0 _ _)
   | (with_reducible exact ih1 _ _)
   | (with_reducible exact LeO.refl _)
   | (with_reducible exact LeO.none _)
   | (with_reducible refine LeO.ite ?_ ?_)
   | (with_reducible refine LeO.bind ?_ (fun _ => ?_))
   | exact ih0 _ _
   | exact ih1 _ _
   | exact LeO.none _
   | refine LeO.ite ?_ ?_
   | refine LeO.bind ?_ (fun _ => ?_)
theorem r07_Check.mono : ∀ a0 k, LeO (r07_Check.f k a0) (r07_Check.f (k + 1) a0) := by
 intro a0 k
 obtain ⟨ih0, ih1⟩ := r07_Check.mono_l k
 unfold r07_Check.f
 repeat' first
   | (with_reducible exact ih0 _ _)
   | (with_reducible exact ih1 _ _)
   | (with_reducible exact LeO.refl _)
   | (with_reducible exact LeO.none _)
   | (with_reducible refine LeO.ite ?_ ?_)
   | (with_reducible refine LeO.bind ?_ (fun _ => ?_))
   | exact ih0 _ _
   | exact ih1 _ _
   | exact LeO.none _
   | refine LeO.ite ?_ ?_
   | refine LeO.bind ?_ (fun _ => ?_)
set_option maxHeartbeats 8000000 in
set_option maxRecDepth 100000 in
theorem r07_Check.calls (k : Nat) (A0 : Option Addr) (c0 : Nat) (l0 : List Int) (r1 : Int) (r2 : Int) (w : World) (hr0 : Kd.C (Kd.int .i64) w A0 l0.length l0) (hc0 : l0.length ≤ c0) (h : r07_Check.f k l0 = some (r1, r2)) :
  Calls Try.prog 57 #[.slice A0 l0.length c0] w fun e w' => e = .returned (.tuple #[.int .i64 r1, .int .i64 r2]) ∧ Drawn0 w w' := by
 have HR0 := Aside0.mk hr0
 have HC0 := Aside0.mk hc0
 clear hr0 hc0
 have H : (if (l0.length : Int) < 1 then (r07_Check.j0 k l0 true) else (r07_Check.j0 k l0 (decide ((l0.length : Int) > 63)))) = some (r1, r2) := h
 clear h
 have HC2 := Aside0.mk H
 clear H
 go_enter Try.func57, Try.ntmps57
 go_upto_region 1 with (fail)
 go_cut [12] (fun v12 wc => ∃ (kq : Nat) (x12_1 : Bool), v12 = .bool x12_1 ∧ Aside0 (r07_Check.j0 kq l0 x12_1 = some (r1, r2)) ∧ Aside0 (kq ≤ k) ∧ Drawn0 w wc)
 case first =>
  have H := HC2.out
  clear HC2
  by_cases c3 : (l0.length : Int) < 1
  ·rw [if_pos c3] at H
   have c3b0 : decide ((l0.length : Int) < 1) = true := decide_eq_true c3
   have c3b1 : decide (l0.length < 1) = true := decide_eq_true (by omega)
   clear c3
   (first | rw [c3b0] | (simp only [i64_w, i32_w]; rw [c3b0]) | skip)
   have H' := Aside0.mk H
   clear H
   go_wp2
   go_meet
   case rel => exact ⟨_, (true), (by first | rfl | (simp; done) | (simp [*]; done)), H', ⟨by first | omega | exact Nat.le_refl _⟩, by repeat (first | exact Drawn0.refl _ | apply Drawn0.step)⟩
  ·rw [if_neg c3] at H
   have c3b0 : decide ((l0.length : Int) < 1) = false := decide_eq_false c3
   have c3b1 : decide (l0.length < 1) = false := decide_eq_false (by omega)
   clear c3
   (first | rw [c3b0] | (simp only [i64_w, i32_w]; rw [c3b0]) | skip)
   have H' := Aside0.mk H
   clear H
   go_wp2
   go_meet
   case rel => exact ⟨_, (decide ((l0.length : Int) > 63)), (by first | rfl | (simp; done) | (simp [*]; done)), H', ⟨by first | omega | exact Nat.le_refl _⟩, by repeat (first | exact Drawn0.refl _ | apply Drawn0.step)⟩
 case rest =>
  clear HC2
  try clear p2
  try clear c3
  try clear c3b0
  try clear c3b1
  obtain ⟨kq, x12_1, rfl, HA, HJ1, ⟨mc1, rfl⟩⟩ := hcut
  cases kq with
  | zero => exact absurd HA.out (by simp [r07_Check.j0])
  | succ kj1 =>
   have H := HA.out
   clear HA
   simp only [r07_Check.j0] at H
   by_cases c4 : x12_1 = true
   ·subst c4
    have H1 : (some (4, 0)) = some (r1, r2) := by rw [if_pos rfl] at H; exact H
    clear H
    have H := H1
    clear H1
    simp only [Option.some.injEq, Prod.mk.injEq] at H
    obtain ⟨rfl, rfl⟩ := H
    go_wp2
    go_ret2
    exact ⟨by first | rfl | (simp; done) | (simp [*]; done), by repeat (first | exact Drawn0.refl _ | apply Drawn0.step)⟩
   ·replace c4 := Bool.eq_false_iff.mpr c4
    subst c4
    have H1 : (r07_Check.l0 kj1 l0 0) = some (r1, r2) := by rw [if_neg (show ¬ (false = true) by decide)] at H; exact H
    clear H
    have H := H1
    clear H1
    have H' := Aside0.mk H
    clear H
    go_wp2
    go_loopg [4] kj1 (fun kq v4 w' => ∃ (x4_2 : Int), v4 = .int .i64 x4_2 ∧ Aside0 (r07_Check.l0 kq l0 x4_2 = some (r1, r2)) ∧ Aside0 (kq ≤ kj1) ∧ Drawn0 w w')
    case atStart => exact ⟨(0), (by first | rfl | (simp; done) | (simp [*]; done)), H', ⟨Nat.le_refl _⟩, by repeat (first | exact Drawn0.refl _ | apply Drawn0.step)⟩
    case round =>
     clear H'
     try clear c1
     try clear p2
     try clear c3
     try clear c3b0
     try clear c3b1
     try clear c4
     try clear p2
     obtain ⟨x4_2, rfl, HA, HK2, ⟨m2, rfl⟩⟩ := hrel
     cases gk with
     | zero => exact absurd HA.out (by simp [r07_Check.l0])
     | succ k2 =>
      have H := HA.out
      clear HA
      simp only [r07_Check.l0] at H
      by_cases c5 : x4_2 < (l0.length : Int)
      ·rw [if_pos c5] at H
       have c5b0 : decide (x4_2 < (l0.length : Int)) = true := decide_eq_true c5
       clear c5
       by_cases c6 : 0 ≤ x4_2
       ·rw [if_pos c6] at H
        have c6b0 : decide (0 ≤ x4_2) = true := decide_eq_true c6
        clear c6
        by_cases c7 : (rd l0 x4_2) < 1
        ·rw [if_pos c7] at H
         have c7b0 : decide ((rd l0 x4_2) < 1) = true := decide_eq_true c7
         clear c7
         simp only [Option.some.injEq, Prod.mk.injEq] at H
         obtain ⟨rfl, rfl⟩ := H
         have p240 : 0 ≤ (x4_2 : Int) := of_decide_eq_true (by first | (with_reducible assumption) | assumption)
         have q240 : x4_2 < (l0.length : Int) := of_decide_eq_true (by first | (with_reducible assumption) | assumption)
         obtain ⟨ad240, e240, hx240_0⟩ := Kd.at_int HR0.out x4_2 p240 q240
         cases e240
         replace p240 := eq_true p240
         replace q240 := eq_true q240
         go_wp2
         go_ret2
         exact ⟨by first | rfl | (simp; done) | (simp [*]; done), by repeat (first | exact Drawn0.refl _ | apply Drawn0.step)⟩
        ·rw [if_neg c7] at H
         have c7b0 : decide ((rd l0 x4_2) < 1) = false := decide_eq_false c7
         clear c7
         by_cases c8 : (rd l0 x4_2) > 1000
         ·rw [if_pos c8] at H
          have c8b0 : decide (1000 < (rd l0 x4_2)) = true := decide_eq_true c8
          clear c8
          simp only [Option.some.injEq, Prod.mk.injEq] at H
          obtain ⟨rfl, rfl⟩ := H
          have p240 : 0 ≤ (x4_2 : Int) := of_decide_eq_true (by first | (with_reducible assumption) | assumption)
          have q240 : x4_2 < (l0.length : Int) := of_decide_eq_true (by first | (with_reducible assumption) | assumption)
          obtain ⟨ad240, e240, hx240_0⟩ := Kd.at_int HR0.out x4_2 p240 q240
          cases e240
          replace p240 := eq_true p240
          replace q240 := eq_true q240
          have p241 : 0 ≤ (x4_2 : Int) := of_decide_eq_true (by first | (with_reducible assumption) | assumption)
          have q241 : x4_2 < (l0.length : Int) := of_decide_eq_true (by first | (with_reducible assumption) | assumption)
          obtain ⟨ad241, e241, hx241_0⟩ := Kd.at_int HR0.out x4_2 p241 q241
          obtain rfl : ad240 = ad241 := (by injection e241)
          replace p241 := eq_true p241
          replace q241 := eq_true q241
          go_wp2
          go_ret2
          exact ⟨by first | rfl | (simp; done) | (simp [*]; done), by repeat (first | exact Drawn0.refl _ | apply Drawn0.step)⟩
         ·rw [if_neg c8] at H
          have c8b0 : decide (1000 < (rd l0 x4_2)) = false := decide_eq_false c8
          clear c8
          have H' := Aside0.mk H
          clear H
          have p240 : 0 ≤ (x4_2 : Int) := of_decide_eq_true (by first | (with_reducible assumption) | assumption)
          have q240 : x4_2 < (l0.length : Int) := of_decide_eq_true (by first | (with_reducible assumption) | assumption)
          obtain ⟨ad240, e240, hx240_0⟩ := Kd.at_int HR0.out x4_2 p240 q240
          cases e240
          replace p240 := eq_true p240
          replace q240 := eq_true q240
          have p241 : 0 ≤ (x4_2 : Int) := of_decide_eq_true (by first | (with_reducible assumption) | assumption)
          have q241 : x4_2 < (l0.length : Int) := of_decide_eq_true (by first | (with_reducible assumption) | assumption)
          obtain ⟨ad241, e241, hx241_0⟩ := Kd.at_int HR0.out x4_2 p241 q241
          obtain rfl : ad240 = ad241 := (by injection e241)
          replace p241 := eq_true p241
          replace q241 := eq_true q241
          go_wp2
          go_roundg k2
          case measure => have := HJ1.out; have := HK2.out; omega
          case rel => exact ⟨(wrap64 (x4_2 + 1)), (by first | rfl | (simp; done) | (simp [*]; done)), H', ⟨by have := HJ1.out; have := HK2.out; omega⟩, by repeat (first | exact Drawn0.refl _ | apply Drawn0.step)⟩
       ·rw [if_neg c6] at H
        exact absurd H (by simp)
      ·rw [if_neg c5] at H
       have c5b0 : decide (x4_2 < (l0.length : Int)) = false := decide_eq_false c5
       clear c5
       simp only [Option.some.injEq, Prod.mk.injEq] at H
       obtain ⟨rfl, rfl⟩ := H
       go_wp2
       go_ret2
       exact ⟨by first | rfl | (simp; done) | (simp [*]; done), by repeat (first | exact Drawn0.refl _ | apply Drawn0.step)⟩

/-! ### r07_Height: function 42 -/
def r07_Height.f (k : Nat) (l0 : List Int) : Option (Int × Int) := (r07_Check.f k l0).bind fun bt242 => (if bt242.1 = 0 then ((r07_positions.f k l0).bind fun t244 => (if 0 ≤ (l0.length : Int) then (if (l0.length : Int) < (t244.length : Int) then (some (rd t244 (l0.length : Int), 0)) else (none)) else (none))) else (some (0, bt242.1)))
theorem r07_Height.mono : ∀ a0 k, LeO (r07_Height.f k a0) (r07_Height.f (k + 1) a0) := by
 intro a0 k
 unfold r07_Height.f
 repeat' first
   | (with_reducible exact r07_Check.mono _ _)
   | (with_reducible exact r07_positions.mono _ _)
   | (with_reducible exact LeO.refl _)
   | (with_reducible exact LeO.none _)
   | (with_reducible refine LeO.ite ?_ ?_)
   | (with_reducible refine LeO.bind ?_ (fun _ => ?_))
   | exact r07_Check.mono _ _
   | exact r07_positions.mono _ _
   | exact LeO.none _
   | refine LeO.ite ?_ ?_
   | refine LeO.bind ?_ (fun _ => ?_)
set_option maxHeartbeats 8000000 in
set_option maxRecDepth 100000 in
theorem r07_Height.calls (k : Nat) (A0 : Option Addr) (c0 : Nat) (l0 : List Int) (r1 : Int) (r2 : Int) (w : World) (hr0 : Kd.C (Kd.int .i64) w A0 l0.length l0) (hc0 : l0.length ≤ c0) (h : r07_Height.f k l0 = some (r1, r2)) :
  Calls Try.prog 42 #[.slice A0 l0.length c0] w fun e w' => e = .returned (.tuple #[.int .i64 r1, .int .i64 r2]) ∧ Below w.heap.size w w' := by
 have HR0 := Aside0.mk hr0
 have HC0 := Aside0.mk hc0
 clear hr0 hc0
 have HB := Aside0.mk (Below.refl w.heap.size w)
 have H : ((r07_Check.f k l0).bind fun bt242 => (if bt242.1 = 0 then ((r07_positions.f k l0).bind fun t244 => (if 0 ≤ (l0.length : Int) then (if (l0.length : Int) < (t244.length : Int) then (some (rd t244 (l0.length : Int), 0)) else (none)) else (none))) else (some (0, bt242.1)))) = some (r1, r2) := h
 clear h
 replace H := Option.bind_eq_some_iff.mp H
 obtain ⟨⟨t242, t243⟩, A20, H⟩ := H
 replace H : (if t242 = 0 then ((r07_positions.f k l0).bind fun t244 => (if 0 ≤ (l0.length : Int) then (if (l0.length : Int) < (t244.length : Int) then (some (rd t244 (l0.length : Int), 0)) else (none)) else (none))) else (some (0, t242))) = some (r1, r2) := H
 have A2 := Aside0.mk A20
 clear A20
 by_cases c3 : t242 = 0
 ·rw [if_pos c3] at H
  have c3b0 : (t242 == 0) = true := beq_iff_eq.mpr c3
  have c3b1 : (t242 != 0) = false := bne_eq_false_iff_eq.mpr c3
  clear c3
  replace H := Option.bind_eq_some_iff.mp H
  obtain ⟨t244, A40, H⟩ := H
  replace H : (if 0 ≤ (l0.length : Int) then (if (l0.length : Int) < (t244.length : Int) then (some (rd t244 (l0.length : Int), 0)) else (none)) else (none)) = some (r1, r2) := H
  have A4 := Aside0.mk A40
  clear A40
  by_cases c5 : 0 ≤ (l0.length : Int)
  ·rw [if_pos c5] at H
   have c5b0 : decide (0 ≤ (l0.length : Int)) = true := decide_eq_true c5
   have c5b1 : decide (0 ≤ l0.length) = true := decide_eq_true (by omega)
   clear c5
   by_cases c6 : (l0.length : Int) < (t244.length : Int)
   ·rw [if_pos c6] at H
    have c6b0 : decide ((l0.length : Int) < (t244.length : Int)) = true := decide_eq_true c6
    have c6b1 : decide (l0.length < t244.length) = true := decide_eq_true (Int.ofNat_lt.mp c6)
    clear c6
    simp only [Option.some.injEq, Prod.mk.injEq] at H
    obtain ⟨rfl, rfl⟩ := H
    go_enter Try.func42, Try.ntmps42
    go_wp2_with (first | ((with_reducible refine gate_callee (f := 57) rfl ?_); refine gsl (some 8) Try.func57 #[.slice A0 l0.length c0] ?_; (with_reducible refine (r07_Check.calls k _ _ l0 t242 t243 _ ?side1 ?side2 A2.out).mono ?_); (case side1 => repeat (first | exact HR0.out | (with_reducible refine Kd.C_alloc ?_ _) | (with_reducible refine Kd.C_drewN ?_ _) | (with_reducible refine Kd.C_drew ?_))); (case side2 => exact HC0.out); rintro e w' ⟨rfl, ⟨nd, rfl⟩⟩; refine ⟨_, rfl, ?_⟩) | ((with_reducible refine gate_callee (f := 56) rfl ?_); refine gsl (some 15) Try.func56 #[.slice A0 l0.length c0] ?_; (with_reducible refine (r07_positions.calls k _ _ l0 t244 _ ?side1 ?side2 A4.out).mono ?_); (case side1 => repeat (first | exact HR0.out | (with_reducible refine Kd.C_alloc ?_ _) | (with_reducible refine Kd.C_drewN ?_ _) | (with_reducible refine Kd.C_drew ?_))); (case side2 => exact HC0.out); rintro e w7 ⟨v245, rfl, ho0, hb⟩; refine ⟨_, rfl, ?_⟩; have HO246 := Aside0.mk (Kd.R_lower ho0 (bsz HB.out)); replace HB := Aside0.mk (bst HB.out hb); (try clear hb); (try clear hb2); (try clear hk); (try clear hi); (try clear ho0); obtain ⟨Ao8, co8, eo8⟩ := Kd.R_slice HO246.out; subst eo8; have p247 : 0 ≤ ((l0.length : Int) : Int) := of_decide_eq_true (by first | (with_reducible assumption) | assumption); have q247 : (l0.length : Int) < (t244.length : Int) := of_decide_eq_true (by first | (with_reducible assumption) | assumption); obtain ⟨ad247, e247, hx247_0⟩ := Kd.at_int (Kd.R_reads' HO246.out).2.2 (l0.length : Int) p247 q247; cases e247; (try simp only [Go.IntWalk.toNatUp] at hx247_0); replace p247 := eq_true p247; replace q247 := eq_true q247))
    go_ret2
    exact bfin (bel HB.out)
   ·rw [if_neg c6] at H
    exact absurd H (by simp)
  ·rw [if_neg c5] at H
   exact absurd H (by simp)
 ·rw [if_neg c3] at H
  have c3b0 : (t242 == 0) = false := beq_eq_false_iff_ne.mpr c3
  have c3b1 : (t242 != 0) = true := bne_iff_ne.mpr c3
  simp only [Option.some.injEq, Prod.mk.injEq] at H
  obtain ⟨rfl, rfl⟩ := H
  go_enter Try.func42, Try.ntmps42
  go_wp2_with (first | ((with_reducible refine gate_callee (f := 57) rfl ?_); refine gsl (some 8) Try.func57 #[.slice A0 l0.length c0] ?_; (with_reducible refine (r07_Check.calls k _ _ l0 t242 t243 _ ?side1 ?side2 A2.out).mono ?_); (case side1 => repeat (first | exact HR0.out | (with_reducible refine Kd.C_alloc ?_ _) | (with_reducible refine Kd.C_drewN ?_ _) | (with_reducible refine Kd.C_drew ?_))); (case side2 => exact HC0.out); rintro e w' ⟨rfl, ⟨nd, rfl⟩⟩; refine ⟨_, rfl, ?_⟩))
  go_ret2
  exact bfin (bel HB.out)

/-! ### r07_asked: function 53 -/
def r07_asked.f (k : Nat) (l0 : List Int) (a1 : Int) (a2 : Int) (a3 : Int) : Option (Int) := (r07_Height.f k l0).bind fun bt248 => (if bt248.2 = 0 then (if a1 < 0 then (some 2) else (if a1 > bt248.1 then (some 2) else (if a2 < 0 then (some 2) else (if a2 > (l0.length : Int) then (some 2) else (if a3 < 0 then (some 2) else (if a3 > 20 then (some 2) else (some bt248.2))))))) else (some bt248.2))
theorem r07_asked.mono : ∀ a0 a1 a2 a3 k, LeO (r07_asked.f k a0 a1 a2 a3) (r07_asked.f (k + 1) a0 a1 a2 a3) := by
 intro a0 a1 a2 a3 k
 unfold r07_asked.f
 repeat' first
   | (with_reducible exact r07_Height.mono _ _)
   | (with_reducible exact LeO.refl _)
   | (with_reducible exact LeO.none _)
   | (with_reducible refine LeO.ite ?_ ?_)
   | (with_reducible refine LeO.bind ?_ (fun _ => ?_))
   | exact r07_Height.mono _ _
   | exact LeO.none _
   | refine LeO.ite ?_ ?_
   | refine LeO.bind ?_ (fun _ => ?_)
set_option maxHeartbeats 8000000 in
set_option maxRecDepth 100000 in
theorem r07_asked.calls (k : Nat) (A0 : Option Addr) (c0 : Nat) (l0 : List Int) (a1 : Int) (a2 : Int) (a3 : Int) (r : Int) (w : World) (hr0 : Kd.C (Kd.int .i64) w A0 l0.length l0) (hc0 : l0.length ≤ c0) (h : r07_asked.f k l0 a1 a2 a3 = some r) :
  Calls Try.prog 53 #[.slice A0 l0.length c0, .int .i64 a1, .int .i64 a2, .int .i64 a3] w fun e w' => e = .returned (.int .i64 r) ∧ Below w.heap.size w w' := by
 have HR0 := Aside0.mk hr0
 have HC0 := Aside0.mk hc0
 clear hr0 hc0
 have HB := Aside0.mk (Below.refl w.heap.size w)
 have H : ((r07_Height.f k l0).bind fun bt248 => (if bt248.2 = 0 then (if a1 < 0 then (some 2) else (if a1 > bt248.1 then (some 2) else (if a2 < 0 then (some 2) else (if a2 > (l0.length : Int) then (some 2) else (if a3 < 0 then (some 2) else (if a3 > 20 then (some 2) else (some bt248.2))))))) else (some bt248.2))) = some r := h
 clear h
 replace H := Option.bind_eq_some_iff.mp H
 obtain ⟨⟨t248, t249⟩, A50, H⟩ := H
 replace H : (if t249 = 0 then (if a1 < 0 then (some 2) else (if a1 > t248 then (some 2) else (if a2 < 0 then (some 2) else (if a2 > (l0.length : Int) then (some 2) else (if a3 < 0 then (some 2) else (if a3 > 20 then (some 2) else (some t249))))))) else (some t249)) = some r := H
 have A5 := Aside0.mk A50
 clear A50
 by_cases c6 : t249 = 0
 ·rw [if_pos c6] at H
  have c6b0 : (t249 == 0) = true := beq_iff_eq.mpr c6
  have c6b1 : (t249 != 0) = false := bne_eq_false_iff_eq.mpr c6
  clear c6
  by_cases c7 : a1 < 0
  ·rw [if_pos c7] at H
   have c7b0 : decide (a1 < 0) = true := decide_eq_true c7
   clear c7
   obtain rfl := Option.some.inj H
   go_enter Try.func53, Try.ntmps53
   go_wp2_with (first | ((with_reducible refine gate_callee (f := 42) rfl ?_); refine gsl (some 13) Try.func42 #[.slice A0 l0.length c0] ?_; (with_reducible refine (r07_Height.calls k _ _ l0 t248 t249 _ ?side1 ?side2 A5.out).mono ?_); (case side1 => repeat (first | exact HR0.out | (with_reducible refine Kd.C_alloc ?_ _) | (with_reducible refine Kd.C_drewN ?_ _) | (with_reducible refine Kd.C_drew ?_))); (case side2 => exact HC0.out); rintro e w8 ⟨rfl, hb⟩; refine ⟨_, rfl, ?_⟩; replace HB := Aside0.mk (bst HB.out hb); (try clear hb); (try clear hb2); (try clear hk); (try clear hi)))
   go_ret
   exact bfin (bel HB.out)
  ·rw [if_neg c7] at H
   have c7b0 : decide (a1 < 0) = false := decide_eq_false c7
   clear c7
   by_cases c9 : a1 > t248
   ·rw [if_pos c9] at H
    have c9b0 : decide (t248 < a1) = true := decide_eq_true c9
    clear c9
    obtain rfl := Option.some.inj H
    go_enter Try.func53, Try.ntmps53
    go_wp2_with (first | ((with_reducible refine gate_callee (f := 42) rfl ?_); refine gsl (some 13) Try.func42 #[.slice A0 l0.length c0] ?_; (with_reducible refine (r07_Height.calls k _ _ l0 t248 t249 _ ?side1 ?side2 A5.out).mono ?_); (case side1 => repeat (first | exact HR0.out | (with_reducible refine Kd.C_alloc ?_ _) | (with_reducible refine Kd.C_drewN ?_ _) | (with_reducible refine Kd.C_drew ?_))); (case side2 => exact HC0.out); rintro e w10 ⟨rfl, hb⟩; refine ⟨_, rfl, ?_⟩; replace HB := Aside0.mk (bst HB.out hb); (try clear hb); (try clear hb2); (try clear hk); (try clear hi)))
    go_ret
    exact bfin (bel HB.out)
   ·rw [if_neg c9] at H
    have c9b0 : decide (t248 < a1) = false := decide_eq_false c9
    clear c9
    by_cases c11 : a2 < 0
    ·rw [if_pos c11] at H
     have c11b0 : decide (a2 < 0) = true := decide_eq_true c11
     clear c11
     obtain rfl := Option.some.inj H
     go_enter Try.func53, Try.ntmps53
     go_wp2_with (first | ((with_reducible refine gate_callee (f := 42) rfl ?_); refine gsl (some 13) Try.func42 #[.slice A0 l0.length c0] ?_; (with_reducible refine (r07_Height.calls k _ _ l0 t248 t249 _ ?side1 ?side2 A5.out).mono ?_); (case side1 => repeat (first | exact HR0.out | (with_reducible refine Kd.C_alloc ?_ _) | (with_reducible refine Kd.C_drewN ?_ _) | (with_reducible refine Kd.C_drew ?_))); (case side2 => exact HC0.out); rintro e w12 ⟨rfl, hb⟩; refine ⟨_, rfl, ?_⟩; replace HB := Aside0.mk (bst HB.out hb); (try clear hb); (try clear hb2); (try clear hk); (try clear hi)))
     go_ret
     exact bfin (bel HB.out)
    ·rw [if_neg c11] at H
     have c11b0 : decide (a2 < 0) = false := decide_eq_false c11
     clear c11
     by_cases c13 : a2 > (l0.length : Int)
     ·rw [if_pos c13] at H
      have c13b0 : decide ((l0.length : Int) < a2) = true := decide_eq_true c13
      clear c13
      obtain rfl := Option.some.inj H
      go_enter Try.func53, Try.ntmps53
      go_wp2_with (first | ((with_reducible refine gate_callee (f := 42) rfl ?_); refine gsl (some 13) Try.func42 #[.slice A0 l0.length c0] ?_; (with_reducible refine (r07_Height.calls k _ _ l0 t248 t249 _ ?side1 ?side2 A5.out).mono ?_); (case side1 => repeat (first | exact HR0.out | (with_reducible refine Kd.C_alloc ?_ _) | (with_reducible refine Kd.C_drewN ?_ _) | (with_reducible refine Kd.C_drew ?_))); (case side2 => exact HC0.out); rintro e w14 ⟨rfl, hb⟩; refine ⟨_, rfl, ?_⟩; replace HB := Aside0.mk (bst HB.out hb); (try clear hb); (try clear hb2); (try clear hk); (try clear hi)))
      go_ret
      exact bfin (bel HB.out)
     ·rw [if_neg c13] at H
      have c13b0 : decide ((l0.length : Int) < a2) = false := decide_eq_false c13
      clear c13
      by_cases c15 : a3 < 0
      ·rw [if_pos c15] at H
       have c15b0 : decide (a3 < 0) = true := decide_eq_true c15
       clear c15
       obtain rfl := Option.some.inj H
       go_enter Try.func53, Try.ntmps53
       go_wp2_with (first | ((with_reducible refine gate_callee (f := 42) rfl ?_); refine gsl (some 13) Try.func42 #[.slice A0 l0.length c0] ?_; (with_reducible refine (r07_Height.calls k _ _ l0 t248 t249 _ ?side1 ?side2 A5.out).mono ?_); (case side1 => repeat (first | exact HR0.out | (with_reducible refine Kd.C_alloc ?_ _) | (with_reducible refine Kd.C_drewN ?_ _) | (with_reducible refine Kd.C_drew ?_))); (case side2 => exact HC0.out); rintro e w16 ⟨rfl, hb⟩; refine ⟨_, rfl, ?_⟩; replace HB := Aside0.mk (bst HB.out hb); (try clear hb); (try clear hb2); (try clear hk); (try clear hi)))
       go_ret
       exact bfin (bel HB.out)
      ·rw [if_neg c15] at H
       have c15b0 : decide (a3 < 0) = false := decide_eq_false c15
       clear c15
       by_cases c17 : a3 > 20
       ·rw [if_pos c17] at H
        have c17b0 : decide (20 < a3) = true := decide_eq_true c17
        clear c17
        obtain rfl := Option.some.inj H
        go_enter Try.func53, Try.ntmps53
        go_wp2_with (first | ((with_reducible refine gate_callee (f := 42) rfl ?_); refine gsl (some 13) Try.func42 #[.slice A0 l0.length c0] ?_; (with_reducible refine (r07_Height.calls k _ _ l0 t248 t249 _ ?side1 ?side2 A5.out).mono ?_); (case side1 => repeat (first | exact HR0.out | (with_reducible refine Kd.C_alloc ?_ _) | (with_reducible refine Kd.C_drewN ?_ _) | (with_reducible refine Kd.C_drew ?_))); (case side2 => exact HC0.out); rintro e w18 ⟨rfl, hb⟩; refine ⟨_, rfl, ?_⟩; replace HB := Aside0.mk (bst HB.out hb); (try clear hb); (try clear hb2); (try clear hk); (try clear hi)))
        go_ret
        exact bfin (bel HB.out)
       ·rw [if_neg c17] at H
        have c17b0 : decide (20 < a3) = false := decide_eq_false c17
        clear c17
        obtain rfl := Option.some.inj H
        go_enter Try.func53, Try.ntmps53
        go_wp2_with (first | ((with_reducible refine gate_callee (f := 42) rfl ?_); refine gsl (some 13) Try.func42 #[.slice A0 l0.length c0] ?_; (with_reducible refine (r07_Height.calls k _ _ l0 t248 t249 _ ?side1 ?side2 A5.out).mono ?_); (case side1 => repeat (first | exact HR0.out | (with_reducible refine Kd.C_alloc ?_ _) | (with_reducible refine Kd.C_drewN ?_ _) | (with_reducible refine Kd.C_drew ?_))); (case side2 => exact HC0.out); rintro e w19 ⟨rfl, hb⟩; refine ⟨_, rfl, ?_⟩; replace HB := Aside0.mk (bst HB.out hb); (try clear hb); (try clear hb2); (try clear hk); (try clear hi)))
        go_ret
        exact bfin (bel HB.out)
 ·rw [if_neg c6] at H
  have c6b0 : (t249 == 0) = false := beq_eq_false_iff_ne.mpr c6
  have c6b1 : (t249 != 0) = true := bne_iff_ne.mpr c6
  obtain rfl := Option.some.inj H
  go_enter Try.func53, Try.ntmps53
  go_wp2_with (first | ((with_reducible refine gate_callee (f := 42) rfl ?_); refine gsl (some 13) Try.func42 #[.slice A0 l0.length c0] ?_; (with_reducible refine (r07_Height.calls k _ _ l0 t248 t249 _ ?side1 ?side2 A5.out).mono ?_); (case side1 => repeat (first | exact HR0.out | (with_reducible refine Kd.C_alloc ?_ _) | (with_reducible refine Kd.C_drewN ?_ _) | (with_reducible refine Kd.C_drew ?_))); (case side2 => exact HC0.out); rintro e w20 ⟨rfl, hb⟩; refine ⟨_, rfl, ?_⟩; replace HB := Aside0.mk (bst HB.out hb); (try clear hb); (try clear hb2); (try clear hk); (try clear hi)))
  go_ret
  exact bfin (bel HB.out)

/-! ### r07_apart: function 55 -/
def r07_apart.f (a0 : Int) (a1 : Int) : Option (Int) := some (wrap64 ((mx a0 a1) - (mn a0 a1)))
set_option maxHeartbeats 8000000 in
set_option maxRecDepth 100000 in
theorem r07_apart.calls (a0 : Int) (a1 : Int) (r : Int) (w : World) (h : r07_apart.f a0 a1 = some r) :
  Calls Try.prog 55 #[.int .i64 a0, .int .i64 a1] w fun e w' => e = .returned (.int .i64 r) ∧ Below w.heap.size w w' := by
 have HB := Aside0.mk (Below.refl w.heap.size w)
 have H : (some (wrap64 ((mx a0 a1) - (mn a0 a1)))) = some r := h
 clear h
 obtain ⟨ji3, hji3⟩ : ∃ j_ : Int, (mx a0 a1) = j_ := ⟨_, rfl⟩
 replace H : (some (wrap64 ((ji3) - (mn a0 a1)))) = some r := by first | (rw [hji3] at H; exact H) | (simp only [hji3] at H ⊢; exact H)
 have hji3_ : (if a0 < a1 then a1 else a0) = ji3 := hji3
 obtain ⟨ji4, hji4⟩ : ∃ j_ : Int, (mn a0 a1) = j_ := ⟨_, rfl⟩
 replace H : (some (wrap64 ((ji3) - (ji4)))) = some r := by first | (rw [hji4] at H; exact H) | (simp only [hji4] at H ⊢; exact H)
 have hji4_ : (if a1 < a0 then a1 else a0) = ji4 := hji4
 obtain rfl := Option.some.inj H
 go_enter Try.func55, Try.ntmps55
 go_wp2
 go_ret
 exact ⟨by first | rfl | (simp [errW_none, errW_some] <;> rfl) | (simp only [← hji3, ← hji4]; first | rfl | (simp [errW_none, errW_some] <;> rfl)) | (simp [*, errW_none, errW_some] <;> rfl), bel HB.out⟩

/-! ### r07_Nearest: function 54 -/
def r07_Nearest.l0 : Nat → Int → List Int → Int → Int → Option (Int × Int)
 | 0, _, _, _, _ => none
 | k + 1, x1, x7, x8, x9 => if x9 < (x7.length : Int) then (if 0 ≤ x9 then ((r07_apart.f (rd x7 x9) x1).bind fun t255 => (if 0 ≤ x8 then (if x8 < (x7.length : Int) then ((r07_apart.f (rd x7 x8) x1).bind fun t257 => (if t255 < t257 then (r07_Nearest.l0 k x1 x7 x9 (wrap64 (x9 + 1))) else (r07_Nearest.l0 k x1 x7 x8 (wrap64 (x9 + 1))))) else (none)) else (none))) else (none)) else (some (x8, 0))
def r07_Nearest.f (k : Nat) (l0 : List Int) (a1 : Int) : Option (Int × Int) := (r07_asked.f k l0 a1 0 0).bind fun t250 => (if t250 = 0 then ((r07_positions.f k l0).bind fun t251 => (r07_Nearest.l0 k a1 t251 0 1)) else (some (0, t250)))
theorem r07_Nearest.mono_l : ∀ k, (∀ y0 y1 y2 y3, LeO (r07_Nearest.l0 k y0 y1 y2 y3) (r07_Nearest.l0 (k + 1) y0 y1 y2 y3))
 | 0 => fun _ _ _ _ r h => by simp [r07_Nearest.l0] at h
 | k + 1 => by
  have ih0 := r07_Nearest.mono_l k
  ·intro y0 y1 y2 y3
   unfold r07_Nearest.l0
   repeat' first
   | (with_reducible exact ih0 _ _ _ _)
   | (with_reducible exact r07_asked.mono _ _ _ _ _)
   | (with_reducible exact r07_positions.mono _ _)
   | (with_reducible exact LeO.refl _)
   | (with_reducible exact LeO.none _)
   | (with_reducible refine LeO.ite ?_ ?_)
   | (with_reducible refine LeO.bind ?_ (fun _ => ?_))
   | exact ih0 _ _ _ _
   | exact r07_asked.mono _ _ _ _ _
   | exact r07_positions.mono _ _
   | exact LeO.none _
   | refine LeO.ite ?_ ?_
   | refine LeO.bind ?_ (fun _ => ?_)
theorem r07_Nearest.mono : ∀ a0 a1 k, LeO (r07_Nearest.f k a0 a1) (r07_Nearest.f (k + 1) a0 a1) := by
 intro a0 a1 k
 have ih0 := r07_Nearest.mono_l k
 unfold r07_Nearest.f
 repeat' first
   | (with_reducible exact ih0 _ _ _ _)
   | (with_reducible exact r07_asked.mono _ _ _ _ _)
   | (with_reducible exact r07_positions.mono _ _)
   | (with_reducible exact LeO.refl _)
   | (with_reducible exact LeO.none _)
   | (with_reducible refine LeO.ite ?_ ?_)
   | (with_reducible refine LeO.bind ?_ (fun _ => ?_))
   | exact ih0 _ _ _ _
   | exact r07_asked.mono _ _ _ _ _
   | exact r07_positions.mono _ _
   | exact LeO.none _
   | refine LeO.ite ?_ ?_
   | refine LeO.bind ?_ (fun _ => ?_)
def r07_Nearest.T9 : Bool × List (List Nat × List Nat) := (true, [([], []), ([], []), ([0, 1], [0, 1]), ([2], [2]), ([], []), ([3, 4], [3, 4]), ([], []), ([], []), ([6, 7], [6, 7]), ([8], [8]), ([], []), ([9, 10, 5], [9, 10]), ([5, 11], [5, 11])])
def r07_Nearest.B9 : List Nat := [0, 0, 3, 7, 0, 31, 0, 0, 192, 448, 0, 2047, 4095]
theorem r07_Nearest.tab9 : rtab .any (opsOf Try.f54 9) = r07_Nearest.T9 := by kernel_rfl
theorem r07_Nearest.bits9 : waitsOk r07_Nearest.T9.2 r07_Nearest.B9 = true := by kernel_rfl
set_option maxHeartbeats 8000000 in
set_option maxRecDepth 100000 in
theorem r07_Nearest.calls (k : Nat) (A0 : Option Addr) (c0 : Nat) (l0 : List Int) (a1 : Int) (r1 : Int) (r2 : Int) (w : World) (hr0 : Kd.C (Kd.int .i64) w A0 l0.length l0) (hc0 : l0.length ≤ c0) (h : r07_Nearest.f k l0 a1 = some (r1, r2)) :
  Calls Try.prog 54 #[.slice A0 l0.length c0, .int .i64 a1] w fun e w' => e = .returned (.tuple #[.int .i64 r1, .int .i64 r2]) ∧ Below w.heap.size w w' := by
 have HR0 := Aside0.mk hr0
 have HC0 := Aside0.mk hc0
 clear hr0 hc0
 have HB := Aside0.mk (Below.refl w.heap.size w)
 have H : ((r07_asked.f k l0 a1 0 0).bind fun t250 => (if t250 = 0 then ((r07_positions.f k l0).bind fun t251 => (r07_Nearest.l0 k a1 t251 0 1)) else (some (0, t250)))) = some (r1, r2) := h
 clear h
 replace H := Option.bind_eq_some_iff.mp H
 obtain ⟨t250, A30, H⟩ := H
 replace H : (if t250 = 0 then ((r07_positions.f k l0).bind fun t251 => (r07_Nearest.l0 k a1 t251 0 1)) else (some (0, t250))) = some (r1, r2) := H
 have A3 := Aside0.mk A30
 clear A30
 by_cases c4 : t250 = 0
 ·rw [if_pos c4] at H
  have c4b0 : (t250 == 0) = true := beq_iff_eq.mpr c4
  have c4b1 : (t250 != 0) = false := bne_eq_false_iff_eq.mpr c4
  clear c4
  replace H := Option.bind_eq_some_iff.mp H
  obtain ⟨t251, A50, H⟩ := H
  replace H : (r07_Nearest.l0 k a1 t251 0 1) = some (r1, r2) := H
  have A5 := Aside0.mk A50
  clear A50
  have H' := Aside0.mk H
  clear H
  go_enter Try.func54, Try.ntmps54
  go_wp2_with (first | ((with_reducible refine gate_callee (f := 53) rfl ?_); refine gsl (some 12) Try.func53 #[.slice A0 l0.length c0, .int .i64 a1, .int .i64 0, .int .i64 0] ?_; (with_reducible refine (r07_asked.calls k _ _ l0 a1 0 0 t250 _ ?side1 ?side2 A3.out).mono ?_); (case side1 => repeat (first | exact HR0.out | (with_reducible refine Kd.C_alloc ?_ _) | (with_reducible refine Kd.C_drewN ?_ _) | (with_reducible refine Kd.C_drew ?_))); (case side2 => exact HC0.out); rintro e w6 ⟨rfl, hb⟩; refine ⟨_, rfl, ?_⟩; replace HB := Aside0.mk (bst HB.out hb); (try clear hb); (try clear hb2); (try clear hk); (try clear hi)) | ((with_reducible refine gate_callee (f := 56) rfl ?_); refine gsl (some 17) Try.func56 #[.slice A0 l0.length c0] ?_; (with_reducible refine (r07_positions.calls k _ _ l0 t251 _ ?side1 ?side2 A5.out).mono ?_); (case side1 => repeat (first | exact (Kd.C_below HR0.out HB.out) | (with_reducible refine Kd.C_alloc ?_ _) | (with_reducible refine Kd.C_drewN ?_ _) | (with_reducible refine Kd.C_drew ?_))); (case side2 => exact HC0.out); rintro e w7 ⟨v252, rfl, ho0, hb⟩; refine ⟨_, rfl, ?_⟩; have HO253 := Aside0.mk (Kd.R_lower ho0 (bsz HB.out)); replace HB := Aside0.mk (bst HB.out hb); (try clear hb); (try clear hb2); (try clear hk); (try clear hi); (try clear ho0)))
  go_loopg [8, 9] k (fun kq v8 v9 w' => ∃ (x8_1 : Int) (x9_1 : Int), v8 = .int .i64 x8_1 ∧ v9 = .int .i64 x9_1 ∧ Aside0 (r07_Nearest.l0 kq a1 t251 x8_1 x9_1 = some (r1, r2)) ∧ Aside0 (kq ≤ k) ∧ Aside0 (Kd.R (Kd.int .i64) 3 w' w.heap.size (fun _ => True) v252 t251) ∧ Aside0 (Below w.heap.size w w'))
  case atStart => exact ⟨(0), (1), (by first | rfl | (simp; done) | (simp [*]; done)), (by first | rfl | (simp; done) | (simp [*]; done)), H', ⟨Nat.le_refl _⟩, ⟨kdt HO253.out⟩, ⟨bel HB.out⟩⟩
  case round =>
   clear H'
   try clear p2
   try clear c4
   try clear c4b0
   try clear c4b1
   try clear c5
   obtain ⟨x8_1, x9_1, rfl, rfl, HA, HK1, HO_7, HB⟩ := hrel
   cases gk with
   | zero => exact absurd HA.out (by simp [r07_Nearest.l0])
   | succ k1 =>
    have H := HA.out
    clear HA
    simp only [r07_Nearest.l0] at H
    by_cases c8 : x9_1 < (t251.length : Int)
    ·rw [if_pos c8] at H
     have c8b0 : decide (x9_1 < (t251.length : Int)) = true := decide_eq_true c8
     clear c8
     by_cases c9 : 0 ≤ x9_1
     ·rw [if_pos c9] at H
      have c9b0 : decide (0 ≤ x9_1) = true := decide_eq_true c9
      clear c9
      replace H := Option.bind_eq_some_iff.mp H
      obtain ⟨t255, A100, H⟩ := H
      replace H : (if 0 ≤ x8_1 then (if x8_1 < (t251.length : Int) then ((r07_apart.f (rd t251 x8_1) a1).bind fun t257 => (if t255 < t257 then (r07_Nearest.l0 k1 a1 t251 x9_1 (wrap64 (x9_1 + 1))) else (r07_Nearest.l0 k1 a1 t251 x8_1 (wrap64 (x9_1 + 1))))) else (none)) else (none)) = some (r1, r2) := H
      have A10 := Aside0.mk A100
      clear A100
      by_cases c11 : 0 ≤ x8_1
      ·rw [if_pos c11] at H
       have c11b0 : decide (0 ≤ x8_1) = true := decide_eq_true c11
       clear c11
       by_cases c12 : x8_1 < (t251.length : Int)
       ·rw [if_pos c12] at H
        have c12b0 : decide (x8_1 < (t251.length : Int)) = true := decide_eq_true c12
        clear c12
        replace H := Option.bind_eq_some_iff.mp H
        obtain ⟨t257, A130, H⟩ := H
        replace H : (if t255 < t257 then (r07_Nearest.l0 k1 a1 t251 x9_1 (wrap64 (x9_1 + 1))) else (r07_Nearest.l0 k1 a1 t251 x8_1 (wrap64 (x9_1 + 1)))) = some (r1, r2) := H
        have A13 := Aside0.mk A130
        clear A130
        by_cases c14 : t255 < t257
        ·rw [if_pos c14] at H
         have c14b0 : decide (t255 < t257) = true := decide_eq_true c14
         clear c14
         have H' := Aside0.mk H
         clear H
         obtain ⟨Ao15, co15, eo15⟩ := Kd.R_slice HO_7.out
         subst eo15
         try go_wp2
         have n0_ := Aside0.mk (Kd.R_drew HO_7.out)
         have n1_ := Aside0.mk (below_drew1 HB.out)
         clear HO_7
         clear HB
         have HO_7 := n0_
         have HB := n1_
         clear n0_ n1_
         have p254 : 0 ≤ (x9_1 : Int) := of_decide_eq_true (by first | (with_reducible assumption) | assumption)
         have q254 : x9_1 < (t251.length : Int) := of_decide_eq_true (by first | (with_reducible assumption) | assumption)
         obtain ⟨ad254, e254, hx254_0⟩ := Kd.at_int (Kd.R_reads' HO_7.out).2.2 x9_1 p254 q254
         cases e254
         replace p254 := eq_true p254
         replace q254 := eq_true q254
         have p256 : 0 ≤ (x8_1 : Int) := of_decide_eq_true (by first | (with_reducible assumption) | assumption)
         have q256 : x8_1 < (t251.length : Int) := of_decide_eq_true (by first | (with_reducible assumption) | assumption)
         obtain ⟨ad256, e256, hx256_0⟩ := Kd.at_int (Kd.R_reads' HO_7.out).2.2 x8_1 p256 q256
         obtain rfl : ad254 = ad256 := (by injection e256)
         replace p256 := eq_true p256
         replace q256 := eq_true q256
         refine start_ (n := 13) (S := fun w' => w'.cell? (ad254.add (x9_1).toNat) = some (.int .i64 (rd t251 x9_1)) ∧ w'.cell? (ad254.add (x8_1).toNat) = some (.int .i64 (rd t251 x8_1))) (ds := []) #[false, false, false, false, false, false, false, false, false, false, false, false, false] (by kernel_rfl) rfl rfl ⟨hx254_0, hx256_0⟩ (fun hHeld => ?_); refine with_tabW r07_Nearest.tab9 r07_Nearest.bits9 (fun HT_ HW_ => ?_)
         generalize wr.drew = w16 at HO_7 HB hx254_0 hx256_0 hHeld ⊢
         refine pur 0 (some 24) (bm 13 1) HT_.out ?_
         refine pur 1 (some 25) (bm 13 3) HT_.out ?_
         refine pur 2 (some 26) (bm 13 7) HT_.out ?_
         refine pur 4 (some 28) (bm 13 23) HT_.out ?_
         refine pur 6 (some 30) (bm 13 87) HT_.out ?_
         refine pur 7 (some 31) (bm 13 215) HT_.out ?_
         refine pur 8 (some 32) (bm 13 471) HT_.out ?_
         refine pur 10 (some 34) (bm 13 1495) HT_.out ?_
         refine tkp 3 (some 27) (bm 13 1503) HT_.out HW_.out hHeld ?_
         refine tkp 9 (some 33) (bm 13 2015) HT_.out HW_.out hHeld ?_
         refine one_ (i := 5) (N := some 29) (bm 13 2047) rfl rfl (one_of HT_.out (by kernel_rfl)) (by decide) (fun K hK => ?_)
         refine goes_ Try.func55 (by kernel_rfl) rfl #[.int .i64 (rd t251 x9_1), .int .i64 a1] (by rfl) rfl rfl (by (try simp only [List.map_toArray, List.map_cons, List.map_nil]); first | done | rfl | (simp only [List.length_drop, List.length_take]; rfl)) ?_
         with_reducible refine (r07_apart.calls (rd t251 x9_1) a1 t255 _ A10.out).mono ?_
         rintro e w17 ⟨rfl, hb⟩
         have HS0_ := (hb.cell (World.block_lt_of_cell? _ _ (hHeld.1))).trans (hHeld.1)
         have HS1_ := (hb.cell (World.block_lt_of_cell? _ _ (hHeld.2))).trans (hHeld.2)
         refine ⟨_, rfl, ?_⟩
         have n0_ := Aside0.mk (Kd.R_below (kdt HO_7.out) hb)
         have n1_ := Aside0.mk (bst HB.out hb)
         clear HO_7
         clear HB
         have HO_7 := n0_
         have HB := n1_
         clear n0_ n1_
         (try clear hb)
         (try clear hb2)
         (try clear hk)
         (try clear hi)
         refine hK.out _ _ ⟨HS0_, HS1_⟩ (fun hHeld => ?_)
         clear hK K
         refine norm_ (a' := ?_) ?_ ?_
         rotate_left
         ·show Act.put _ (some 29) _ = _
          simp only [Act.put, List.setIfInBounds_toArray, List.set_cons_zero, List.set_cons_succ, i64_w, i32_w]
          rfl
         refine one_ (i := 11) (N := some 35) (bm 13 4095) rfl rfl (one_of HT_.out (by kernel_rfl)) (by decide) (fun K hK => ?_)
         refine goes_ Try.func55 (by kernel_rfl) rfl #[.int .i64 (rd t251 x8_1), .int .i64 a1] (by rfl) rfl rfl (by (try simp only [List.map_toArray, List.map_cons, List.map_nil]); first | done | rfl | (simp only [List.length_drop, List.length_take]; rfl)) ?_
         with_reducible refine (r07_apart.calls (rd t251 x8_1) a1 t257 _ A13.out).mono ?_
         rintro e w18 ⟨rfl, hb⟩
         have HS0_ := (hb.cell (World.block_lt_of_cell? _ _ (hHeld.1))).trans (hHeld.1)
         have HS1_ := (hb.cell (World.block_lt_of_cell? _ _ (hHeld.2))).trans (hHeld.2)
         refine ⟨_, rfl, ?_⟩
         have n0_ := Aside0.mk (Kd.R_below (kdt HO_7.out) hb)
         have n1_ := Aside0.mk (bst HB.out hb)
         clear HO_7
         clear HB
         have HO_7 := n0_
         have HB := n1_
         clear n0_ n1_
         (try clear hb)
         (try clear hb2)
         (try clear hk)
         (try clear hi)
         refine hK.out _ _ ⟨HS0_, HS1_⟩ (fun hHeld => ?_)
         clear hK K
         refine norm_ (a' := ?_) ?_ ?_
         rotate_left
         ·show Act.put _ (some 35) _ = _
          simp only [Act.put, List.setIfInBounds_toArray, List.set_cons_zero, List.set_cons_succ, i64_w, i32_w]
          rfl
         refine pur 12 (some 36) (bm 13 8191) HT_.out ?_
         refine done_ (done_of HT_.out (by kernel_rfl)) ?_
         try go_wp2
         go_roundg k1
         case measure => have := HK1.out; omega
         case rel => exact ⟨(x9_1), (wrap64 (x9_1 + 1)), (by first | rfl | (simp; done) | (simp [*]; done)), (by first | rfl | (simp; done) | (simp [*]; done)), H', ⟨by have := HK1.out; omega⟩, ⟨kdt HO_7.out⟩, ⟨bel HB.out⟩⟩
        ·rw [if_neg c14] at H
         have c14b0 : decide (t255 < t257) = false := decide_eq_false c14
         clear c14
         have H' := Aside0.mk H
         clear H
         obtain ⟨Ao19, co19, eo19⟩ := Kd.R_slice HO_7.out
         subst eo19
         try go_wp2
         have n0_ := Aside0.mk (Kd.R_drew HO_7.out)
         have n1_ := Aside0.mk (below_drew1 HB.out)
         clear HO_7
         clear HB
         have HO_7 := n0_
         have HB := n1_
         clear n0_ n1_
         have p254 : 0 ≤ (x9_1 : Int) := of_decide_eq_true (by first | (with_reducible assumption) | assumption)
         have q254 : x9_1 < (t251.length : Int) := of_decide_eq_true (by first | (with_reducible assumption) | assumption)
         obtain ⟨ad254, e254, hx254_0⟩ := Kd.at_int (Kd.R_reads' HO_7.out).2.2 x9_1 p254 q254
         cases e254
         replace p254 := eq_true p254
         replace q254 := eq_true q254
         have p256 : 0 ≤ (x8_1 : Int) := of_decide_eq_true (by first | (with_reducible assumption) | assumption)
         have q256 : x8_1 < (t251.length : Int) := of_decide_eq_true (by first | (with_reducible assumption) | assumption)
         obtain ⟨ad256, e256, hx256_0⟩ := Kd.at_int (Kd.R_reads' HO_7.out).2.2 x8_1 p256 q256
         obtain rfl : ad254 = ad256 := (by injection e256)
         replace p256 := eq_true p256
         replace q256 := eq_true q256
         refine start_ (n := 13) (S := fun w' => w'.cell? (ad254.add (x9_1).toNat) = some (.int .i64 (rd t251 x9_1)) ∧ w'.cell? (ad254.add (x8_1).toNat) = some (.int .i64 (rd t251 x8_1))) (ds := []) #[false, false, false, false, false, false, false, false, false, false, false, false, false] (by kernel_rfl) rfl rfl ⟨hx254_0, hx256_0⟩ (fun hHeld => ?_); refine with_tabW r07_Nearest.tab9 r07_Nearest.bits9 (fun HT_ HW_ => ?_)
         generalize wr.drew = w20 at HO_7 HB hx254_0 hx256_0 hHeld ⊢
         refine pur 0 (some 24) (bm 13 1) HT_.out ?_
         refine pur 1 (some 25) (bm 13 3) HT_.out ?_
         refine pur 2 (some 26) (bm 13 7) HT_.out ?_
         refine pur 4 (some 28) (bm 13 23) HT_.out ?_
         refine pur 6 (some 30) (bm 13 87) HT_.out ?_
         refine pur 7 (some 31) (bm 13 215) HT_.out ?_
         refine pur 8 (some 32) (bm 13 471) HT_.out ?_
         refine pur 10 (some 34) (bm 13 1495) HT_.out ?_
         refine tkp 3 (some 27) (bm 13 1503) HT_.out HW_.out hHeld ?_
         refine tkp 9 (some 33) (bm 13 2015) HT_.out HW_.out hHeld ?_
         refine one_ (i := 5) (N := some 29) (bm 13 2047) rfl rfl (one_of HT_.out (by kernel_rfl)) (by decide) (fun K hK => ?_)
         refine goes_ Try.func55 (by kernel_rfl) rfl #[.int .i64 (rd t251 x9_1), .int .i64 a1] (by rfl) rfl rfl (by (try simp only [List.map_toArray, List.map_cons, List.map_nil]); first | done | rfl | (simp only [List.length_drop, List.length_take]; rfl)) ?_
         with_reducible refine (r07_apart.calls (rd t251 x9_1) a1 t255 _ A10.out).mono ?_
         rintro e w21 ⟨rfl, hb⟩
         have HS0_ := (hb.cell (World.block_lt_of_cell? _ _ (hHeld.1))).trans (hHeld.1)
         have HS1_ := (hb.cell (World.block_lt_of_cell? _ _ (hHeld.2))).trans (hHeld.2)
         refine ⟨_, rfl, ?_⟩
         have n0_ := Aside0.mk (Kd.R_below (kdt HO_7.out) hb)
         have n1_ := Aside0.mk (bst HB.out hb)
         clear HO_7
         clear HB
         have HO_7 := n0_
         have HB := n1_
         clear n0_ n1_
         (try clear hb)
         (try clear hb2)
         (try clear hk)
         (try clear hi)
         refine hK.out _ _ ⟨HS0_, HS1_⟩ (fun hHeld => ?_)
         clear hK K
         refine norm_ (a' := ?_) ?_ ?_
         rotate_left
         ·show Act.put _ (some 29) _ = _
          simp only [Act.put, List.setIfInBounds_toArray, List.set_cons_zero, List.set_cons_succ, i64_w, i32_w]
          rfl
         refine one_ (i := 11) (N := some 35) (bm 13 4095) rfl rfl (one_of HT_.out (by kernel_rfl)) (by decide) (fun K hK => ?_)
         refine goes_ Try.func55 (by kernel_rfl) rfl #[.int .i64 (rd t251 x8_1), .int .i64 a1] (by rfl) rfl rfl (by (try simp only [List.map_toArray, List.map_cons, List.map_nil]); first | done | rfl | (simp only [List.length_drop, List.length_take]; rfl)) ?_
         with_reducible refine (r07_apart.calls (rd t251 x8_1) a1 t257 _ A13.out).mono ?_
         rintro e w22 ⟨rfl, hb⟩
         have HS0_ := (hb.cell (World.block_lt_of_cell? _ _ (hHeld.1))).trans (hHeld.1)
         have HS1_ := (hb.cell (World.block_lt_of_cell? _ _ (hHeld.2))).trans (hHeld.2)
         refine ⟨_, rfl, ?_⟩
         have n0_ := Aside0.mk (Kd.R_below (kdt HO_7.out) hb)
         have n1_ := Aside0.mk (bst HB.out hb)
         clear HO_7
         clear HB
         have HO_7 := n0_
         have HB := n1_
         clear n0_ n1_
         (try clear hb)
         (try clear hb2)
         (try clear hk)
         (try clear hi)
         refine hK.out _ _ ⟨HS0_, HS1_⟩ (fun hHeld => ?_)
         clear hK K
         refine norm_ (a' := ?_) ?_ ?_
         rotate_left
         ·show Act.put _ (some 35) _ = _
          simp only [Act.put, List.setIfInBounds_toArray, List.set_cons_zero, List.set_cons_succ, i64_w, i32_w]
          rfl
         refine pur 12 (some 36) (bm 13 8191) HT_.out ?_
         refine done_ (done_of HT_.out (by kernel_rfl)) ?_
         try go_wp2
         go_roundg k1
         case measure => have := HK1.out; omega
         case rel => exact ⟨(x8_1), (wrap64 (x9_1 + 1)), (by first | rfl | (simp; done) | (simp [*]; done)), (by first | rfl | (simp; done) | (simp [*]; done)), H', ⟨by have := HK1.out; omega⟩, ⟨kdt HO_7.out⟩, ⟨bel HB.out⟩⟩
       ·rw [if_neg c12] at H
        exact absurd H (by simp)
      ·rw [if_neg c11] at H
       exact absurd H (by simp)
     ·rw [if_neg c9] at H
      exact absurd H (by simp)
    ·rw [if_neg c8] at H
     have c8b0 : decide (x9_1 < (t251.length : Int)) = false := decide_eq_false c8
     clear c8
     simp only [Option.some.injEq, Prod.mk.injEq] at H
     obtain ⟨rfl, rfl⟩ := H
     obtain ⟨Ao23, co23, eo23⟩ := Kd.R_slice HO_7.out
     subst eo23
     go_wp2
     go_ret2
     exact bfin (bel HB.out)
 ·rw [if_neg c4] at H
  have c4b0 : (t250 == 0) = false := beq_eq_false_iff_ne.mpr c4
  have c4b1 : (t250 != 0) = true := bne_iff_ne.mpr c4
  simp only [Option.some.injEq, Prod.mk.injEq] at H
  obtain ⟨rfl, rfl⟩ := H
  go_enter Try.func54, Try.ntmps54
  go_wp2_with (first | ((with_reducible refine gate_callee (f := 53) rfl ?_); refine gsl (some 12) Try.func53 #[.slice A0 l0.length c0, .int .i64 a1, .int .i64 0, .int .i64 0] ?_; (with_reducible refine (r07_asked.calls k _ _ l0 a1 0 0 t250 _ ?side1 ?side2 A3.out).mono ?_); (case side1 => repeat (first | exact HR0.out | (with_reducible refine Kd.C_alloc ?_ _) | (with_reducible refine Kd.C_drewN ?_ _) | (with_reducible refine Kd.C_drew ?_))); (case side2 => exact HC0.out); rintro e w24 ⟨rfl, hb⟩; refine ⟨_, rfl, ?_⟩; replace HB := Aside0.mk (bst HB.out hb); (try clear hb); (try clear hb2); (try clear hk); (try clear hi)))
  go_ret2
  exact bfin (bel HB.out)

/-! ### r07_At: function 40 -/
def r07_At.f (k : Nat) (l0 : List Int) (a1 : Int) (a2 : Int) : Option (Int × Int) := (r07_asked.f k l0 a1 0 a2).bind fun t258 => (if t258 = 0 then ((r07_Nearest.f k l0 a1).bind fun bt259 => ((r07_positions.f k l0).bind fun t261 => (if 0 ≤ bt259.1 then (if bt259.1 < (t261.length : Int) then ((r07_apart.f (rd t261 bt259.1) a1).bind fun t265 => (if t265 > a2 then (some (0, 6)) else (some (bt259.1, 0)))) else (none)) else (none)))) else (some (0, t258)))
theorem r07_At.mono : ∀ a0 a1 a2 k, LeO (r07_At.f k a0 a1 a2) (r07_At.f (k + 1) a0 a1 a2) := by
 intro a0 a1 a2 k
 unfold r07_At.f
 repeat' first
   | (with_reducible exact r07_Nearest.mono _ _ _)
   | (with_reducible exact r07_asked.mono _ _ _ _ _)
   | (with_reducible exact r07_positions.mono _ _)
   | (with_reducible exact LeO.refl _)
   | (with_reducible exact LeO.none _)
   | (with_reducible refine LeO.ite ?_ ?_)
   | (with_reducible refine LeO.bind ?_ (fun _ => ?_))
   | exact r07_Nearest.mono _ _ _
   | exact r07_asked.mono _ _ _ _ _
   | exact r07_positions.mono _ _
   | exact LeO.none _
   | refine LeO.ite ?_ ?_
   | refine LeO.bind ?_ (fun _ => ?_)
set_option maxHeartbeats 8000000 in
set_option maxRecDepth 100000 in
theorem r07_At.calls (k : Nat) (A0 : Option Addr) (c0 : Nat) (l0 : List Int) (a1 : Int) (a2 : Int) (r1 : Int) (r2 : Int) (w : World) (hr0 : Kd.C (Kd.int .i64) w A0 l0.length l0) (hc0 : l0.length ≤ c0) (h : r07_At.f k l0 a1 a2 = some (r1, r2)) :
  Calls Try.prog 40 #[.slice A0 l0.length c0, .int .i64 a1, .int .i64 a2] w fun e w' => e = .returned (.tuple #[.int .i64 r1, .int .i64 r2]) ∧ Below w.heap.size w w' := by
 have HR0 := Aside0.mk hr0
 have HC0 := Aside0.mk hc0
 clear hr0 hc0
 have HB := Aside0.mk (Below.refl w.heap.size w)
 have H : ((r07_asked.f k l0 a1 0 a2).bind fun t258 => (if t258 = 0 then ((r07_Nearest.f k l0 a1).bind fun bt259 => ((r07_positions.f k l0).bind fun t261 => (if 0 ≤ bt259.1 then (if bt259.1 < (t261.length : Int) then ((r07_apart.f (rd t261 bt259.1) a1).bind fun t265 => (if t265 > a2 then (some (0, 6)) else (some (bt259.1, 0)))) else (none)) else (none)))) else (some (0, t258)))) = some (r1, r2) := h
 clear h
 replace H := Option.bind_eq_some_iff.mp H
 obtain ⟨t258, A40, H⟩ := H
 replace H : (if t258 = 0 then ((r07_Nearest.f k l0 a1).bind fun bt259 => ((r07_positions.f k l0).bind fun t261 => (if 0 ≤ bt259.1 then (if bt259.1 < (t261.length : Int) then ((r07_apart.f (rd t261 bt259.1) a1).bind fun t265 => (if t265 > a2 then (some (0, 6)) else (some (bt259.1, 0)))) else (none)) else (none)))) else (some (0, t258))) = some (r1, r2) := H
 have A4 := Aside0.mk A40
 clear A40
 by_cases c5 : t258 = 0
 ·rw [if_pos c5] at H
  have c5b0 : (t258 == 0) = true := beq_iff_eq.mpr c5
  have c5b1 : (t258 != 0) = false := bne_eq_false_iff_eq.mpr c5
  clear c5
  replace H := Option.bind_eq_some_iff.mp H
  obtain ⟨⟨t259, t260⟩, A60, H⟩ := H
  replace H : ((r07_positions.f k l0).bind fun t261 => (if 0 ≤ t259 then (if t259 < (t261.length : Int) then ((r07_apart.f (rd t261 t259) a1).bind fun t265 => (if t265 > a2 then (some (0, 6)) else (some (t259, 0)))) else (none)) else (none))) = some (r1, r2) := H
  have A6 := Aside0.mk A60
  clear A60
  replace H := Option.bind_eq_some_iff.mp H
  obtain ⟨t261, A70, H⟩ := H
  replace H : (if 0 ≤ t259 then (if t259 < (t261.length : Int) then ((r07_apart.f (rd t261 t259) a1).bind fun t265 => (if t265 > a2 then (some (0, 6)) else (some (t259, 0)))) else (none)) else (none)) = some (r1, r2) := H
  have A7 := Aside0.mk A70
  clear A70
  by_cases c8 : 0 ≤ t259
  ·rw [if_pos c8] at H
   have c8b0 : decide (0 ≤ t259) = true := decide_eq_true c8
   clear c8
   by_cases c9 : t259 < (t261.length : Int)
   ·rw [if_pos c9] at H
    have c9b0 : decide (t259 < (t261.length : Int)) = true := decide_eq_true c9
    clear c9
    replace H := Option.bind_eq_some_iff.mp H
    obtain ⟨t265, A100, H⟩ := H
    replace H : (if t265 > a2 then (some (0, 6)) else (some (t259, 0))) = some (r1, r2) := H
    have A10 := Aside0.mk A100
    clear A100
    by_cases c11 : t265 > a2
    ·rw [if_pos c11] at H
     have c11b0 : decide (a2 < t265) = true := decide_eq_true c11
     clear c11
     simp only [Option.some.injEq, Prod.mk.injEq] at H
     obtain ⟨rfl, rfl⟩ := H
     go_enter Try.func40, Try.ntmps40
     go_wp2_with (first | ((with_reducible refine gate_callee (f := 53) rfl ?_); refine gsl (some 14) Try.func53 #[.slice A0 l0.length c0, .int .i64 a1, .int .i64 0, .int .i64 a2] ?_; (with_reducible refine (r07_asked.calls k _ _ l0 a1 0 a2 t258 _ ?side1 ?side2 A4.out).mono ?_); (case side1 => repeat (first | exact HR0.out | (with_reducible refine Kd.C_alloc ?_ _) | (with_reducible refine Kd.C_drewN ?_ _) | (with_reducible refine Kd.C_drew ?_))); (case side2 => exact HC0.out); rintro e w12 ⟨rfl, hb⟩; refine ⟨_, rfl, ?_⟩; replace HB := Aside0.mk (bst HB.out hb); (try clear hb); (try clear hb2); (try clear hk); (try clear hi)) | ((with_reducible refine gate_callee (f := 54) rfl ?_); refine gsl (some 21) Try.func54 #[.slice A0 l0.length c0, .int .i64 a1] ?_; (with_reducible refine (r07_Nearest.calls k _ _ l0 a1 t259 t260 _ ?side1 ?side2 A6.out).mono ?_); (case side1 => repeat (first | exact (Kd.C_below HR0.out HB.out) | (with_reducible refine Kd.C_alloc ?_ _) | (with_reducible refine Kd.C_drewN ?_ _) | (with_reducible refine Kd.C_drew ?_))); (case side2 => exact HC0.out); rintro e w13 ⟨rfl, hb⟩; refine ⟨_, rfl, ?_⟩; replace HB := Aside0.mk (bst HB.out hb); (try clear hb); (try clear hb2); (try clear hk); (try clear hi)) | ((with_reducible refine gate_callee (f := 56) rfl ?_); refine gsl (some 25) Try.func56 #[.slice A0 l0.length c0] ?_; (with_reducible refine (r07_positions.calls k _ _ l0 t261 _ ?side1 ?side2 A7.out).mono ?_); (case side1 => repeat (first | exact (Kd.C_below HR0.out HB.out) | (with_reducible refine Kd.C_alloc ?_ _) | (with_reducible refine Kd.C_drewN ?_ _) | (with_reducible refine Kd.C_drew ?_))); (case side2 => exact HC0.out); rintro e w14 ⟨v262, rfl, ho0, hb⟩; refine ⟨_, rfl, ?_⟩; have HO263 := Aside0.mk (Kd.R_lower ho0 (bsz HB.out)); replace HB := Aside0.mk (bst HB.out hb); (try clear hb); (try clear hb2); (try clear hk); (try clear hi); (try clear ho0); obtain ⟨Ao15, co15, eo15⟩ := Kd.R_slice HO263.out; subst eo15; have p264 : 0 ≤ (t259 : Int) := of_decide_eq_true (by first | (with_reducible assumption) | assumption); have q264 : t259 < (t261.length : Int) := of_decide_eq_true (by first | (with_reducible assumption) | assumption); obtain ⟨ad264, e264, hx264_0⟩ := Kd.at_int (Kd.R_reads' HO263.out).2.2 t259 p264 q264; cases e264; replace p264 := eq_true p264; replace q264 := eq_true q264) | ((with_reducible refine gate_callee (f := 55) rfl ?_); refine gsl (some 30) Try.func55 #[.int .i64 (rd t261 t259), .int .i64 a1] ?_; (with_reducible refine (r07_apart.calls (rd t261 t259) a1 t265 _ A10.out).mono ?_); rintro e w16 ⟨rfl, hb⟩; refine ⟨_, rfl, ?_⟩; replace HO263 := Aside0.mk (Kd.R_below (kdt HO263.out) hb); replace HB := Aside0.mk (bst HB.out hb); (try clear hb); (try clear hb2); (try clear hk); (try clear hi)))
     go_ret2
     exact bfin (bel HB.out)
    ·rw [if_neg c11] at H
     have c11b0 : decide (a2 < t265) = false := decide_eq_false c11
     clear c11
     simp only [Option.some.injEq, Prod.mk.injEq] at H
     obtain ⟨rfl, rfl⟩ := H
     go_enter Try.func40, Try.ntmps40
     go_wp2_with (first | ((with_reducible refine gate_callee (f := 53) rfl ?_); refine gsl (some 14) Try.func53 #[.slice A0 l0.length c0, .int .i64 a1, .int .i64 0, .int .i64 a2] ?_; (with_reducible refine (r07_asked.calls k _ _ l0 a1 0 a2 t258 _ ?side1 ?side2 A4.out).mono ?_); (case side1 => repeat (first | exact HR0.out | (with_reducible refine Kd.C_alloc ?_ _) | (with_reducible refine Kd.C_drewN ?_ _) | (with_reducible refine Kd.C_drew ?_))); (case side2 => exact HC0.out); rintro e w17 ⟨rfl, hb⟩; refine ⟨_, rfl, ?_⟩; replace HB := Aside0.mk (bst HB.out hb); (try clear hb); (try clear hb2); (try clear hk); (try clear hi)) | ((with_reducible refine gate_callee (f := 54) rfl ?_); refine gsl (some 21) Try.func54 #[.slice A0 l0.length c0, .int .i64 a1] ?_; (with_reducible refine (r07_Nearest.calls k _ _ l0 a1 t259 t260 _ ?side1 ?side2 A6.out).mono ?_); (case side1 => repeat (first | exact (Kd.C_below HR0.out HB.out) | (with_reducible refine Kd.C_alloc ?_ _) | (with_reducible refine Kd.C_drewN ?_ _) | (with_reducible refine Kd.C_drew ?_))); (case side2 => exact HC0.out); rintro e w18 ⟨rfl, hb⟩; refine ⟨_, rfl, ?_⟩; replace HB := Aside0.mk (bst HB.out hb); (try clear hb); (try clear hb2); (try clear hk); (try clear hi)) | ((with_reducible refine gate_callee (f := 56) rfl ?_); refine gsl (some 25) Try.func56 #[.slice A0 l0.length c0] ?_; (with_reducible refine (r07_positions.calls k _ _ l0 t261 _ ?side1 ?side2 A7.out).mono ?_); (case side1 => repeat (first | exact (Kd.C_below HR0.out HB.out) | (with_reducible refine Kd.C_alloc ?_ _) | (with_reducible refine Kd.C_drewN ?_ _) | (with_reducible refine Kd.C_drew ?_))); (case side2 => exact HC0.out); rintro e w19 ⟨v262, rfl, ho0, hb⟩; refine ⟨_, rfl, ?_⟩; have HO263 := Aside0.mk (Kd.R_lower ho0 (bsz HB.out)); replace HB := Aside0.mk (bst HB.out hb); (try clear hb); (try clear hb2); (try clear hk); (try clear hi); (try clear ho0); obtain ⟨Ao20, co20, eo20⟩ := Kd.R_slice HO263.out; subst eo20; have p264 : 0 ≤ (t259 : Int) := of_decide_eq_true (by first | (with_reducible assumption) | assumption); have q264 : t259 < (t261.length : Int) := of_decide_eq_true (by first | (with_reducible assumption) | assumption); obtain ⟨ad264, e264, hx264_0⟩ := Kd.at_int (Kd.R_reads' HO263.out).2.2 t259 p264 q264; cases e264; replace p264 := eq_true p264; replace q264 := eq_true q264) | ((with_reducible refine gate_callee (f := 55) rfl ?_); refine gsl (some 30) Try.func55 #[.int .i64 (rd t261 t259), .int .i64 a1] ?_; (with_reducible refine (r07_apart.calls (rd t261 t259) a1 t265 _ A10.out).mono ?_); rintro e w21 ⟨rfl, hb⟩; refine ⟨_, rfl, ?_⟩; replace HO263 := Aside0.mk (Kd.R_below (kdt HO263.out) hb); replace HB := Aside0.mk (bst HB.out hb); (try clear hb); (try clear hb2); (try clear hk); (try clear hi)))
     go_ret2
     exact bfin (bel HB.out)
   ·rw [if_neg c9] at H
    exact absurd H (by simp)
  ·rw [if_neg c8] at H
   exact absurd H (by simp)
 ·rw [if_neg c5] at H
  have c5b0 : (t258 == 0) = false := beq_eq_false_iff_ne.mpr c5
  have c5b1 : (t258 != 0) = true := bne_iff_ne.mpr c5
  simp only [Option.some.injEq, Prod.mk.injEq] at H
  obtain ⟨rfl, rfl⟩ := H
  go_enter Try.func40, Try.ntmps40
  go_wp2_with (first | ((with_reducible refine gate_callee (f := 53) rfl ?_); refine gsl (some 14) Try.func53 #[.slice A0 l0.length c0, .int .i64 a1, .int .i64 0, .int .i64 a2] ?_; (with_reducible refine (r07_asked.calls k _ _ l0 a1 0 a2 t258 _ ?side1 ?side2 A4.out).mono ?_); (case side1 => repeat (first | exact HR0.out | (with_reducible refine Kd.C_alloc ?_ _) | (with_reducible refine Kd.C_drewN ?_ _) | (with_reducible refine Kd.C_drew ?_))); (case side2 => exact HC0.out); rintro e w22 ⟨rfl, hb⟩; refine ⟨_, rfl, ?_⟩; replace HB := Aside0.mk (bst HB.out hb); (try clear hb); (try clear hb2); (try clear hk); (try clear hi)))
  go_ret2
  exact bfin (bel HB.out)

end Go.Proofs.Ytlkphdcfgaolnaa.P
