import Derived.Test.YtmdcjmackhjchaaZad
import Derived.Test.YtmdcjmackhjchaaZat
import Derived.Test.YtmdcjmackhjchaaZar
section
-- Printed by wip/myprint.py of this repo (over the kit's printer). Not trusted: Lean checks it.
namespace Go.Proofs.Ytmdcjmackhjchaa.P
open Go.RowKit Go.Proofs.YtmdcjmackhjchaaW.PrintWords Go.Proofs.YtmdcjmackhjchaaW.PrintLast Go.Proofs.YtmdcjmackhjchaaW.PrintMore
attribute [local go_sem] cell_same1 cell_some1 ix27_0 ix27_1 ix27_2
attribute [local go_sem] max2_int min2_int max_two min_two max_three min_three max_four min_four   -- for this text's walks alone
set_option linter.unusedVariables false
set_option linter.unusedSimpArgs false

/-! ### q_example: function 16 -/
def q_example.l0 : Nat → Int → Int → List Int → Int → Int → Int → Int → Int → Int → Int → Int → Int → Int → Int → List (List Int) → Int → Int → Int → Int → Int → Int → Int → Int → Int → Int → Option (Int × List Int × Int × Int × Int × Int × Int × Int × Int × Int × Int × Int × Int × (List (List Int)) × Int × Int × Int × Int × Int × Int × Int × Int × Int × List Int × Int)
 | 0, _, _, _, _, _, _, _, _, _, _, _, _, _, _, _, _, _, _, _, _, _, _, _, _, _ => none
 | k + 1, x2, x164000, x164001, x164002, x164003, x164004, x164005, x164006, x164007, x164008, x164009, x164010, x164011, x164012, x164013, x164014, x164015, x164016, x164017, x164018, x164019, x164020, x164021, x164022, x164024 => if x2 < 3 then (if x2 = 0 then (q_example.l0 k (wrap64 (x2 + 1)) x164000 x164001 x164002 x164003 x164004 x164005 x164006 x164007 x164008 x164009 x164010 x164011 x164012 x164013 3 0 8 x164017 x164018 x164019 x164020 x164021 x164022 x164024) else (if x2 = 1 then (q_example.l0 k (wrap64 (x2 + 1)) x164000 x164001 x164002 x164003 x164004 x164005 x164006 x164007 x164008 x164009 x164010 x164011 x164012 x164013 x164014 x164015 x164016 3 0 8 x164020 x164021 x164022 x164024) else (if x2 = 2 then (q_example.l0 k (wrap64 (x2 + 1)) x164000 x164001 x164002 x164003 x164004 x164005 x164006 x164007 x164008 x164009 x164010 x164011 x164012 x164013 x164014 x164015 x164016 x164017 x164018 x164019 3 0 8 x164024) else (none)))) else (some (x164000, x164001, x164002, x164003, x164004, x164005, x164006, x164007, x164008, x164009, x164010, x164011, x164012, x164013, x164014, x164015, x164016, x164017, x164018, x164019, x164020, x164021, x164022, ([] : List Int), x164024))
def q_example.f (k : Nat)  : Option (Int × List Int × Int × Int × Int × Int × Int × Int × Int × Int × Int × Int × Int × (List (List Int)) × Int × Int × Int × Int × Int × Int × Int × Int × Int × List Int × Int) := q_example.l0 k 0 2 (([2] : List Int)) 1 1 0 0 1 1 0 50 600 3 2 (([(([1, 2] : List Int))] : List (List Int))) 0 0 0 0 0 0 0 0 0 10
theorem q_example.mono_l : ∀ k, (∀ y0 y1 y2 y3 y4 y5 y6 y7 y8 y9 y10 y11 y12 y13 y14 y15 y16 y17 y18 y19 y20 y21 y22 y23 y24, LeO (q_example.l0 k y0 y1 y2 y3 y4 y5 y6 y7 y8 y9 y10 y11 y12 y13 y14 y15 y16 y17 y18 y19 y20 y21 y22 y23 y24) (q_example.l0 (k + 1) y0 y1 y2 y3 y4 y5 y6 y7 y8 y9 y10 y11 y12 y13 y14 y15 y16 y17 y18 y19 y20 y21 y22 y23 y24))
 | 0 => fun _ _ _ _ _ _ _ _ _ _ _ _ _ _ _ _ _ _ _ _ _ _ _ _ _ r h => by simp [q_example.l0] at h
 | k + 1 => by
  have ih0 := q_example.mono_l k
  ·as_aux_lemma =>
   intro y0 y1 y2 y3 y4 y5 y6 y7 y8 y9 y10 y11 y12 y13 y14 y15 y16 y17 y18 y19 y20 y21 y22 y23 y24
   unfold q_example.l0
   repeat' first
   | (with_reducible exact ih0 _ _ _ _ _ _ _ _ _ _ _ _ _ _ _ _ _ _ _ _ _ _ _ _ _)
   | (with_reducible exact LeO.refl _)
   | (with_reducible exact LeO.none _)
   | (with_reducible refine LeO.ite ?_ ?_)
   | (with_reducible refine LeO.bind ?_ (fun _ => ?_))
   | exact ih0 _ _ _ _ _ _ _ _ _ _ _ _ _ _ _ _ _ _ _ _ _ _ _ _ _
   | exact LeO.none _
   | refine LeO.ite ?_ ?_
   | refine LeO.bind ?_ (fun _ => ?_)
theorem q_example.mono : ∀ k, LeO (q_example.f k ) (q_example.f (k + 1) ) := by
 intro  k
 have ih0 := q_example.mono_l k
 unfold q_example.f
 repeat' first
   | (with_reducible exact ih0 _ _ _ _ _ _ _ _ _ _ _ _ _ _ _ _ _ _ _ _ _ _ _ _ _)
   | (with_reducible exact LeO.refl _)
   | (with_reducible exact LeO.none _)
   | (with_reducible refine LeO.ite ?_ ?_)
   | (with_reducible refine LeO.bind ?_ (fun _ => ?_))
   | exact ih0 _ _ _ _ _ _ _ _ _ _ _ _ _ _ _ _ _ _ _ _ _ _ _ _ _
   | exact LeO.none _
   | refine LeO.ite ?_ ?_
   | refine LeO.bind ?_ (fun _ => ?_)
set_option maxHeartbeats 8000000 in
set_option maxRecDepth 100000 in
theorem q_example.calls (k : Nat)  (r1 : Int) (r2 : List Int) (r3 : Int) (r4 : Int) (r5 : Int) (r6 : Int) (r7 : Int) (r8 : Int) (r9 : Int) (r10 : Int) (r11 : Int) (r12 : Int) (r13 : Int) (r14 : List (List Int)) (r15 : Int) (r16 : Int) (r17 : Int) (r18 : Int) (r19 : Int) (r20 : Int) (r21 : Int) (r22 : Int) (r23 : Int) (r24 : List Int) (r25 : Int) (w : World) (h : q_example.f k  = some (r1, r2, r3, r4, r5, r6, r7, r8, r9, r10, r11, r12, r13, r14, r15, r16, r17, r18, r19, r20, r21, r22, r23, r24, r25)) :
  Calls Try.prog 16 #[] w fun e w' => ∃ v1_ v13_ v23_ : Value, e = .returned (.agg #[.int .i64 r1, v1_, .int .i64 r3, .int .i64 r4, .int .i64 r5, .int .i64 r6, .int .i64 r7, .int .i64 r8, .int .i64 r9, .int .i64 r10, .int .i64 r11, .int .i64 r12, .int .i64 r13, v13_, .int .u64 r15, .int .i64 r16, .int .i64 r17, .int .u64 r18, .int .i64 r19, .int .i64 r20, .int .u64 r21, .int .i64 r22, .int .i64 r23, v23_, .int .i64 r25]) ∧ Kd.R (Kd.int .i64) 3 w' w.heap.size (fun k_ => (w.heap.size ≤ k_) ∧ some k_ ≠ (v23_ : Value).ownBlock) v1_ r2 ∧ Kd.N (Kd.slice 3 (Kd.int .i64)) 22 w' w.heap.size (fun k_ => (w.heap.size ≤ k_) ∧ some k_ ≠ (v1_ : Value).ownBlock ∧ some k_ ≠ (v23_ : Value).ownBlock) v13_ r14 ∧ Kd.R (Kd.int .i64) 3 w' w.heap.size (fun k_ => (w.heap.size ≤ k_) ∧ some k_ ≠ (v1_ : Value).ownBlock) v23_ r24 ∧ Below w.heap.size w w' := by
 have hu29 := Try.underlying29
 have hu26 := Try.underlying26
 have HB := Aside0.mk (Below.refl w.heap.size w)
 have H : (q_example.l0 k 0 2 (([2] : List Int)) 1 1 0 0 1 1 0 50 600 3 2 (([(([1, 2] : List Int))] : List (List Int))) 0 0 0 0 0 0 0 0 0 10) = some (r1, r2, r3, r4, r5, r6, r7, r8, r9, r10, r11, r12, r13, r14, r15, r16, r17, r18, r19, r20, r21, r22, r23, r24, r25) := h
 clear h
 obtain ⟨y154, hy154⟩ : ∃ y_ : List Int, y_ = (([2] : List Int)) := ⟨_, rfl⟩
 replace H : (q_example.l0 k 0 2 y154 1 1 0 0 1 1 0 50 600 3 2 (([(([1, 2] : List Int))] : List (List Int))) 0 0 0 0 0 0 0 0 0 10) = some (r1, r2, r3, r4, r5, r6, r7, r8, r9, r10, r11, r12, r13, r14, r15, r16, r17, r18, r19, r20, r21, r22, r23, r24, r25) := by first | (rw [hy154]; with_reducible exact H) | (have H2_ := (Option.bind_some _ _).symm.trans H; rw [hy154]; with_reducible exact H2_) | (have H2_ := (Option.bind_some _ _).symm.trans H; with_reducible exact H2_) | with_reducible exact H | (rw [hy154]; exact H) | exact H
 have Ny154 := Aside0.mk hy154
 clear hy154
 obtain ⟨y157, hy157⟩ : ∃ y_ : List Int, y_ = (([1, 2] : List Int)) := ⟨_, rfl⟩
 replace H : (q_example.l0 k 0 2 y154 1 1 0 0 1 1 0 50 600 3 2 (([y157] : List (List Int))) 0 0 0 0 0 0 0 0 0 10) = some (r1, r2, r3, r4, r5, r6, r7, r8, r9, r10, r11, r12, r13, r14, r15, r16, r17, r18, r19, r20, r21, r22, r23, r24, r25) := by first | (rw [hy157]; with_reducible exact H) | (have H2_ := (Option.bind_some _ _).symm.trans H; rw [hy157]; with_reducible exact H2_) | (have H2_ := (Option.bind_some _ _).symm.trans H; with_reducible exact H2_) | with_reducible exact H | (rw [hy157]; exact H) | exact H
 have Ny157 := Aside0.mk hy157
 clear hy157
 obtain ⟨y160, hy160⟩ : ∃ y_ : List (List Int), y_ = (([y157] : List (List Int))) := ⟨_, rfl⟩
 replace H : (q_example.l0 k 0 2 y154 1 1 0 0 1 1 0 50 600 3 2 y160 0 0 0 0 0 0 0 0 0 10) = some (r1, r2, r3, r4, r5, r6, r7, r8, r9, r10, r11, r12, r13, r14, r15, r16, r17, r18, r19, r20, r21, r22, r23, r24, r25) := by first | (rw [hy160]; with_reducible exact H) | (have H2_ := (Option.bind_some _ _).symm.trans H; rw [hy160]; with_reducible exact H2_) | (have H2_ := (Option.bind_some _ _).symm.trans H; with_reducible exact H2_) | with_reducible exact H | (rw [hy160]; exact H) | exact H
 have Ny160 := Aside0.mk hy160
 clear hy160
 have H' := Aside0.mk H
 clear H
 go_enter Try.func16, Try.ntmps16
 go_wp2_with (first | ((with_reducible refine gate_dst (N := 15) rfl ?_); (first | refine lwx (g := gb163) (cs := [.int .i64 0, .slice none 0 0, .int .i64 0, .int .i64 0, .int .i64 0, .int .i64 0, .int .i64 0, .int .i64 0, .int .i64 0, .int .i64 0, .int .i64 0, .int .i64 0, .int .i64 0, .slice none 0 0, .int .u64 0, .int .i64 0, .int .i64 0, .int .u64 0, .int .i64 0, .int .i64 0, .int .u64 0, .int .i64 0, .int .i64 0, .slice none 0 0, .int .i64 0]) (bkt BK163.out) ?_ | refine lwx (g := gb163) BK163.out ?_ | refine lwx2 (g := gb163) (blk_set (bkt BK163.out) _ _) ?_)) | ((with_reducible refine gate_store (t := 29) (p := 0) rfl ?_); (first | refine swx29 (g := gb153) (bkt BK153.out) ?_ | refine swx29 (g := gb153) BK153.out ?_)) | ((with_reducible refine gate_store (t := 29) (p := 1) rfl ?_); (first | refine swx29 (g := gb163) (bkt BK163.out) ?_ | refine swx29 (g := gb163) BK163.out ?_)) | ((with_reducible refine gate_dst (N := 0) rfl ?_); refine bxe (cs := #[.int .i64 0, .slice none 0 0, .int .i64 0, .int .i64 0, .int .i64 0, .int .i64 0, .int .i64 0, .int .i64 0, .int .i64 0, .int .i64 0, .int .i64 0, .int .i64 0, .int .i64 0, .slice none 0 0, .int .u64 0, .int .i64 0, .int .i64 0, .int .u64 0, .int .i64 0, .int .i64 0, .int .u64 0, .int .i64 0, .int .i64 0, .slice none 0 0, .int .i64 0]) (t := 29) ?_; intro gb153 hg w1 hbox hb; have BK153 := Aside0.mk (hbox); have GW153 := Aside0.mk (bge hg HB.out); have GE153 := Aside0.mk (bge hg HB.out); replace HB := Aside0.mk (bst HB.out hb); clear hb hbox hg) | ((with_reducible refine gate_dst (N := 3) rfl ?_); refine Kd.R_lit (Kd.int .i64) _ 3 ?hg (N := 3) ?hd (xs := ([2] : List Int)) (inner := [.int .i64 2]) (ok := fun _ => True) (okp := fun _ => True) ?hr ?hp (fun _ hk => hk) trivial (Below.refl _ _) (Nat.le_refl _) (by simp) ?_; (case hd => rfl); (case hg => rfl); (case hr => first | (go_simp; done) | (go_simp; rfl)); (case hp => exact (Reps.one (show Kd.M (Kd.int .i64) _ _ _ 2 [.int .i64 2] from rfl) (Reps.none _ _))); intro v155 w2 ho3 hb hg_ hnew_; clear hg_ hnew_; (first | rw [← Ny154.out] at ho3 | (simp only [Int.reduceToNat] at ho3; rw [← Ny154.out] at ho3)); have HO156 := Aside0.mk (Kd.R_lower (Kd.R_newM (M := fun k_ => (w.heap.size ≤ k_)) ho3 (bsz HB.out) (fun k_ h_ => h_)) (bsz HB.out)); replace BK153 := Aside0.mk (bkb BK153.out hb); replace HB := Aside0.mk (bst HB.out hb); clear hb ho3) | ((with_reducible refine gate_dst (N := 4) rfl ?_); refine Kd.R_lit (Kd.int .i64) _ 3 ?hg (N := 4) ?hd (xs := ([1, 2] : List Int)) (inner := [.int .i64 1, .int .i64 2]) (ok := fun _ => True) (okp := fun _ => True) ?hr ?hp (fun _ hk => hk) trivial (Below.refl _ _) (Nat.le_refl _) (by simp) ?_; (case hd => rfl); (case hg => rfl); (case hr => first | (go_simp; done) | (go_simp; rfl)); (case hp => exact (Reps.one (show Kd.M (Kd.int .i64) _ _ _ 1 [.int .i64 1] from rfl) (Reps.one (show Kd.M (Kd.int .i64) _ _ _ 2 [.int .i64 2] from rfl) (Reps.none _ _)))); intro v158 w4 ho5 hb hg_ hnew_; clear hg_ hnew_; (first | rw [← Ny157.out] at ho5 | (simp only [Int.reduceToNat] at ho5; rw [← Ny157.out] at ho5)); have HO159 := Aside0.mk (Kd.R_lower (Kd.R_new' (Kd.R_newM (M := fun k_ => (w.heap.size ≤ k_)) ho5 (bsz HB.out) (fun k_ h_ => h_)) (Kd.R_lt (kdt HO156.out))) (bsz HB.out)); replace HO156 := Aside0.mk (Kd.R_elder' (kdt HO156.out) (Kd.R_base ho5) hb); replace BK153 := Aside0.mk (bkb BK153.out hb); replace HB := Aside0.mk (bst HB.out hb); clear hb ho5; obtain ⟨Ao6, co6, eo6⟩ := Kd.R_slice HO159.out; subst eo6) | ((with_reducible refine gate_dst (N := 5) rfl ?_); refine Kd.N_lit (Kd.slice 3 (Kd.int .i64)) _ 22 ?hg (N' := 5) ?hd (xs := ([y157] : List (List Int))) (inner := [.slice Ao6 y157.length co6]) (ok := (fun k_ => (w.heap.size ≤ k_) ∧ some k_ ≠ (v155 : Value).ownBlock ∧ k_ ≠ gb153)) (okp := (fun k_ => (w.heap.size ≤ k_) ∧ some k_ ≠ (v155 : Value).ownBlock ∧ k_ ≠ gb153)) ?hr ?hp (fun _ hk => hk) ((show ∀ k_, w4.heap.size ≤ k_ → (fun k_ => (w.heap.size ≤ k_) ∧ some k_ ≠ (v155 : Value).ownBlock ∧ k_ ≠ gb153) k_ from fun k_ hk => ⟨(Nat.le_trans (bsz HB.out) hk), Kd.fresh' (Kd.R_lt (kdt HO156.out)) k_ hk, Kd.freshB (g := gb153) (o := .cells #[.int .i64 0, .slice none 0 0, .int .i64 0, .int .i64 0, .int .i64 0, .int .i64 0, .int .i64 0, .int .i64 0, .int .i64 0, .int .i64 0, .int .i64 0, .int .i64 0, .int .i64 0, .slice none 0 0, .int .u64 0, .int .i64 0, .int .i64 0, .int .u64 0, .int .i64 0, .int .i64 0, .int .u64 0, .int .i64 0, .int .i64 0, .slice none 0 0, .int .i64 0] 29 (0, 0)) (bkt BK153.out) k_ hk⟩) _ (Nat.le_refl _)) (Below.refl _ _) (Nat.le_refl _) (by simp) ?_; (case hd => rfl); (case hg => rfl); (case hr => first | (go_simp; done) | (go_simp; rfl)); (case hp => exact (Reps.one (show Kd.FK (Kd.slice 3 (Kd.int .i64)) _ _ y157 [.slice Ao6 y157.length co6] from (Kd.FK_slice_mk (Kd.R_reads' (Kd.R_mono (ok' := (fun k_ => (w.heap.size ≤ k_) ∧ some k_ ≠ (v155 : Value).ownBlock ∧ k_ ≠ gb153)) (Kd.R_types (HO159.out) BK153.out (by decide)) (fun k_ hk => ⟨hk.1.1.1, ⟨hk.1.2, hk.2⟩⟩))).2.1 (Kd.R_F (Kd.R_mono (ok' := (fun k_ => (w.heap.size ≤ k_) ∧ some k_ ≠ (v155 : Value).ownBlock ∧ k_ ≠ gb153)) (Kd.R_types (HO159.out) BK153.out (by decide)) (fun k_ hk => ⟨hk.1.1.1, ⟨hk.1.2, hk.2⟩⟩))))) (Reps.none _ _))); intro v161 w7 ho8 hb hg_ hnew_; clear hg_ hnew_; (first | rw [← Ny160.out] at ho8 | (simp only [Int.reduceToNat] at ho8; rw [← Ny160.out] at ho8)); have n0_ := Aside0.mk (Kd.R_below (kdt HO156.out) hb); have n1_ := Aside0.mk (Kd.N_lower ho8 (bsz HB.out)); have n2_ := Aside0.mk (bkb BK153.out hb); have n3_ := Aside0.mk (bst HB.out hb); clear HO156; clear BK153; clear HB; clear HO159; have HO156 := n0_; have HO162 := n1_; have BK153 := n2_; have HB := n3_; clear n0_ n1_ n2_ n3_; clear hb ho8; obtain ⟨Ao9, co9, eo9⟩ := Kd.N_slice HO162.out; subst eo9; obtain ⟨Ao10, co10, eo10⟩ := Kd.R_slice HO156.out; subst eo10) | ((with_reducible refine gate_dst (N := 1) rfl ?_); refine bxe (cs := #[.int .i64 0, .slice none 0 0, .int .i64 0, .int .i64 0, .int .i64 0, .int .i64 0, .int .i64 0, .int .i64 0, .int .i64 0, .int .i64 0, .int .i64 0, .int .i64 0, .int .i64 0, .slice none 0 0, .int .u64 0, .int .i64 0, .int .i64 0, .int .u64 0, .int .i64 0, .int .i64 0, .int .u64 0, .int .i64 0, .int .i64 0, .slice none 0 0, .int .i64 0]) (t := 29) ?_; intro gb163 hg w11 hbox hb; have BK163 := Aside0.mk (hbox); have GW163 := Aside0.mk (bge hg HB.out); have GE163 := Aside0.mk (bge hg HB.out); have NB153_163 := Aside0.mk ((bkl hg BK153.out)); have NB163_153 := Aside0.mk ((bkg hg BK153.out)); replace HO156 := Aside0.mk (Kd.R_below (kdt HO156.out) hb); replace HO162 := Aside0.mk (Kd.N_below (Kd.N_elderB (by (with_reducible repeat (first | apply Kd.N_alloc | apply Kd.N_drewN | apply Kd.N_drew)); exact HO162.out) gb163 (Nat.le_of_eq hg.symm)) hb); replace BK153 := Aside0.mk (bkb BK153.out hb); replace HB := Aside0.mk (bst HB.out hb); clear hb hbox hg; have hnb12 := NB163_153.out; have hnc12 := NB153_163.out; have hcz13_0 := cz25 BK163.out; have hfz13_0 := blk_frozen BK163.out))
 go_loopg [2] k (fun kq v2 w' => ∃ (x2_1 : Int) (x164014_1 : Int) (x164015_1 : Int) (x164016_1 : Int) (x164017_1 : Int) (x164018_1 : Int) (x164019_1 : Int) (x164020_1 : Int) (x164021_1 : Int) (x164022_1 : Int), v2 = .int .i64 x2_1 ∧ Aside0 (q_example.l0 kq x2_1 2 y154 1 1 0 0 1 1 0 50 600 3 2 y160 x164014_1 x164015_1 x164016_1 x164017_1 x164018_1 x164019_1 x164020_1 x164021_1 x164022_1 10 = some (r1, r2, r3, r4, r5, r6, r7, r8, r9, r10, r11, r12, r13, r14, r15, r16, r17, r18, r19, r20, r21, r22, r23, r24, r25)) ∧ Aside0 (kq ≤ k) ∧ Aside0 (Kd.R (Kd.int .i64) 3 w' w.heap.size (fun k_ => (w.heap.size ≤ k_)) (.slice Ao10 y154.length co10) y154) ∧ Aside0 (Kd.N (Kd.slice 3 (Kd.int .i64)) 22 w' w.heap.size (fun k_ => (w.heap.size ≤ k_) ∧ some k_ ≠ ((.slice Ao10 y154.length co10) : Value).ownBlock ∧ k_ ≠ gb153 ∧ k_ ≠ gb163) (.slice Ao9 y160.length co9) y160) ∧ Aside0 (w'.heap[gb153]? = some (.cells #[.int .i64 0, (.slice none 0 0), .int .i64 0, .int .i64 0, .int .i64 0, .int .i64 0, .int .i64 0, .int .i64 0, .int .i64 0, .int .i64 0, .int .i64 0, .int .i64 0, .int .i64 0, (.slice none 0 0), .int .u64 0, .int .i64 0, .int .i64 0, .int .u64 0, .int .i64 0, .int .i64 0, .int .u64 0, .int .i64 0, .int .i64 0, (.slice none 0 0), .int .i64 0] 29 (0, 0))) ∧ Aside0 (w'.heap[gb163]? = some (.cells #[.int .i64 2, (.slice Ao10 y154.length co10), .int .i64 1, .int .i64 1, .int .i64 0, .int .i64 0, .int .i64 1, .int .i64 1, .int .i64 0, .int .i64 50, .int .i64 600, .int .i64 3, .int .i64 2, (.slice Ao9 y160.length co9), .int .u64 x164014_1, .int .i64 x164015_1, .int .i64 x164016_1, .int .u64 x164017_1, .int .i64 x164018_1, .int .i64 x164019_1, .int .u64 x164020_1, .int .i64 x164021_1, .int .i64 x164022_1, (.slice none 0 0), .int .i64 10] 29 (0, 0))) ∧ Aside0 (Below w.heap.size w w'))
 case atStart => exact ⟨(0), (0), (0), (0), (0), (0), (0), (0), (0), (0), (by first | rfl | (simp; done) | (simp [*]; done)), H', ⟨Nat.le_refl _⟩, ⟨by (with_reducible repeat (first | apply Kd.R_alloc | apply Kd.R_drewN | apply Kd.R_drew)); exact Kd.R_mono (Kd.R_far (p := ⟨gb163, 24, none⟩) (Kd.R_far (p := ⟨gb163, 23, none⟩) (Kd.R_far (p := ⟨gb163, 22, none⟩) (Kd.R_far (p := ⟨gb163, 21, none⟩) (Kd.R_far (p := ⟨gb163, 20, none⟩) (Kd.R_far (p := ⟨gb163, 19, none⟩) (Kd.R_far (p := ⟨gb163, 18, none⟩) (Kd.R_far (p := ⟨gb163, 17, none⟩) (Kd.R_far (p := ⟨gb163, 16, none⟩) (Kd.R_far (p := ⟨gb163, 15, none⟩) (Kd.R_far (p := ⟨gb163, 14, none⟩) (Kd.R_far (p := ⟨gb163, 13, none⟩) (Kd.R_far (p := ⟨gb163, 12, none⟩) (Kd.R_far (p := ⟨gb163, 11, none⟩) (Kd.R_far (p := ⟨gb163, 10, none⟩) (Kd.R_far (p := ⟨gb163, 9, none⟩) (Kd.R_far (p := ⟨gb163, 8, none⟩) (Kd.R_far (p := ⟨gb163, 7, none⟩) (Kd.R_far (p := ⟨gb163, 6, none⟩) (Kd.R_far (p := ⟨gb163, 5, none⟩) (Kd.R_far (p := ⟨gb163, 4, none⟩) (Kd.R_far (p := ⟨gb163, 3, none⟩) (Kd.R_far (p := ⟨gb163, 2, none⟩) (Kd.R_far (p := ⟨gb163, 1, none⟩) (Kd.R_far (p := ⟨gb163, 0, none⟩) (Kd.R_types HO156.out BK163.out (by decide)) (fun _ hk => hk.2) (.int .i64 2)) (fun _ hk => hk.2) (.slice Ao10 y154.length co10)) (fun _ hk => hk.2) (.int .i64 1)) (fun _ hk => hk.2) (.int .i64 1)) (fun _ hk => hk.2) (.int .i64 0)) (fun _ hk => hk.2) (.int .i64 0)) (fun _ hk => hk.2) (.int .i64 1)) (fun _ hk => hk.2) (.int .i64 1)) (fun _ hk => hk.2) (.int .i64 0)) (fun _ hk => hk.2) (.int .i64 50)) (fun _ hk => hk.2) (.int .i64 600)) (fun _ hk => hk.2) (.int .i64 3)) (fun _ hk => hk.2) (.int .i64 2)) (fun _ hk => hk.2) (.slice Ao9 y160.length co9)) (fun _ hk => hk.2) (.int .u64 0)) (fun _ hk => hk.2) (.int .i64 0)) (fun _ hk => hk.2) (.int .i64 0)) (fun _ hk => hk.2) (.int .u64 0)) (fun _ hk => hk.2) (.int .i64 0)) (fun _ hk => hk.2) (.int .i64 0)) (fun _ hk => hk.2) (.int .u64 0)) (fun _ hk => hk.2) (.int .i64 0)) (fun _ hk => hk.2) (.int .i64 0)) (fun _ hk => hk.2) (.slice none 0 0)) (fun _ hk => hk.2) (.int .i64 10)) (fun _ hk => hk.1.1.1)⟩, ⟨by (with_reducible repeat (first | apply Kd.N_alloc | apply Kd.N_drewN | apply Kd.N_drew)); exact Kd.N_mono (Kd.N_far (p := ⟨gb163, 24, none⟩) (Kd.N_far (p := ⟨gb163, 23, none⟩) (Kd.N_far (p := ⟨gb163, 22, none⟩) (Kd.N_far (p := ⟨gb163, 21, none⟩) (Kd.N_far (p := ⟨gb163, 20, none⟩) (Kd.N_far (p := ⟨gb163, 19, none⟩) (Kd.N_far (p := ⟨gb163, 18, none⟩) (Kd.N_far (p := ⟨gb163, 17, none⟩) (Kd.N_far (p := ⟨gb163, 16, none⟩) (Kd.N_far (p := ⟨gb163, 15, none⟩) (Kd.N_far (p := ⟨gb163, 14, none⟩) (Kd.N_far (p := ⟨gb163, 13, none⟩) (Kd.N_far (p := ⟨gb163, 12, none⟩) (Kd.N_far (p := ⟨gb163, 11, none⟩) (Kd.N_far (p := ⟨gb163, 10, none⟩) (Kd.N_far (p := ⟨gb163, 9, none⟩) (Kd.N_far (p := ⟨gb163, 8, none⟩) (Kd.N_far (p := ⟨gb163, 7, none⟩) (Kd.N_far (p := ⟨gb163, 6, none⟩) (Kd.N_far (p := ⟨gb163, 5, none⟩) (Kd.N_far (p := ⟨gb163, 4, none⟩) (Kd.N_far (p := ⟨gb163, 3, none⟩) (Kd.N_far (p := ⟨gb163, 2, none⟩) (Kd.N_far (p := ⟨gb163, 1, none⟩) (Kd.N_far (p := ⟨gb163, 0, none⟩) (Kd.N_mono HO162.out (fun k_ hk => (⟨hk, hk.2⟩ : _ ∧ k_ ≠ gb163))) (fun _ hk => hk.2) (.int .i64 2)) (fun _ hk => hk.2) (.slice Ao10 y154.length co10)) (fun _ hk => hk.2) (.int .i64 1)) (fun _ hk => hk.2) (.int .i64 1)) (fun _ hk => hk.2) (.int .i64 0)) (fun _ hk => hk.2) (.int .i64 0)) (fun _ hk => hk.2) (.int .i64 1)) (fun _ hk => hk.2) (.int .i64 1)) (fun _ hk => hk.2) (.int .i64 0)) (fun _ hk => hk.2) (.int .i64 50)) (fun _ hk => hk.2) (.int .i64 600)) (fun _ hk => hk.2) (.int .i64 3)) (fun _ hk => hk.2) (.int .i64 2)) (fun _ hk => hk.2) (.slice Ao9 y160.length co9)) (fun _ hk => hk.2) (.int .u64 0)) (fun _ hk => hk.2) (.int .i64 0)) (fun _ hk => hk.2) (.int .i64 0)) (fun _ hk => hk.2) (.int .u64 0)) (fun _ hk => hk.2) (.int .i64 0)) (fun _ hk => hk.2) (.int .i64 0)) (fun _ hk => hk.2) (.int .u64 0)) (fun _ hk => hk.2) (.int .i64 0)) (fun _ hk => hk.2) (.int .i64 0)) (fun _ hk => hk.2) (.slice none 0 0)) (fun _ hk => hk.2) (.int .i64 10)) (fun _ hk => ⟨hk.1.1.1, ⟨hk.1.1.2.1, ⟨hk.1.1.2.2, hk.1.2⟩⟩⟩)⟩, ⟨bkt BK153.out⟩, ⟨bkt BK163.out⟩, ⟨bel HB.out⟩⟩
 case round =>
  clear H'
  try clear c1
  try clear p2
  try clear c12
  try clear hcz13_0
  try clear hfz13_0
  obtain ⟨x2_1, x164014_1, x164015_1, x164016_1, x164017_1, x164018_1, x164019_1, x164020_1, x164021_1, x164022_1, rfl, HA, HK1, HO_164001, HO_164013, BK153, BK163, HB⟩ := hrel
  cases gk with
  | zero => exact absurd HA.out (by simp [q_example.l0])
  | succ k1 =>
   have H := HA.out
   clear HA
   simp only [q_example.l0] at H
   by_cases c14 : x2_1 < 3
   ·as_aux_lemma =>
    rw [if_pos c14] at H
    have c14b0 : decide (x2_1 < 3) = true := decide_eq_true c14
    clear c14
    by_cases c15 : x2_1 = 0
    ·as_aux_lemma =>
     subst c15
     have H1 : (q_example.l0 k1 (wrap64 (0 + 1)) 2 y154 1 1 0 0 1 1 0 50 600 3 2 y160 3 0 8 x164017_1 x164018_1 x164019_1 x164020_1 x164021_1 x164022_1 10) = some (r1, r2, r3, r4, r5, r6, r7, r8, r9, r10, r11, r12, r13, r14, r15, r16, r17, r18, r19, r20, r21, r22, r23, r24, r25) := by rw [if_pos rfl] at H; exact H
     clear H
     have H := H1
     clear H1
     have H' := Aside0.mk H
     clear H
     have hnb16 := NB163_153.out
     have hnc16 := NB153_163.out
     have hcz17_0 := cz25 BK163.out
     have hfz17_0 := blk_frozen BK163.out
     go_wp2_with (first | ((with_reducible refine gate_dst (N := 15) rfl ?_); (first | refine lwx (g := gb163) (cs := [.int .i64 0, .slice none 0 0, .int .i64 0, .int .i64 0, .int .i64 0, .int .i64 0, .int .i64 0, .int .i64 0, .int .i64 0, .int .i64 0, .int .i64 0, .int .i64 0, .int .i64 0, .slice none 0 0, .int .u64 0, .int .i64 0, .int .i64 0, .int .u64 0, .int .i64 0, .int .i64 0, .int .u64 0, .int .i64 0, .int .i64 0, .slice none 0 0, .int .i64 0]) (bkt BK163.out) ?_ | refine lwx (g := gb163) BK163.out ?_ | refine lwx2 (g := gb163) (blk_set (bkt BK163.out) _ _) ?_)) | ((with_reducible refine gate_store (t := 29) (p := 0) rfl ?_); (first | refine swx29 (g := gb153) (bkt BK153.out) ?_ | refine swx29 (g := gb153) BK153.out ?_)) | ((with_reducible refine gate_store (t := 29) (p := 1) rfl ?_); (first | refine swx29 (g := gb163) (bkt BK163.out) ?_ | refine swx29 (g := gb163) BK163.out ?_)))
     go_roundg k1
     case measure => have := HK1.out; omega
     case rel => exact ⟨(wrap64 (0 + 1)), (3), (0), (8), (x164017_1), (x164018_1), (x164019_1), (x164020_1), (x164021_1), (x164022_1), (by first | rfl | (simp; done) | (simp [wrap64]; done)), H', ⟨by have := HK1.out; omega⟩, ⟨by (with_reducible repeat (first | apply Kd.R_alloc | apply Kd.R_drewN | apply Kd.R_drew)); exact Kd.R_mono (Kd.R_far (p := ⟨gb163, 16, none⟩) (Kd.R_far (p := ⟨gb163, 15, none⟩) (Kd.R_far (p := ⟨gb163, 14, none⟩) (Kd.R_types HO_164001.out BK163.out (by decide)) (fun _ hk => hk.2) (.int .u64 3)) (fun _ hk => hk.2) (.int .i64 0)) (fun _ hk => hk.2) (.int .i64 8)) (fun _ hk => hk.1)⟩, ⟨by (with_reducible repeat (first | apply Kd.N_alloc | apply Kd.N_drewN | apply Kd.N_drew)); exact Kd.N_mono (Kd.N_far (p := ⟨gb163, 16, none⟩) (Kd.N_far (p := ⟨gb163, 15, none⟩) (Kd.N_far (p := ⟨gb163, 14, none⟩) (Kd.N_mono HO_164013.out (fun k_ hk => (⟨hk, hk.2.2.2⟩ : _ ∧ k_ ≠ gb163))) (fun _ hk => hk.2) (.int .u64 3)) (fun _ hk => hk.2) (.int .i64 0)) (fun _ hk => hk.2) (.int .i64 8)) (fun _ hk => ⟨hk.1.1, ⟨hk.1.2.1, ⟨hk.1.2.2.1, hk.1.2.2.2⟩⟩⟩)⟩, ⟨bkt BK153.out⟩, ⟨bkt BK163.out⟩, ⟨bel HB.out⟩⟩
    ·as_aux_lemma =>
     have H1 : (if x2_1 = 1 then (q_example.l0 k1 (wrap64 (x2_1 + 1)) 2 y154 1 1 0 0 1 1 0 50 600 3 2 y160 x164014_1 x164015_1 x164016_1 3 0 8 x164020_1 x164021_1 x164022_1 10) else (if x2_1 = 2 then (q_example.l0 k1 (wrap64 (x2_1 + 1)) 2 y154 1 1 0 0 1 1 0 50 600 3 2 y160 x164014_1 x164015_1 x164016_1 x164017_1 x164018_1 x164019_1 3 0 8 10) else (none))) = some (r1, r2, r3, r4, r5, r6, r7, r8, r9, r10, r11, r12, r13, r14, r15, r16, r17, r18, r19, r20, r21, r22, r23, r24, r25) := by rw [if_neg c15] at H; exact H
     clear H
     have H := H1
     clear H1
     by_cases c18 : x2_1 = 1
     ·as_aux_lemma =>
      subst c18
      have H1 : (q_example.l0 k1 (wrap64 (1 + 1)) 2 y154 1 1 0 0 1 1 0 50 600 3 2 y160 x164014_1 x164015_1 x164016_1 3 0 8 x164020_1 x164021_1 x164022_1 10) = some (r1, r2, r3, r4, r5, r6, r7, r8, r9, r10, r11, r12, r13, r14, r15, r16, r17, r18, r19, r20, r21, r22, r23, r24, r25) := by rw [if_pos rfl] at H; exact H
      clear H
      have H := H1
      clear H1
      have H' := Aside0.mk H
      clear H
      have hnb19 := NB163_153.out
      have hnc19 := NB153_163.out
      have hcz20_0 := cz25 BK163.out
      have hfz20_0 := blk_frozen BK163.out
      go_wp2_with (first | ((with_reducible refine gate_dst (N := 15) rfl ?_); (first | refine lwx (g := gb163) (cs := [.int .i64 0, .slice none 0 0, .int .i64 0, .int .i64 0, .int .i64 0, .int .i64 0, .int .i64 0, .int .i64 0, .int .i64 0, .int .i64 0, .int .i64 0, .int .i64 0, .int .i64 0, .slice none 0 0, .int .u64 0, .int .i64 0, .int .i64 0, .int .u64 0, .int .i64 0, .int .i64 0, .int .u64 0, .int .i64 0, .int .i64 0, .slice none 0 0, .int .i64 0]) (bkt BK163.out) ?_ | refine lwx (g := gb163) BK163.out ?_ | refine lwx2 (g := gb163) (blk_set (bkt BK163.out) _ _) ?_)) | ((with_reducible refine gate_store (t := 29) (p := 0) rfl ?_); (first | refine swx29 (g := gb153) (bkt BK153.out) ?_ | refine swx29 (g := gb153) BK153.out ?_)) | ((with_reducible refine gate_store (t := 29) (p := 1) rfl ?_); (first | refine swx29 (g := gb163) (bkt BK163.out) ?_ | refine swx29 (g := gb163) BK163.out ?_)))
      go_roundg k1
      case measure => have := HK1.out; omega
      case rel => exact ⟨(wrap64 (1 + 1)), (x164014_1), (x164015_1), (x164016_1), (3), (0), (8), (x164020_1), (x164021_1), (x164022_1), (by first | rfl | (simp; done) | (simp [wrap64]; done)), H', ⟨by have := HK1.out; omega⟩, ⟨by (with_reducible repeat (first | apply Kd.R_alloc | apply Kd.R_drewN | apply Kd.R_drew)); exact Kd.R_mono (Kd.R_far (p := ⟨gb163, 19, none⟩) (Kd.R_far (p := ⟨gb163, 18, none⟩) (Kd.R_far (p := ⟨gb163, 17, none⟩) (Kd.R_types HO_164001.out BK163.out (by decide)) (fun _ hk => hk.2) (.int .u64 3)) (fun _ hk => hk.2) (.int .i64 0)) (fun _ hk => hk.2) (.int .i64 8)) (fun _ hk => hk.1)⟩, ⟨by (with_reducible repeat (first | apply Kd.N_alloc | apply Kd.N_drewN | apply Kd.N_drew)); exact Kd.N_mono (Kd.N_far (p := ⟨gb163, 19, none⟩) (Kd.N_far (p := ⟨gb163, 18, none⟩) (Kd.N_far (p := ⟨gb163, 17, none⟩) (Kd.N_mono HO_164013.out (fun k_ hk => (⟨hk, hk.2.2.2⟩ : _ ∧ k_ ≠ gb163))) (fun _ hk => hk.2) (.int .u64 3)) (fun _ hk => hk.2) (.int .i64 0)) (fun _ hk => hk.2) (.int .i64 8)) (fun _ hk => ⟨hk.1.1, ⟨hk.1.2.1, ⟨hk.1.2.2.1, hk.1.2.2.2⟩⟩⟩)⟩, ⟨bkt BK153.out⟩, ⟨bkt BK163.out⟩, ⟨bel HB.out⟩⟩
     ·as_aux_lemma =>
      have H1 : (if x2_1 = 2 then (q_example.l0 k1 (wrap64 (x2_1 + 1)) 2 y154 1 1 0 0 1 1 0 50 600 3 2 y160 x164014_1 x164015_1 x164016_1 x164017_1 x164018_1 x164019_1 3 0 8 10) else (none)) = some (r1, r2, r3, r4, r5, r6, r7, r8, r9, r10, r11, r12, r13, r14, r15, r16, r17, r18, r19, r20, r21, r22, r23, r24, r25) := by rw [if_neg c18] at H; exact H
      clear H
      have H := H1
      clear H1
      by_cases c21 : x2_1 = 2
      ·as_aux_lemma =>
       subst c21
       have H1 : (q_example.l0 k1 (wrap64 (2 + 1)) 2 y154 1 1 0 0 1 1 0 50 600 3 2 y160 x164014_1 x164015_1 x164016_1 x164017_1 x164018_1 x164019_1 3 0 8 10) = some (r1, r2, r3, r4, r5, r6, r7, r8, r9, r10, r11, r12, r13, r14, r15, r16, r17, r18, r19, r20, r21, r22, r23, r24, r25) := by rw [if_pos rfl] at H; exact H
       clear H
       have H := H1
       clear H1
       have H' := Aside0.mk H
       clear H
       have hnb22 := NB163_153.out
       have hnc22 := NB153_163.out
       have hcz23_0 := cz25 BK163.out
       have hfz23_0 := blk_frozen BK163.out
       go_wp2_with (first | ((with_reducible refine gate_dst (N := 15) rfl ?_); (first | refine lwx (g := gb163) (cs := [.int .i64 0, .slice none 0 0, .int .i64 0, .int .i64 0, .int .i64 0, .int .i64 0, .int .i64 0, .int .i64 0, .int .i64 0, .int .i64 0, .int .i64 0, .int .i64 0, .int .i64 0, .slice none 0 0, .int .u64 0, .int .i64 0, .int .i64 0, .int .u64 0, .int .i64 0, .int .i64 0, .int .u64 0, .int .i64 0, .int .i64 0, .slice none 0 0, .int .i64 0]) (bkt BK163.out) ?_ | refine lwx (g := gb163) BK163.out ?_ | refine lwx2 (g := gb163) (blk_set (bkt BK163.out) _ _) ?_)) | ((with_reducible refine gate_store (t := 29) (p := 0) rfl ?_); (first | refine swx29 (g := gb153) (bkt BK153.out) ?_ | refine swx29 (g := gb153) BK153.out ?_)) | ((with_reducible refine gate_store (t := 29) (p := 1) rfl ?_); (first | refine swx29 (g := gb163) (bkt BK163.out) ?_ | refine swx29 (g := gb163) BK163.out ?_)))
       go_roundg k1
       case measure => have := HK1.out; omega
       case rel => exact ⟨(wrap64 (2 + 1)), (x164014_1), (x164015_1), (x164016_1), (x164017_1), (x164018_1), (x164019_1), (3), (0), (8), (by first | rfl | (simp; done) | (simp [wrap64]; done)), H', ⟨by have := HK1.out; omega⟩, ⟨by (with_reducible repeat (first | apply Kd.R_alloc | apply Kd.R_drewN | apply Kd.R_drew)); exact Kd.R_mono (Kd.R_far (p := ⟨gb163, 22, none⟩) (Kd.R_far (p := ⟨gb163, 21, none⟩) (Kd.R_far (p := ⟨gb163, 20, none⟩) (Kd.R_types HO_164001.out BK163.out (by decide)) (fun _ hk => hk.2) (.int .u64 3)) (fun _ hk => hk.2) (.int .i64 0)) (fun _ hk => hk.2) (.int .i64 8)) (fun _ hk => hk.1)⟩, ⟨by (with_reducible repeat (first | apply Kd.N_alloc | apply Kd.N_drewN | apply Kd.N_drew)); exact Kd.N_mono (Kd.N_far (p := ⟨gb163, 22, none⟩) (Kd.N_far (p := ⟨gb163, 21, none⟩) (Kd.N_far (p := ⟨gb163, 20, none⟩) (Kd.N_mono HO_164013.out (fun k_ hk => (⟨hk, hk.2.2.2⟩ : _ ∧ k_ ≠ gb163))) (fun _ hk => hk.2) (.int .u64 3)) (fun _ hk => hk.2) (.int .i64 0)) (fun _ hk => hk.2) (.int .i64 8)) (fun _ hk => ⟨hk.1.1, ⟨hk.1.2.1, ⟨hk.1.2.2.1, hk.1.2.2.2⟩⟩⟩)⟩, ⟨bkt BK153.out⟩, ⟨bkt BK163.out⟩, ⟨bel HB.out⟩⟩
      ·have H1 : (none) = some (r1, r2, r3, r4, r5, r6, r7, r8, r9, r10, r11, r12, r13, r14, r15, r16, r17, r18, r19, r20, r21, r22, r23, r24, r25) := by rw [if_neg c21] at H; exact H
       clear H
       have H := H1
       clear H1
       exact absurd H (by simp)
   ·as_aux_lemma =>
    rw [if_neg c14] at H
    have c14b0 : decide (x2_1 < 3) = false := decide_eq_false c14
    clear c14
    simp only [Option.some.injEq, Prod.mk.injEq] at H
    obtain ⟨rfl, rfl, rfl, rfl, rfl, rfl, rfl, rfl, rfl, rfl, rfl, rfl, rfl, rfl, rfl, rfl, rfl, rfl, rfl, rfl, rfl, rfl, rfl, rfl, rfl⟩ := H
    have hnb24 := NB163_153.out
    have hnc24 := NB153_163.out
    have hcz25_0 := cz25 BK163.out
    have hfz25_0 := blk_frozen BK163.out
    have hcz26_0 := cz25 BK153.out
    have hfz26_0 := blk_frozen BK153.out
    go_wp2_with (first | ((with_reducible refine gate_dst (N := 15) rfl ?_); (first | refine lwx (g := gb163) (cs := [.int .i64 0, .slice none 0 0, .int .i64 0, .int .i64 0, .int .i64 0, .int .i64 0, .int .i64 0, .int .i64 0, .int .i64 0, .int .i64 0, .int .i64 0, .int .i64 0, .int .i64 0, .slice none 0 0, .int .u64 0, .int .i64 0, .int .i64 0, .int .u64 0, .int .i64 0, .int .i64 0, .int .u64 0, .int .i64 0, .int .i64 0, .slice none 0 0, .int .i64 0]) (bkt BK163.out) ?_ | refine lwx (g := gb163) BK163.out ?_ | refine lwx2 (g := gb163) (blk_set (bkt BK163.out) _ _) ?_)) | ((with_reducible refine gate_store (t := 29) (p := 0) rfl ?_); (first | refine swx29 (g := gb153) (bkt BK153.out) ?_ | refine swx29 (g := gb153) BK153.out ?_)) | ((with_reducible refine gate_store (t := 29) (p := 1) rfl ?_); (first | refine swx29 (g := gb163) (bkt BK163.out) ?_ | refine swx29 (g := gb163) BK163.out ?_)))
    refine bodyPost_ret (results_cell_row rfl _ _ gb153 29 #[.int .i64 2, .slice Ao10 y154.length co10, .int .i64 1, .int .i64 1, .int .i64 0, .int .i64 0, .int .i64 1, .int .i64 1, .int .i64 0, .int .i64 50, .int .i64 600, .int .i64 3, .int .i64 2, .slice Ao9 y160.length co9, .int .u64 x164014_1, .int .i64 x164015_1, .int .i64 x164016_1, .int .u64 x164017_1, .int .i64 x164018_1, .int .i64 x164019_1, .int .u64 x164020_1, .int .i64 x164021_1, .int .i64 x164022_1, .slice none 0 0, .int .i64 10] (0, 0) _ rfl (bkt BK153.out) Try.underlying29 rfl (by kernel_rfl)) rfl ?_
    exact ⟨_, _, _, by first | rfl | (simp [errW_none, errW_some] <;> rfl) | (simp [*, errW_none, errW_some] <;> rfl), by (with_reducible repeat (first | apply Kd.R_alloc | apply Kd.R_drewN | apply Kd.R_drew)); exact Kd.R_mono (Kd.R_far (p := ⟨gb153, 24, none⟩) (Kd.R_far (p := ⟨gb153, 23, none⟩) (Kd.R_far (p := ⟨gb153, 22, none⟩) (Kd.R_far (p := ⟨gb153, 21, none⟩) (Kd.R_far (p := ⟨gb153, 20, none⟩) (Kd.R_far (p := ⟨gb153, 19, none⟩) (Kd.R_far (p := ⟨gb153, 18, none⟩) (Kd.R_far (p := ⟨gb153, 17, none⟩) (Kd.R_far (p := ⟨gb153, 16, none⟩) (Kd.R_far (p := ⟨gb153, 15, none⟩) (Kd.R_far (p := ⟨gb153, 14, none⟩) (Kd.R_far (p := ⟨gb153, 13, none⟩) (Kd.R_far (p := ⟨gb153, 12, none⟩) (Kd.R_far (p := ⟨gb153, 11, none⟩) (Kd.R_far (p := ⟨gb153, 10, none⟩) (Kd.R_far (p := ⟨gb153, 9, none⟩) (Kd.R_far (p := ⟨gb153, 8, none⟩) (Kd.R_far (p := ⟨gb153, 7, none⟩) (Kd.R_far (p := ⟨gb153, 6, none⟩) (Kd.R_far (p := ⟨gb153, 5, none⟩) (Kd.R_far (p := ⟨gb153, 4, none⟩) (Kd.R_far (p := ⟨gb153, 3, none⟩) (Kd.R_far (p := ⟨gb153, 2, none⟩) (Kd.R_far (p := ⟨gb153, 1, none⟩) (Kd.R_far (p := ⟨gb153, 0, none⟩) (Kd.R_types HO_164001.out BK153.out (by decide)) (fun _ hk => hk.2) (.int .i64 2)) (fun _ hk => hk.2) (.slice Ao10 y154.length co10)) (fun _ hk => hk.2) (.int .i64 1)) (fun _ hk => hk.2) (.int .i64 1)) (fun _ hk => hk.2) (.int .i64 0)) (fun _ hk => hk.2) (.int .i64 0)) (fun _ hk => hk.2) (.int .i64 1)) (fun _ hk => hk.2) (.int .i64 1)) (fun _ hk => hk.2) (.int .i64 0)) (fun _ hk => hk.2) (.int .i64 50)) (fun _ hk => hk.2) (.int .i64 600)) (fun _ hk => hk.2) (.int .i64 3)) (fun _ hk => hk.2) (.int .i64 2)) (fun _ hk => hk.2) (.slice Ao9 y160.length co9)) (fun _ hk => hk.2) (.int .u64 x164014_1)) (fun _ hk => hk.2) (.int .i64 x164015_1)) (fun _ hk => hk.2) (.int .i64 x164016_1)) (fun _ hk => hk.2) (.int .u64 x164017_1)) (fun _ hk => hk.2) (.int .i64 x164018_1)) (fun _ hk => hk.2) (.int .i64 x164019_1)) (fun _ hk => hk.2) (.int .u64 x164020_1)) (fun _ hk => hk.2) (.int .i64 x164021_1)) (fun _ hk => hk.2) (.int .i64 x164022_1)) (fun _ hk => hk.2) (.slice none 0 0)) (fun _ hk => hk.2) (.int .i64 10)) (fun _ hk => ⟨hk.1, (by simp [Value.ownBlock])⟩), by (with_reducible repeat (first | apply Kd.N_alloc | apply Kd.N_drewN | apply Kd.N_drew)); exact Kd.N_mono (Kd.N_far (p := ⟨gb153, 24, none⟩) (Kd.N_far (p := ⟨gb153, 23, none⟩) (Kd.N_far (p := ⟨gb153, 22, none⟩) (Kd.N_far (p := ⟨gb153, 21, none⟩) (Kd.N_far (p := ⟨gb153, 20, none⟩) (Kd.N_far (p := ⟨gb153, 19, none⟩) (Kd.N_far (p := ⟨gb153, 18, none⟩) (Kd.N_far (p := ⟨gb153, 17, none⟩) (Kd.N_far (p := ⟨gb153, 16, none⟩) (Kd.N_far (p := ⟨gb153, 15, none⟩) (Kd.N_far (p := ⟨gb153, 14, none⟩) (Kd.N_far (p := ⟨gb153, 13, none⟩) (Kd.N_far (p := ⟨gb153, 12, none⟩) (Kd.N_far (p := ⟨gb153, 11, none⟩) (Kd.N_far (p := ⟨gb153, 10, none⟩) (Kd.N_far (p := ⟨gb153, 9, none⟩) (Kd.N_far (p := ⟨gb153, 8, none⟩) (Kd.N_far (p := ⟨gb153, 7, none⟩) (Kd.N_far (p := ⟨gb153, 6, none⟩) (Kd.N_far (p := ⟨gb153, 5, none⟩) (Kd.N_far (p := ⟨gb153, 4, none⟩) (Kd.N_far (p := ⟨gb153, 3, none⟩) (Kd.N_far (p := ⟨gb153, 2, none⟩) (Kd.N_far (p := ⟨gb153, 1, none⟩) (Kd.N_far (p := ⟨gb153, 0, none⟩) (Kd.N_mono HO_164013.out (fun k_ hk => (⟨hk, hk.2.2.1⟩ : _ ∧ k_ ≠ gb153))) (fun _ hk => hk.2) (.int .i64 2)) (fun _ hk => hk.2) (.slice Ao10 y154.length co10)) (fun _ hk => hk.2) (.int .i64 1)) (fun _ hk => hk.2) (.int .i64 1)) (fun _ hk => hk.2) (.int .i64 0)) (fun _ hk => hk.2) (.int .i64 0)) (fun _ hk => hk.2) (.int .i64 1)) (fun _ hk => hk.2) (.int .i64 1)) (fun _ hk => hk.2) (.int .i64 0)) (fun _ hk => hk.2) (.int .i64 50)) (fun _ hk => hk.2) (.int .i64 600)) (fun _ hk => hk.2) (.int .i64 3)) (fun _ hk => hk.2) (.int .i64 2)) (fun _ hk => hk.2) (.slice Ao9 y160.length co9)) (fun _ hk => hk.2) (.int .u64 x164014_1)) (fun _ hk => hk.2) (.int .i64 x164015_1)) (fun _ hk => hk.2) (.int .i64 x164016_1)) (fun _ hk => hk.2) (.int .u64 x164017_1)) (fun _ hk => hk.2) (.int .i64 x164018_1)) (fun _ hk => hk.2) (.int .i64 x164019_1)) (fun _ hk => hk.2) (.int .u64 x164020_1)) (fun _ hk => hk.2) (.int .i64 x164021_1)) (fun _ hk => hk.2) (.int .i64 x164022_1)) (fun _ hk => hk.2) (.slice none 0 0)) (fun _ hk => hk.2) (.int .i64 10)) (fun _ hk => ⟨hk.1.1, ⟨hk.1.2.1, (by simp [Value.ownBlock])⟩⟩), by first | exact Kd.R_nil _ _ _ _ _ | exact Kd.N_nil _ _ _ _ _ | exact Kd.V_nil _ _ _ _ _ | exact Kd.Q_nil _ _ _ _ _ | exact Kd.S_nil _ _ _ _ _, bel HB.out⟩

end Go.Proofs.Ytmdcjmackhjchaa.P
end

section
/- tipstafflaw41.awake returns true: the example's numbers are worked out by Lean. -/
namespace Go.Proofs.Ytmdcjmackhjchaa.P
open Go.RowKit Go.Proofs.YtmdcjmackhjchaaW.PrintWords Go.Proofs.YtmdcjmackhjchaaW.PrintLast Go.Proofs.YtmdcjmackhjchaaW.PrintMore
set_option linter.unusedVariables false

def q_awake.f : Option (Bool) := some true
/-- The example's configuration, wherever its lists lie. -/
def exC (c : Cfg) (W : World) : Prop :=
 ∃ A1 p1 A2 p2 A3 p3, c = (⟨2, .slice A1 1 p1, 1, 1, 0, 0, 1, 1, 0, 50, 600, 3, 2, .slice A2 1 p2, .int .u64 3, 0, 8, .int .u64 3, 0, 8, .int .u64 3, 0, 8, .slice A3 0 p3, 10⟩ : Cfg) ∧
  Kd.C (Kd.int .i64) W A1 ([2] : List Int).length [2] ∧ ([2] : List Int).length ≤ p1 ∧ Kd.C (Kd.slice 3 (Kd.int .i64)) W A2 ([[1, 2]] : List (List Int)).length [[1, 2]] ∧ ([[1, 2]] : List (List Int)).length ≤ p2 ∧ Kd.C (Kd.int .i64) W A3 ([] : List Int).length [] ∧ ([] : List Int).length ≤ p3
theorem ex_f : q_example.f 9 = some (2, [2], 1, 1, 0, 0, 1, 1, 0, 50, 600, 3, 2, [[1, 2]], 3, 0, 8, 3, 0, 8, 3, 0, 8, [], 10) := by kernel_rfl
theorem ex_share : bound_Share.f 2 [2] 1 1 0 0 1 1 0 50 600 3 2 [[1, 2]] 3 0 8 3 0 8 3 0 8 [] 10 = some (2, 0) := by decide +kernel
theorem ex_times : config_Times.f 2 [2] 1 1 0 0 1 1 0 50 600 3 2 [[1, 2]] 3 0 8 3 0 8 3 0 8 [] 10 = some (2, 3, 5, 22, 44, 0) := by decide +kernel
theorem ex_one : bound_Ticks.f 2 [2] 1 1 0 0 1 1 0 50 600 3 2 [[1, 2]] 3 0 8 3 0 8 3 0 8 [] 10 1 = some (352, 0) := by decide +kernel
theorem ex_three : bound_Ticks.f 2 [2] 1 1 0 0 1 1 0 50 600 3 2 [[1, 2]] 3 0 8 3 0 8 3 0 8 [] 10 3 = some (0, 6) := by decide +kernel
theorem q_awake.calls (r : Bool) (w : World) (h : q_awake.f = some r) : Calls Try.prog 6 #[] w fun e w' => e = .returned (.bool r) ∧ Below w.heap.size w w' := by
 obtain rfl := Option.some.inj h
 refine awake_ok w exC 352 0 2 3 5 22 44 (by unfold wrap64; omega) (by decide) ?_ ?_ ?_ ?_ ?_ ?_
 ·refine (q_example.calls 9 2 [2] 1 1 0 0 1 1 0 50 600 3 2 [[1, 2]] 3 0 8 3 0 8 3 0 8 [] 10 w ex_f).mono ?_
  rintro e w' ⟨v1, v13, v23, rfl, h1, h13, h23, hb⟩
  obtain ⟨A1, p1, rfl, l1, C1⟩ := Kd.R_reads h1
  obtain ⟨A2, p2, rfl, l2, C2⟩ := Kd.N_reads h13
  obtain ⟨A3, p3, rfl, l3, C3⟩ := Kd.R_reads h23
  exact ⟨⟨2, .slice A1 1 p1, 1, 1, 0, 0, 1, 1, 0, 50, 600, 3, 2, .slice A2 1 p2, .int .u64 3, 0, 8, .int .u64 3, 0, 8, .int .u64 3, 0, 8, .slice A3 0 p3, 10⟩, rfl, rfl, ⟨A1, p1, A2, p2, A3, p3, rfl, C1, l1, C2, l2, C3, l3⟩, hb⟩
 ·rintro c W W' ⟨A1, p1, A2, p2, A3, p3, hc, C1, l1, C2, l2, C3, l3⟩ hb
  exact ⟨A1, p1, A2, p2, A3, p3, hc, Kd.C_below C1 hb, l1, Kd.C_below C2 hb, l2, Kd.C_below C3 hb, l3⟩
 ·rintro c W ⟨A1, p1, A2, p2, A3, p3, rfl, C1, l1, C2, l2, C3, l3⟩
  exact bound_Share.calls 2 _ _ [2] 1 1 0 0 1 1 0 50 600 3 2 _ _ [[1, 2]] 3 0 8 3 0 8 3 0 8 _ _ [] 10 2 0 W C1 l1 C2 l2 C3 l3 ex_share
 ·rintro c W ⟨A1, p1, A2, p2, A3, p3, rfl, C1, l1, C2, l2, C3, l3⟩
  exact bound_Ticks.calls 2 _ _ [2] 1 1 0 0 1 1 0 50 600 3 2 _ _ [[1, 2]] 3 0 8 3 0 8 3 0 8 _ _ [] 10 1 352 0 W C1 l1 C2 l2 C3 l3 ex_one
 ·rintro c W ⟨A1, p1, A2, p2, A3, p3, rfl, C1, l1, C2, l2, C3, l3⟩
  exact bound_Ticks.calls 2 _ _ [2] 1 1 0 0 1 1 0 50 600 3 2 _ _ [[1, 2]] 3 0 8 3 0 8 3 0 8 _ _ [] 10 3 0 6 W C1 l1 C2 l2 C3 l3 ex_three
 ·rintro c W ⟨A1, p1, A2, p2, A3, p3, rfl, C1, l1, C2, l2, C3, l3⟩
  exact config_Times.calls 2 _ _ [2] 1 1 0 0 1 1 0 50 600 3 2 _ _ [[1, 2]] 3 0 8 3 0 8 3 0 8 _ _ [] 10 2 3 5 22 44 0 W C1 l1 C2 l2 C3 l3 ex_times
end Go.Proofs.Ytmdcjmackhjchaa.P
end
