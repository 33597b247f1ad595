import Derived.Test.YtmdcjmackhjchaaZad
section
-- Printed by wip/myprint.py of this repo (over the kit's printer). Not trusted: Lean checks it.
namespace Go.Proofs.Ytmdcjmackhjchaa.P
open Go.RowKit Go.Proofs.YtmdcjmackhjchaaW.PrintWords Go.Proofs.YtmdcjmackhjchaaW.PrintLast Go.Proofs.YtmdcjmackhjchaaW.PrintMore
attribute [local go_sem] cell_same1 cell_some1 ix27_0 ix27_1 ix27_2
attribute [local go_sem] max2_int min2_int max_two min_two max_three min_three max_four min_four   -- for this text's walks alone
set_option linter.unusedVariables false
set_option linter.unusedSimpArgs false

/-! ### kit_OwnInts: function 17 -/
def kit_OwnInts.f (l0 : List Int) : Option (List Int) := (some (([] : List Int) : List Int)).bind fun y164 => (if y164.length + l0.length < 17592186044416 then (some (y164 ++ l0)) else (none))
set_option maxHeartbeats 8000000 in
set_option maxRecDepth 100000 in
theorem kit_OwnInts.calls (A0 : Option Addr) (c0 : Nat) (l0 : List Int) (r : List Int) (w : World) (hr0 : Kd.C (Kd.int .i64) w A0 l0.length l0) (hc0 : l0.length ≤ c0) (h : kit_OwnInts.f l0 = some r) :
  Calls Try.prog 17 #[.slice A0 l0.length c0] w fun e w' => ∃ v0_ : Value, e = .returned (v0_) ∧ Kd.R (Kd.int .i64) 3 w' w.heap.size (fun _ => True) v0_ r ∧ Below w.heap.size w w' := by
 have HR0 := Aside0.mk hr0
 have HC0 := Aside0.mk hc0
 clear hr0 hc0
 have HB := Aside0.mk (Below.refl w.heap.size w)
 have H : ((some (([] : List Int) : List Int)).bind fun y164 => (if y164.length + l0.length < 17592186044416 then (some (y164 ++ l0)) else (none))) = some r := h
 clear h
 obtain ⟨y164, hy164⟩ : ∃ y_ : List Int, y_ = (([] : List Int)) := ⟨_, rfl⟩
 replace H : (if y164.length + l0.length < 17592186044416 then (some (y164 ++ l0)) else (none)) = some r := by first | (rw [hy164]; with_reducible exact H) | (have H2_ := (Option.bind_some _ _).symm.trans H; rw [hy164]; with_reducible exact H2_) | (have H2_ := (Option.bind_some _ _).symm.trans H; with_reducible exact H2_) | with_reducible exact H | (rw [hy164]; exact H) | exact H
 have Ny164 := Aside0.mk hy164
 clear hy164
 by_cases c2 : y164.length + l0.length < 17592186044416
 ·as_aux_lemma =>
  rw [if_pos c2] at H
  have LMc2 := Aside0.mk c2
  clear c2
  obtain ⟨y167, hy167⟩ : ∃ y_ : List Int, y_ = (y164 ++ l0) := ⟨_, rfl⟩
  replace H : (some y167) = some r := by first | (rw [hy167]; with_reducible exact H) | (have H2_ := (Option.bind_some _ _).symm.trans H; rw [hy167]; with_reducible exact H2_) | (have H2_ := (Option.bind_some _ _).symm.trans H; with_reducible exact H2_) | with_reducible exact H | (rw [hy167]; exact H) | exact H
  have Ny167 := Aside0.mk hy167
  clear hy167
  obtain rfl := Option.some.inj H
  go_enter Try.func17, Try.ntmps17
  go_wp2_with (first | ((with_reducible refine gate_dst (N := 3) rfl ?_); refine Kd.R_lit (Kd.int .i64) _ 3 ?hg (N := 3) ?hd (xs := ([] : List Int)) (inner := []) (ok := fun _ => True) (okp := fun _ => True) ?hr ?hp (fun _ hk => hk) trivial (Below.refl _ _) (Nat.le_refl _) (by simp) ?_; (case hd => rfl); (case hg => rfl); (case hr => first | (go_simp; done) | (go_simp; rfl)); (case hp => exact (Reps.none _ _)); intro v165 w3 ho4 hb hg_ hnew_; clear hg_ hnew_; (first | rw [← Ny164.out] at ho4 | (simp only [Int.reduceToNat] at ho4; rw [← Ny164.out] at ho4)); have HO166 := Aside0.mk (Kd.R_lower ho4 (bsz HB.out)); replace HB := Aside0.mk (bst HB.out hb); clear hb ho4) | ((with_reducible refine gate_builtin (b := .append) (xs := #[.tmp 3, .tmp 4]) rfl ?_); at_builtin; refine Kd.R_append_rows (Kd.int .i64) (w0 := w) w.heap.size rfl (.tmp 3) (.tmp 4) 22 3 (.int .i64 0) 8 rfl Try.underlying22 info3 rfl (by decide) (by omega) v165 y164 l0 _ _ _ (fun _ => True) (fun _ => False) rfl rfl ?aO ?aR (fun _ _ h => h) (fun _ h => h.elim) ?aF ?aB ?aS ?aL ?_; (case aR => repeat (first | exact (Kd.C_below HR0.out HB.out) | (with_reducible refine Kd.C_alloc ?_ _) | (with_reducible refine Kd.C_drewN ?_ _) | (with_reducible refine Kd.C_drew ?_))); (case aB => exact (bel HB.out)); (case aF => exact (fun _ _ => trivial)); (case aO => exact (kdt HO166.out)); (case aS => exact (bsz HB.out)); (case aL => have := LMc2.out; omega); intro v168 w5 ho hb hg hat; rw [← Ny167.out] at ho; have n0_ := Aside0.mk (hb); have n1_ := Aside0.mk (ho); clear HB; clear HO166; have HB := n0_; have HO169 := n1_; clear n0_ n1_; clear ho hb hg hat))
  go_ret
  exact ⟨_, by first | rfl | (simp [errW_none, errW_some] <;> rfl) | (simp [*, errW_none, errW_some] <;> rfl), by (with_reducible repeat (first | apply Kd.R_alloc | apply Kd.R_drewN | apply Kd.R_drew)); exact HO169.out, bel HB.out⟩
 ·rw [if_neg c2] at H
  exact absurd H (by simp)

/-! ### kit_OwnConfig: function 7 -/
def kit_OwnConfig.l0 : Nat → List (List Int) → Int → Int → List Int → Int → Int → Int → Int → Int → Int → Int → Int → Int → Int → Int → List (List Int) → Int → Int → Int → Int → Int → Int → Int → Int → Int → List Int → Int → Option (Int × List Int × Int × Int × Int × Int × Int × Int × Int × Int × Int × Int × Int × (List (List Int)) × Int × Int × Int × Int × Int × Int × Int × Int × Int × List Int × Int)
 | 0, _, _, _, _, _, _, _, _, _, _, _, _, _, _, _, _, _, _, _, _, _, _, _, _, _, _, _ => none
 | k + 1, x3, x4, x171000, x171001, x171002, x171003, x171004, x171005, x171006, x171007, x171008, x171009, x171010, x171011, x171012, x171013, x171014, x171015, x171016, x171017, x171018, x171019, x171020, x171021, x171022, x171023, x171024 => if x4 < (x171013.length : Int) then (if 0 ≤ x4 then ((kit_OwnInts.f (rd_L1 x171013 x4)).bind fun t179 => (if x3.length < 5864062014805 then (kit_OwnConfig.l0 k (x3 ++ [t179]) (wrap64 (x4 + 1)) x171000 x171001 x171002 x171003 x171004 x171005 x171006 x171007 x171008 x171009 x171010 x171011 x171012 x171013 x171014 x171015 x171016 x171017 x171018 x171019 x171020 x171021 x171022 x171023 x171024) else (none))) else (none)) else (some (x171000, x171001, x171002, x171003, x171004, x171005, x171006, x171007, x171008, x171009, x171010, x171011, x171012, x3, x171014, x171015, x171016, x171017, x171018, x171019, x171020, x171021, x171022, x171023, x171024))
def kit_OwnConfig.f (k : Nat) (a0_0 : Int) (l0_1 : List Int) (a0_2 : Int) (a0_3 : Int) (a0_4 : Int) (a0_5 : Int) (a0_6 : Int) (a0_7 : Int) (a0_8 : Int) (a0_9 : Int) (a0_10 : Int) (a0_11 : Int) (a0_12 : Int) (l0_13 : List (List Int)) (a0_14 : Int) (a0_15 : Int) (a0_16 : Int) (a0_17 : Int) (a0_18 : Int) (a0_19 : Int) (a0_20 : Int) (a0_21 : Int) (a0_22 : Int) (l0_23 : List Int) (a0_24 : Int) : Option (Int × List Int × Int × Int × Int × Int × Int × Int × Int × Int × Int × Int × Int × (List (List Int)) × Int × Int × Int × Int × Int × Int × Int × Int × Int × List Int × Int) := (kit_OwnInts.f l0_1).bind fun t172 => ((kit_OwnInts.f l0_23).bind fun t175 => (kit_OwnConfig.l0 k ([] : List (List Int)) 0 a0_0 t172 a0_2 a0_3 a0_4 a0_5 a0_6 a0_7 a0_8 a0_9 a0_10 a0_11 a0_12 l0_13 a0_14 a0_15 a0_16 a0_17 a0_18 a0_19 a0_20 a0_21 a0_22 t175 a0_24))
theorem kit_OwnConfig.mono_l : ∀ k, (∀ y0 y1 y2 y3 y4 y5 y6 y7 y8 y9 y10 y11 y12 y13 y14 y15 y16 y17 y18 y19 y20 y21 y22 y23 y24 y25 y26, LeO (kit_OwnConfig.l0 k y0 y1 y2 y3 y4 y5 y6 y7 y8 y9 y10 y11 y12 y13 y14 y15 y16 y17 y18 y19 y20 y21 y22 y23 y24 y25 y26) (kit_OwnConfig.l0 (k + 1) y0 y1 y2 y3 y4 y5 y6 y7 y8 y9 y10 y11 y12 y13 y14 y15 y16 y17 y18 y19 y20 y21 y22 y23 y24 y25 y26))
 | 0 => fun _ _ _ _ _ _ _ _ _ _ _ _ _ _ _ _ _ _ _ _ _ _ _ _ _ _ _ r h => by simp [kit_OwnConfig.l0] at h
 | k + 1 => by
  have ih0 := kit_OwnConfig.mono_l k
  ·as_aux_lemma =>
   intro y0 y1 y2 y3 y4 y5 y6 y7 y8 y9 y10 y11 y12 y13 y14 y15 y16 y17 y18 y19 y20 y21 y22 y23 y24 y25 y26
   unfold kit_OwnConfig.l0
   repeat' first
   | (with_reducible exact ih0 _ _ _ _ _ _ _ _ _ _ _ _ _ _ _ _ _ _ _ _ _ _ _ _ _ _ _)
   | (with_reducible exact LeO.refl _)
   | (with_reducible exact LeO.none _)
   | (with_reducible refine LeO.ite ?_ ?_)
   | (with_reducible refine LeO.bind ?_ (fun _ => ?_))
   | exact ih0 _ _ _ _ _ _ _ _ _ _ _ _ _ _ _ _ _ _ _ _ _ _ _ _ _ _ _
   | exact LeO.none _
   | refine LeO.ite ?_ ?_
   | refine LeO.bind ?_ (fun _ => ?_)
theorem kit_OwnConfig.mono : ∀ a0 a1 a2 a3 a4 a5 a6 a7 a8 a9 a10 a11 a12 a13 a14 a15 a16 a17 a18 a19 a20 a21 a22 a23 a24 k, LeO (kit_OwnConfig.f k a0 a1 a2 a3 a4 a5 a6 a7 a8 a9 a10 a11 a12 a13 a14 a15 a16 a17 a18 a19 a20 a21 a22 a23 a24) (kit_OwnConfig.f (k + 1) a0 a1 a2 a3 a4 a5 a6 a7 a8 a9 a10 a11 a12 a13 a14 a15 a16 a17 a18 a19 a20 a21 a22 a23 a24) := by
 intro a0 a1 a2 a3 a4 a5 a6 a7 a8 a9 a10 a11 a12 a13 a14 a15 a16 a17 a18 a19 a20 a21 a22 a23 a24 k
 have ih0 := kit_OwnConfig.mono_l k
 unfold kit_OwnConfig.f
 repeat' first
   | (with_reducible exact ih0 _ _ _ _ _ _ _ _ _ _ _ _ _ _ _ _ _ _ _ _ _ _ _ _ _ _ _)
   | (with_reducible exact LeO.refl _)
   | (with_reducible exact LeO.none _)
   | (with_reducible refine LeO.ite ?_ ?_)
   | (with_reducible refine LeO.bind ?_ (fun _ => ?_))
   | exact ih0 _ _ _ _ _ _ _ _ _ _ _ _ _ _ _ _ _ _ _ _ _ _ _ _ _ _ _
   | exact LeO.none _
   | refine LeO.ite ?_ ?_
   | refine LeO.bind ?_ (fun _ => ?_)
def kit_OwnConfig.T1 : Bool × List (List Nat × List Nat) := (true, [([], []), ([0], [0]), ([1], [1]), ([], []), ([3], [3]), ([4, 2], [4]), ([0, 1, 2, 3, 4], []), ([6, 2, 5, 0, 1, 2, 3, 4], [2, 6]), ([0, 1, 2, 3, 4, 5, 6, 7], []), ([8, 5, 7, 0, 1, 2, 3, 4, 5, 6, 7], [5, 8])])
def kit_OwnConfig.B1 : List Nat := [0, 1, 3, 0, 8, 31, 31, 127, 255, 511]
theorem kit_OwnConfig.tab1 : rtab .any (opsOf Try.f7 1) = kit_OwnConfig.T1 := by kernel_rfl
theorem kit_OwnConfig.bits1 : waitsOk kit_OwnConfig.T1.2 kit_OwnConfig.B1 = true := by kernel_rfl
set_option maxHeartbeats 8000000 in
set_option maxRecDepth 100000 in
theorem kit_OwnConfig.calls (k : Nat) (a0_0 : Int) (A0_1 : Option Addr) (c0_1 : Nat) (l0_1 : List Int) (a0_2 : Int) (a0_3 : Int) (a0_4 : Int) (a0_5 : Int) (a0_6 : Int) (a0_7 : Int) (a0_8 : Int) (a0_9 : Int) (a0_10 : Int) (a0_11 : Int) (a0_12 : Int) (A0_13 : Option Addr) (c0_13 : Nat) (l0_13 : List (List Int)) (a0_14 : Int) (a0_15 : Int) (a0_16 : Int) (a0_17 : Int) (a0_18 : Int) (a0_19 : Int) (a0_20 : Int) (a0_21 : Int) (a0_22 : Int) (A0_23 : Option Addr) (c0_23 : Nat) (l0_23 : List Int) (a0_24 : Int) (r1 : Int) (r2 : List Int) (r3 : Int) (r4 : Int) (r5 : Int) (r6 : Int) (r7 : Int) (r8 : Int) (r9 : Int) (r10 : Int) (r11 : Int) (r12 : Int) (r13 : Int) (r14 : List (List Int)) (r15 : Int) (r16 : Int) (r17 : Int) (r18 : Int) (r19 : Int) (r20 : Int) (r21 : Int) (r22 : Int) (r23 : Int) (r24 : List Int) (r25 : Int) (w : World) (hr0_1 : Kd.C (Kd.int .i64) w A0_1 l0_1.length l0_1) (hc0_1 : l0_1.length ≤ c0_1) (hr0_13 : Kd.C (Kd.slice 3 (Kd.int .i64)) w A0_13 l0_13.length l0_13) (hc0_13 : l0_13.length ≤ c0_13) (hr0_23 : Kd.C (Kd.int .i64) w A0_23 l0_23.length l0_23) (hc0_23 : l0_23.length ≤ c0_23) (h : kit_OwnConfig.f k a0_0 l0_1 a0_2 a0_3 a0_4 a0_5 a0_6 a0_7 a0_8 a0_9 a0_10 a0_11 a0_12 l0_13 a0_14 a0_15 a0_16 a0_17 a0_18 a0_19 a0_20 a0_21 a0_22 l0_23 a0_24 = some (r1, r2, r3, r4, r5, r6, r7, r8, r9, r10, r11, r12, r13, r14, r15, r16, r17, r18, r19, r20, r21, r22, r23, r24, r25)) :
  Calls Try.prog 7 #[.agg #[.int .i64 a0_0, .slice A0_1 l0_1.length c0_1, .int .i64 a0_2, .int .i64 a0_3, .int .i64 a0_4, .int .i64 a0_5, .int .i64 a0_6, .int .i64 a0_7, .int .i64 a0_8, .int .i64 a0_9, .int .i64 a0_10, .int .i64 a0_11, .int .i64 a0_12, .slice A0_13 l0_13.length c0_13, .int .u64 a0_14, .int .i64 a0_15, .int .i64 a0_16, .int .u64 a0_17, .int .i64 a0_18, .int .i64 a0_19, .int .u64 a0_20, .int .i64 a0_21, .int .i64 a0_22, .slice A0_23 l0_23.length c0_23, .int .i64 a0_24]] w fun e w' => ∃ v1_ v13_ v23_ : Value, e = .returned (.agg #[.int .i64 r1, v1_, .int .i64 r3, .int .i64 r4, .int .i64 r5, .int .i64 r6, .int .i64 r7, .int .i64 r8, .int .i64 r9, .int .i64 r10, .int .i64 r11, .int .i64 r12, .int .i64 r13, v13_, .int .u64 r15, .int .i64 r16, .int .i64 r17, .int .u64 r18, .int .i64 r19, .int .i64 r20, .int .u64 r21, .int .i64 r22, .int .i64 r23, v23_, .int .i64 r25]) ∧ Kd.R (Kd.int .i64) 3 w' w.heap.size (fun k_ => some k_ ≠ (v23_ : Value).ownBlock) v1_ r2 ∧ Kd.S (Kd.slice 3 (Kd.int .i64)) 22 w' w.heap.size (fun k_ => some k_ ≠ (v1_ : Value).ownBlock ∧ some k_ ≠ (v23_ : Value).ownBlock) v13_ r14 ∧ Kd.R (Kd.int .i64) 3 w' w.heap.size (fun k_ => some k_ ≠ (v1_ : Value).ownBlock) v23_ r24 ∧ Below w.heap.size w w' := by
 have hu29 := Try.underlying29
 have HR0_1 := Aside0.mk hr0_1
 have HC0_1 := Aside0.mk hc0_1
 clear hr0_1 hc0_1
 have HR0_13 := Aside0.mk hr0_13
 have HC0_13 := Aside0.mk hc0_13
 clear hr0_13 hc0_13
 have HR0_23 := Aside0.mk hr0_23
 have HC0_23 := Aside0.mk hc0_23
 clear hr0_23 hc0_23
 have HB := Aside0.mk (Below.refl w.heap.size w)
 have H : ((kit_OwnInts.f l0_1).bind fun t172 => ((kit_OwnInts.f l0_23).bind fun t175 => (kit_OwnConfig.l0 k ([] : List (List Int)) 0 a0_0 t172 a0_2 a0_3 a0_4 a0_5 a0_6 a0_7 a0_8 a0_9 a0_10 a0_11 a0_12 l0_13 a0_14 a0_15 a0_16 a0_17 a0_18 a0_19 a0_20 a0_21 a0_22 t175 a0_24))) = some (r1, r2, r3, r4, r5, r6, r7, r8, r9, r10, r11, r12, r13, r14, r15, r16, r17, r18, r19, r20, r21, r22, r23, r24, r25) := h
 clear h
 replace H := Option.bind_eq_some_iff.mp H
 obtain ⟨t172, A20, H⟩ := H
 replace H : ((kit_OwnInts.f l0_23).bind fun t175 => (kit_OwnConfig.l0 k ([] : List (List Int)) 0 a0_0 t172 a0_2 a0_3 a0_4 a0_5 a0_6 a0_7 a0_8 a0_9 a0_10 a0_11 a0_12 l0_13 a0_14 a0_15 a0_16 a0_17 a0_18 a0_19 a0_20 a0_21 a0_22 t175 a0_24)) = some (r1, r2, r3, r4, r5, r6, r7, r8, r9, r10, r11, r12, r13, r14, r15, r16, r17, r18, r19, r20, r21, r22, r23, r24, r25) := H
 have A2 := Aside0.mk A20
 clear A20
 replace H := Option.bind_eq_some_iff.mp H
 obtain ⟨t175, A30, H⟩ := H
 replace H : (kit_OwnConfig.l0 k ([] : List (List Int)) 0 a0_0 t172 a0_2 a0_3 a0_4 a0_5 a0_6 a0_7 a0_8 a0_9 a0_10 a0_11 a0_12 l0_13 a0_14 a0_15 a0_16 a0_17 a0_18 a0_19 a0_20 a0_21 a0_22 t175 a0_24) = some (r1, r2, r3, r4, r5, r6, r7, r8, r9, r10, r11, r12, r13, r14, r15, r16, r17, r18, r19, r20, r21, r22, r23, r24, r25) := H
 have A3 := Aside0.mk A30
 clear A30
 have H' := Aside0.mk H
 clear H
 go_enter Try.func7, Try.ntmps7
 try go_wp2_with (first | ((with_reducible refine gate_dst (N := 31) rfl ?_); (first | refine lwx (g := gb170) (cs := [.int .i64 a0_0, .slice A0_1 l0_1.length c0_1, .int .i64 a0_2, .int .i64 a0_3, .int .i64 a0_4, .int .i64 a0_5, .int .i64 a0_6, .int .i64 a0_7, .int .i64 a0_8, .int .i64 a0_9, .int .i64 a0_10, .int .i64 a0_11, .int .i64 a0_12, .slice A0_13 l0_13.length c0_13, .int .u64 a0_14, .int .i64 a0_15, .int .i64 a0_16, .int .u64 a0_17, .int .i64 a0_18, .int .i64 a0_19, .int .u64 a0_20, .int .i64 a0_21, .int .i64 a0_22, .slice A0_23 l0_23.length c0_23, .int .i64 a0_24]) (bkt BK170.out) ?_ | refine lwx (g := gb170) BK170.out ?_ | refine lwx2 (g := gb170) (blk_set (bkt BK170.out) _ _) ?_)) | ((with_reducible refine gate_store (t := 29) (p := 2) rfl ?_); (first | refine swx29 (g := gb171) (bkt BK171.out) ?_ | refine swx29 (g := gb171) BK171.out ?_)) | ((with_reducible refine gate_dst (N := 1) rfl ?_); refine bxe (cs := #[.int .i64 a0_0, .slice A0_1 l0_1.length c0_1, .int .i64 a0_2, .int .i64 a0_3, .int .i64 a0_4, .int .i64 a0_5, .int .i64 a0_6, .int .i64 a0_7, .int .i64 a0_8, .int .i64 a0_9, .int .i64 a0_10, .int .i64 a0_11, .int .i64 a0_12, .slice A0_13 l0_13.length c0_13, .int .u64 a0_14, .int .i64 a0_15, .int .i64 a0_16, .int .u64 a0_17, .int .i64 a0_18, .int .i64 a0_19, .int .u64 a0_20, .int .i64 a0_21, .int .i64 a0_22, .slice A0_23 l0_23.length c0_23, .int .i64 a0_24]) (t := 29) ?_; intro gb170 hg w4 hbox hb; have BK170 := Aside0.mk (hbox); have GW170 := Aside0.mk (bge hg HB.out); have GE170 := Aside0.mk (bge hg HB.out); replace HB := Aside0.mk (bst HB.out hb); clear hb hbox hg) | ((with_reducible refine gate_dst (N := 2) rfl ?_); refine bxe (cs := #[.int .i64 0, .slice none 0 0, .int .i64 0, .int .i64 0, .int .i64 0, .int .i64 0, .int .i64 0, .int .i64 0, .int .i64 0, .int .i64 0, .int .i64 0, .int .i64 0, .int .i64 0, .slice none 0 0, .int .u64 0, .int .i64 0, .int .i64 0, .int .u64 0, .int .i64 0, .int .i64 0, .int .u64 0, .int .i64 0, .int .i64 0, .slice none 0 0, .int .i64 0]) (t := 29) ?_; intro gb171 hg w5 hbox hb; have BK171 := Aside0.mk (hbox); have GW171 := Aside0.mk (bge hg HB.out); have GE171 := Aside0.mk (bge hg HB.out); have NB170_171 := Aside0.mk ((bkl hg BK170.out)); have NB171_170 := Aside0.mk ((bkg hg BK170.out)); replace BK170 := Aside0.mk (bkb BK170.out hb); replace HB := Aside0.mk (bst HB.out hb); clear hb hbox hg))
 have n0_ := Aside0.mk (blk_drew BK170.out)
 have n1_ := Aside0.mk (blk_drew BK171.out)
 have n2_ := Aside0.mk (below_drew1 HB.out)
 clear BK170
 clear BK171
 clear HB
 have BK170 := n0_
 have BK171 := n1_
 have HB := n2_
 clear n0_ n1_ n2_
 refine start_ (n := 10) (S := fun w' => w'.cell? ⟨gb170, 0, none⟩ = some (.int .i64 a0_0) ∧ w'.cell? ⟨gb170, 1, none⟩ = some (.slice A0_1 l0_1.length c0_1) ∧ w'.cell? ⟨gb170, 2, none⟩ = some (.int .i64 a0_2) ∧ w'.cell? ⟨gb170, 3, none⟩ = some (.int .i64 a0_3) ∧ w'.cell? ⟨gb170, 4, none⟩ = some (.int .i64 a0_4) ∧ w'.cell? ⟨gb170, 5, none⟩ = some (.int .i64 a0_5) ∧ w'.cell? ⟨gb170, 6, none⟩ = some (.int .i64 a0_6) ∧ w'.cell? ⟨gb170, 7, none⟩ = some (.int .i64 a0_7) ∧ w'.cell? ⟨gb170, 8, none⟩ = some (.int .i64 a0_8) ∧ w'.cell? ⟨gb170, 9, none⟩ = some (.int .i64 a0_9) ∧ w'.cell? ⟨gb170, 10, none⟩ = some (.int .i64 a0_10) ∧ w'.cell? ⟨gb170, 11, none⟩ = some (.int .i64 a0_11) ∧ w'.cell? ⟨gb170, 12, none⟩ = some (.int .i64 a0_12) ∧ w'.cell? ⟨gb170, 13, none⟩ = some (.slice A0_13 l0_13.length c0_13) ∧ w'.cell? ⟨gb170, 14, none⟩ = some (.int .u64 a0_14) ∧ w'.cell? ⟨gb170, 15, none⟩ = some (.int .i64 a0_15) ∧ w'.cell? ⟨gb170, 16, none⟩ = some (.int .i64 a0_16) ∧ w'.cell? ⟨gb170, 17, none⟩ = some (.int .u64 a0_17) ∧ w'.cell? ⟨gb170, 18, none⟩ = some (.int .i64 a0_18) ∧ w'.cell? ⟨gb170, 19, none⟩ = some (.int .i64 a0_19) ∧ w'.cell? ⟨gb170, 20, none⟩ = some (.int .u64 a0_20) ∧ w'.cell? ⟨gb170, 21, none⟩ = some (.int .i64 a0_21) ∧ w'.cell? ⟨gb170, 22, none⟩ = some (.int .i64 a0_22) ∧ w'.cell? ⟨gb170, 23, none⟩ = some (.slice A0_23 l0_23.length c0_23) ∧ w'.cell? ⟨gb170, 24, none⟩ = some (.int .i64 a0_24)) (ds := [7, 9]) #[false, false, false, false, false, false, false, false, false, false] (by kernel_rfl) rfl rfl ⟨(blk_cell BK170.out 0).trans rfl, (blk_cell BK170.out 1).trans rfl, (blk_cell BK170.out 2).trans rfl, (blk_cell BK170.out 3).trans rfl, (blk_cell BK170.out 4).trans rfl, (blk_cell BK170.out 5).trans rfl, (blk_cell BK170.out 6).trans rfl, (blk_cell BK170.out 7).trans rfl, (blk_cell BK170.out 8).trans rfl, (blk_cell BK170.out 9).trans rfl, (blk_cell BK170.out 10).trans rfl, (blk_cell BK170.out 11).trans rfl, (blk_cell BK170.out 12).trans rfl, (blk_cell BK170.out 13).trans rfl, (blk_cell BK170.out 14).trans rfl, (blk_cell BK170.out 15).trans rfl, (blk_cell BK170.out 16).trans rfl, (blk_cell BK170.out 17).trans rfl, (blk_cell BK170.out 18).trans rfl, (blk_cell BK170.out 19).trans rfl, (blk_cell BK170.out 20).trans rfl, (blk_cell BK170.out 21).trans rfl, (blk_cell BK170.out 22).trans rfl, (blk_cell BK170.out 23).trans rfl, (blk_cell BK170.out 24).trans rfl⟩ (fun hHeld => ?_); refine with_tabW kit_OwnConfig.tab1 kit_OwnConfig.bits1 (fun HT_ HW_ => ?_)
 generalize w5.drew = w6 at BK170 BK171 HB hHeld ⊢
 refine pur 0 (some 5) (bm 10 1) HT_.out ?_
 refine pur 3 (some 8) (bm 10 9) HT_.out ?_
 refine tkp 1 (some 6) (bm 10 11) HT_.out HW_.out hHeld ?_
 refine tkp 4 (some 9) (bm 10 27) HT_.out HW_.out hHeld ?_
 refine one_ (i := 2) (N := some 7) (bm 10 31) rfl rfl (one_of HT_.out (by kernel_rfl)) (by decide) (fun K hK => ?_)
 refine goes_ Try.func17 (by kernel_rfl) rfl #[.slice A0_1 l0_1.length c0_1] (by rfl) rfl rfl (by (try simp only [List.map_toArray, List.map_cons, List.map_nil]); first | done | rfl | (simp only [List.length_drop, List.length_take]; rfl)) ?_
 with_reducible refine (kit_OwnInts.calls _ _ l0_1 t172 _ ?side1 ?side2 A2.out).mono ?_
 (case side1 => repeat (first | exact (Kd.C_below HR0_1.out HB.out) | (with_reducible refine Kd.C_alloc ?_ _) | (with_reducible refine Kd.C_drewN ?_ _) | (with_reducible refine Kd.C_drew ?_)))
 (case side2 => exact HC0_1.out)
 rintro e w7 ⟨v173, rfl, ho0, hb⟩
 refine ⟨_, rfl, ?_⟩
 have n0_ := Aside0.mk (Kd.R_lower ho0 (bsz HB.out))
 have n1_ := Aside0.mk (bkb BK170.out hb)
 have n2_ := Aside0.mk (bkb BK171.out hb)
 have n3_ := Aside0.mk (bst HB.out hb)
 clear BK170
 clear BK171
 clear HB
 have HO174 := n0_
 have BK170 := n1_
 have BK171 := n2_
 have HB := n3_
 clear n0_ n1_ n2_ n3_
 (try clear hb)
 (try clear hb2)
 (try clear hk)
 (try clear hi)
 (try clear ho0)
 refine hK.out _ _ ⟨(blk_cell BK170.out 0).trans rfl, (blk_cell BK170.out 1).trans rfl, (blk_cell BK170.out 2).trans rfl, (blk_cell BK170.out 3).trans rfl, (blk_cell BK170.out 4).trans rfl, (blk_cell BK170.out 5).trans rfl, (blk_cell BK170.out 6).trans rfl, (blk_cell BK170.out 7).trans rfl, (blk_cell BK170.out 8).trans rfl, (blk_cell BK170.out 9).trans rfl, (blk_cell BK170.out 10).trans rfl, (blk_cell BK170.out 11).trans rfl, (blk_cell BK170.out 12).trans rfl, (blk_cell BK170.out 13).trans rfl, (blk_cell BK170.out 14).trans rfl, (blk_cell BK170.out 15).trans rfl, (blk_cell BK170.out 16).trans rfl, (blk_cell BK170.out 17).trans rfl, (blk_cell BK170.out 18).trans rfl, (blk_cell BK170.out 19).trans rfl, (blk_cell BK170.out 20).trans rfl, (blk_cell BK170.out 21).trans rfl, (blk_cell BK170.out 22).trans rfl, (blk_cell BK170.out 23).trans rfl, (blk_cell BK170.out 24).trans rfl⟩ (fun hHeld => ?_)
 clear hK K
 refine norm_ (a' := ?_) ?_ ?_
 rotate_left
 ·show Act.put _ (some 7) _ = _
  simp only [Act.put, List.setIfInBounds_toArray, List.set_cons_zero, List.set_cons_succ, i64_w, i32_w]
  rfl
 refine pur 6 (some 11) (bm 10 95) HT_.out ?_
 refine one_ (i := 5) (N := some 10) (bm 10 127) rfl rfl (one_of HT_.out (by kernel_rfl)) (by decide) (fun K hK => ?_)
 refine goes_ Try.func17 (by kernel_rfl) rfl #[.slice A0_23 l0_23.length c0_23] (by rfl) rfl rfl (by (try simp only [List.map_toArray, List.map_cons, List.map_nil]); first | done | rfl | (simp only [List.length_drop, List.length_take]; rfl)) ?_
 with_reducible refine (kit_OwnInts.calls _ _ l0_23 t175 _ ?side1 ?side2 A3.out).mono ?_
 (case side1 => repeat (first | exact (Kd.C_below HR0_23.out HB.out) | (with_reducible refine Kd.C_alloc ?_ _) | (with_reducible refine Kd.C_drewN ?_ _) | (with_reducible refine Kd.C_drew ?_)))
 (case side2 => exact HC0_23.out)
 rintro e w8 ⟨v176, rfl, ho0, hb⟩
 refine ⟨_, rfl, ?_⟩
 have n0_ := Aside0.mk (Kd.R_elder' (kdt HO174.out) (Kd.R_base ho0) hb)
 have n1_ := Aside0.mk (Kd.R_lower (Kd.R_new' ho0 (Kd.R_lt (kdt HO174.out))) (bsz HB.out))
 have n2_ := Aside0.mk (bkb BK170.out hb)
 have n3_ := Aside0.mk (bkb BK171.out hb)
 have n4_ := Aside0.mk (bst HB.out hb)
 clear HO174
 clear BK170
 clear BK171
 clear HB
 have HO174 := n0_
 have HO177 := n1_
 have BK170 := n2_
 have BK171 := n3_
 have HB := n4_
 clear n0_ n1_ n2_ n3_ n4_
 (try clear hb)
 (try clear hb2)
 (try clear hk)
 (try clear hi)
 (try clear ho0)
 obtain ⟨Ao9, co9, eo9⟩ := Kd.R_slice HO174.out
 (first | subst eo9 | (injection eo9 with f1_ f2_ f3_; have f4_ := f1_.symm; have f5_ := f3_.symm; clear f1_ f2_ f3_; subst f4_; subst f5_))
 obtain ⟨Ao11, co11, eo11⟩ := Kd.R_slice HO177.out
 (first | subst eo11 | (injection eo11 with f1_ f2_ f3_; have f4_ := f1_.symm; have f5_ := f3_.symm; clear f1_ f2_ f3_; subst f4_; subst f5_))
 refine hK.out _ _ ⟨(blk_cell BK170.out 0).trans rfl, (blk_cell BK170.out 1).trans rfl, (blk_cell BK170.out 2).trans rfl, (blk_cell BK170.out 3).trans rfl, (blk_cell BK170.out 4).trans rfl, (blk_cell BK170.out 5).trans rfl, (blk_cell BK170.out 6).trans rfl, (blk_cell BK170.out 7).trans rfl, (blk_cell BK170.out 8).trans rfl, (blk_cell BK170.out 9).trans rfl, (blk_cell BK170.out 10).trans rfl, (blk_cell BK170.out 11).trans rfl, (blk_cell BK170.out 12).trans rfl, (blk_cell BK170.out 13).trans rfl, (blk_cell BK170.out 14).trans rfl, (blk_cell BK170.out 15).trans rfl, (blk_cell BK170.out 16).trans rfl, (blk_cell BK170.out 17).trans rfl, (blk_cell BK170.out 18).trans rfl, (blk_cell BK170.out 19).trans rfl, (blk_cell BK170.out 20).trans rfl, (blk_cell BK170.out 21).trans rfl, (blk_cell BK170.out 22).trans rfl, (blk_cell BK170.out 23).trans rfl, (blk_cell BK170.out 24).trans rfl⟩ (fun hHeld => ?_)
 clear hK K
 refine norm_ (a' := ?_) ?_ ?_
 rotate_left
 ·show Act.put _ (some 10) _ = _
  simp only [Act.put, List.setIfInBounds_toArray, List.set_cons_zero, List.set_cons_succ, i64_w, i32_w]
  rfl
 refine last_ (i := 7) (N := none) #[true, true, true, true, true, true, true, true, false, false] rfl rfl (one_of HT_.out (by kernel_rfl)) (by decide) (fun K hK => ?_)
 have hs10 : w8.cell? ⟨gb170, 1, none⟩ = some (.slice A0_1 l0_1.length c0_1) := (blk_cell BK170.out 1).trans rfl
 have hfs10 := blk_frozen BK170.out 1
 have hns10_1 := NB171_170.out
 have hms10_1 := NB170_171.out
 refine skip_ (w1 := ?_) (by rfl) rfl ?_ ?_
 rotate_left
 ·go_simp
  rfl
 refine hK.out _ _ ?_
 clear hK K
 refine pur 8 (some 12) (bm 10 511) HT_.out ?_
 refine last_ (i := 9) (N := none) #[true, true, true, true, true, true, true, true, true, true] rfl rfl (one_of HT_.out (by kernel_rfl)) (by decide) (fun K hK => ?_)
 have hs12 : w8.cell? ⟨gb170, 23, none⟩ = some (.slice A0_23 l0_23.length c0_23) := (blk_cell BK170.out 23).trans rfl
 have hfs12 := blk_frozen BK170.out 23
 have hns12_1 := NB171_170.out
 have hms12_1 := NB170_171.out
 refine skip_ (w1 := ?_) (by rfl) rfl ?_ ?_
 rotate_left
 ·go_simp
  rfl
 refine hK.out _ _ ?_
 clear hK K
 refine done_ (done_of HT_.out (by kernel_rfl)) ?_
 try go_wp2_with (first | ((with_reducible refine gate_dst (N := 31) rfl ?_); (first | refine lwx (g := gb170) (cs := [.int .i64 a0_0, .slice A0_1 l0_1.length c0_1, .int .i64 a0_2, .int .i64 a0_3, .int .i64 a0_4, .int .i64 a0_5, .int .i64 a0_6, .int .i64 a0_7, .int .i64 a0_8, .int .i64 a0_9, .int .i64 a0_10, .int .i64 a0_11, .int .i64 a0_12, .slice A0_13 l0_13.length c0_13, .int .u64 a0_14, .int .i64 a0_15, .int .i64 a0_16, .int .u64 a0_17, .int .i64 a0_18, .int .i64 a0_19, .int .u64 a0_20, .int .i64 a0_21, .int .i64 a0_22, .slice A0_23 l0_23.length c0_23, .int .i64 a0_24]) (bkt BK170.out) ?_ | refine lwx (g := gb170) BK170.out ?_ | refine lwx2 (g := gb170) (blk_set (bkt BK170.out) _ _) ?_)) | ((with_reducible refine gate_store (t := 29) (p := 2) rfl ?_); (first | refine swx29 (g := gb171) (bkt BK171.out) ?_ | refine swx29 (g := gb171) BK171.out ?_)))
 go_loopg [3, 4] k (fun kq v3 v4 w' => ∃ (x3_1 : List (List Int)) (x4_1 : Int), v4 = .int .i64 x4_1 ∧ Aside0 (kit_OwnConfig.l0 kq x3_1 x4_1 a0_0 t172 a0_2 a0_3 a0_4 a0_5 a0_6 a0_7 a0_8 a0_9 a0_10 a0_11 a0_12 l0_13 a0_14 a0_15 a0_16 a0_17 a0_18 a0_19 a0_20 a0_21 a0_22 t175 a0_24 = some (r1, r2, r3, r4, r5, r6, r7, r8, r9, r10, r11, r12, r13, r14, r15, r16, r17, r18, r19, r20, r21, r22, r23, r24, r25)) ∧ Aside0 (kq ≤ k) ∧ Aside0 (Kd.S (Kd.slice 3 (Kd.int .i64)) 22 w' w.heap.size (fun k_ => some k_ ≠ ((.slice Ao9 t172.length co9) : Value).ownBlock ∧ some k_ ≠ ((.slice Ao11 t175.length co11) : Value).ownBlock) v3 x3_1) ∧ Aside0 (Kd.R (Kd.int .i64) 3 w' w.heap.size (fun k_ => some k_ ≠ ((.slice Ao11 t175.length co11) : Value).ownBlock) (.slice Ao9 t172.length co9) t172) ∧ Aside0 (Kd.R (Kd.int .i64) 3 w' w.heap.size (fun k_ => some k_ ≠ ((.slice Ao9 t172.length co9) : Value).ownBlock) (.slice Ao11 t175.length co11) t175) ∧ Aside0 (w'.heap[gb170]? = some (.cells #[.int .i64 a0_0, (.slice Ao9 t172.length co9), .int .i64 a0_2, .int .i64 a0_3, .int .i64 a0_4, .int .i64 a0_5, .int .i64 a0_6, .int .i64 a0_7, .int .i64 a0_8, .int .i64 a0_9, .int .i64 a0_10, .int .i64 a0_11, .int .i64 a0_12, (.slice A0_13 l0_13.length c0_13), .int .u64 a0_14, .int .i64 a0_15, .int .i64 a0_16, .int .u64 a0_17, .int .i64 a0_18, .int .i64 a0_19, .int .u64 a0_20, .int .i64 a0_21, .int .i64 a0_22, (.slice Ao11 t175.length co11), .int .i64 a0_24] 29 (0, 0))) ∧ Aside0 (w'.heap[gb171]? = some (.cells #[.int .i64 0, (.slice none 0 0), .int .i64 0, .int .i64 0, .int .i64 0, .int .i64 0, .int .i64 0, .int .i64 0, .int .i64 0, .int .i64 0, .int .i64 0, .int .i64 0, .int .i64 0, (.slice none 0 0), .int .u64 0, .int .i64 0, .int .i64 0, .int .u64 0, .int .i64 0, .int .i64 0, .int .u64 0, .int .i64 0, .int .i64 0, (.slice none 0 0), .int .i64 0] 29 (0, 0))) ∧ Aside0 (Below w.heap.size w w'))
 case atStart => exact ⟨(([] : List (List Int))), (0), (by first | rfl | (simp; done) | (simp [*]; done)), H', ⟨Nat.le_refl _⟩, ⟨by first | exact Kd.S_nil _ _ _ _ _ | exact Kd.N_nil _ _ _ _ _ | exact Kd.V_nil _ _ _ _ _ | exact Kd.Q_nil _ _ _ _ _ | exact Kd.R_nil _ _ _ _ _⟩, ⟨by (with_reducible repeat (first | apply Kd.R_alloc | apply Kd.R_drewN | apply Kd.R_drew)); exact Kd.R_mono (Kd.R_far (p := ⟨gb170, 23, none⟩) (Kd.R_far (p := ⟨gb170, 1, none⟩) (Kd.R_types HO174.out BK170.out (by decide)) (fun _ hk => hk.2) (.slice Ao9 t172.length co9)) (fun _ hk => hk.2) (.slice Ao11 t175.length co11)) (fun _ hk => hk.1.2)⟩, ⟨by (with_reducible repeat (first | apply Kd.R_alloc | apply Kd.R_drewN | apply Kd.R_drew)); exact Kd.R_mono (Kd.R_far (p := ⟨gb170, 23, none⟩) (Kd.R_far (p := ⟨gb170, 1, none⟩) (Kd.R_types HO177.out BK170.out (by decide)) (fun _ hk => hk.2) (.slice Ao9 t172.length co9)) (fun _ hk => hk.2) (.slice Ao11 t175.length co11)) (fun _ hk => hk.1.2)⟩, ⟨bkt BK170.out⟩, ⟨bkt BK171.out⟩, ⟨bel HB.out⟩⟩
 case round =>
  clear H'
  try clear c1
  try clear p2
  try clear c7
  obtain ⟨x3_1, x4_1, rfl, HA, HK1, HO_3, HO_171001, HO_171023, BK170, BK171, HB⟩ := hrel
  cases gk with
  | zero => exact absurd HA.out (by simp [kit_OwnConfig.l0])
  | succ k1 =>
   have H := HA.out
   clear HA
   simp only [kit_OwnConfig.l0] at H
   by_cases c13 : x4_1 < (l0_13.length : Int)
   ·as_aux_lemma =>
    rw [if_pos c13] at H
    have c13b0 : decide (x4_1 < (l0_13.length : Int)) = true := decide_eq_true c13
    clear c13
    by_cases c14 : 0 ≤ x4_1
    ·as_aux_lemma =>
     rw [if_pos c14] at H
     have c14b0 : decide (0 ≤ x4_1) = true := decide_eq_true c14
     clear c14
     replace H := Option.bind_eq_some_iff.mp H
     obtain ⟨t179, A150, H⟩ := H
     replace H : (if x3_1.length < 5864062014805 then (kit_OwnConfig.l0 k1 (x3_1 ++ [t179]) (wrap64 (x4_1 + 1)) a0_0 t172 a0_2 a0_3 a0_4 a0_5 a0_6 a0_7 a0_8 a0_9 a0_10 a0_11 a0_12 l0_13 a0_14 a0_15 a0_16 a0_17 a0_18 a0_19 a0_20 a0_21 a0_22 t175 a0_24) else (none)) = some (r1, r2, r3, r4, r5, r6, r7, r8, r9, r10, r11, r12, r13, r14, r15, r16, r17, r18, r19, r20, r21, r22, r23, r24, r25) := H
     have A15 := Aside0.mk A150
     clear A150
     by_cases c16 : x3_1.length < 5864062014805
     ·as_aux_lemma =>
      rw [if_pos c16] at H
      have LMc16 := Aside0.mk c16
      clear c16
      obtain ⟨y182, hy182⟩ : ∃ y_ : List (List Int), y_ = (x3_1 ++ [t179]) := ⟨_, rfl⟩
      replace H : (kit_OwnConfig.l0 k1 y182 (wrap64 (x4_1 + 1)) a0_0 t172 a0_2 a0_3 a0_4 a0_5 a0_6 a0_7 a0_8 a0_9 a0_10 a0_11 a0_12 l0_13 a0_14 a0_15 a0_16 a0_17 a0_18 a0_19 a0_20 a0_21 a0_22 t175 a0_24) = some (r1, r2, r3, r4, r5, r6, r7, r8, r9, r10, r11, r12, r13, r14, r15, r16, r17, r18, r19, r20, r21, r22, r23, r24, r25) := by first | (rw [hy182]; with_reducible exact H) | (have H2_ := (Option.bind_some _ _).symm.trans H; rw [hy182]; with_reducible exact H2_) | (have H2_ := (Option.bind_some _ _).symm.trans H; with_reducible exact H2_) | with_reducible exact H | (rw [hy182]; exact H) | exact H
      have Ny182 := Aside0.mk hy182
      clear hy182
      have H' := Aside0.mk H
      clear H
      have hnb17 := NB170_171.out
      have hnc17 := NB171_170.out
      have hcz18_0 := cz25 BK170.out
      have hfz18_0 := blk_frozen BK170.out
      have p178 : 0 ≤ (x4_1 : Int) := of_decide_eq_true (by first | (with_reducible assumption) | assumption)
      have q178 : x4_1 < (l0_13.length : Int) := of_decide_eq_true (by first | (with_reducible assumption) | assumption)
      obtain ⟨ad178, A178_0, c178_0, e178, hx178_0, hl178_0, hi178_0⟩ := at_L1 HR0_13.out x4_1 p178 q178
      cases e178
      replace hx178_0 := (HB.out.cell (World.block_lt_of_cell? w _ hx178_0)).trans hx178_0
      have HR178_0 := Aside0.mk hi178_0
      have HC178_0 := Aside0.mk hl178_0
      clear hi178_0 hl178_0
      replace p178 := eq_true p178
      replace q178 := eq_true q178
      go_wp2_with (first | ((with_reducible refine gate_dst (N := 31) rfl ?_); (first | refine lwx (g := gb170) (cs := [.int .i64 a0_0, .slice A0_1 l0_1.length c0_1, .int .i64 a0_2, .int .i64 a0_3, .int .i64 a0_4, .int .i64 a0_5, .int .i64 a0_6, .int .i64 a0_7, .int .i64 a0_8, .int .i64 a0_9, .int .i64 a0_10, .int .i64 a0_11, .int .i64 a0_12, .slice A0_13 l0_13.length c0_13, .int .u64 a0_14, .int .i64 a0_15, .int .i64 a0_16, .int .u64 a0_17, .int .i64 a0_18, .int .i64 a0_19, .int .u64 a0_20, .int .i64 a0_21, .int .i64 a0_22, .slice A0_23 l0_23.length c0_23, .int .i64 a0_24]) (bkt BK170.out) ?_ | refine lwx (g := gb170) BK170.out ?_ | refine lwx2 (g := gb170) (blk_set (bkt BK170.out) _ _) ?_)) | ((with_reducible refine gate_store (t := 29) (p := 2) rfl ?_); (first | refine swx29 (g := gb171) (bkt BK171.out) ?_ | refine swx29 (g := gb171) BK171.out ?_)) | ((with_reducible refine gate_callee (f := 17) rfl ?_); refine gsl (some 26) Try.func17 #[.slice A178_0 (rd_L1 l0_13 x4_1).length c178_0] ?_; (with_reducible refine (kit_OwnInts.calls _ _ (rd_L1 l0_13 x4_1) t179 _ ?side1 ?side2 A15.out).mono ?_); (case side1 => repeat (first | exact (Kd.C_below HR178_0.out HB.out) | (with_reducible refine Kd.C_alloc ?_ _) | (with_reducible refine Kd.C_drewN ?_ _) | (with_reducible refine Kd.C_drew ?_))); (case side2 => exact HC178_0.out); rintro e w19 ⟨v180, rfl, ho0, hb⟩; refine ⟨_, rfl, ?_⟩; have HO181 := Aside0.mk (Kd.R_lower (Kd.R_new' (Kd.R_new' ho0 (Kd.R_lt (kdt HO_171001.out))) (Kd.R_lt (kdt HO_171023.out))) (bsz HB.out)); replace HO_3 := Aside0.mk (Kd.S_elder' (by (with_reducible repeat (first | apply Kd.S_alloc | apply Kd.S_drewN | apply Kd.S_drew)); exact HO_3.out) (Kd.R_base ho0) hb); replace HO_171001 := Aside0.mk (Kd.R_elder' (kdt HO_171001.out) (Kd.R_base ho0) hb); replace HO_171023 := Aside0.mk (Kd.R_elder' (kdt HO_171023.out) (Kd.R_base ho0) hb); replace BK170 := Aside0.mk (bkb BK170.out hb); replace BK171 := Aside0.mk (bkb BK171.out hb); replace HB := Aside0.mk (bst HB.out hb); (try clear hb); (try clear hb2); (try clear hk); (try clear hi); (try clear ho0); obtain ⟨Ao21, co21, eo21⟩ := Kd.R_slice HO181.out; subst eo21) | ((with_reducible refine gate_builtin (b := .append) (xs := #[.tmp 20, .tmp 27]) rfl ?_); at_builtin; refine Kd.S_append (Kd.slice 3 (Kd.int .i64)) (w0 := w) w.heap.size rfl (.tmp 20) (.tmp 27) 23 22 (.slice none 0 0) 24 rfl Try.underlying23 info22 rfl (by decide) (by omega) u3 x3_1 t179 [.slice Ao21 t179.length co21] (fun k_ => some k_ ≠ (.slice Ao9 t172.length co9 : Value).ownBlock ∧ some k_ ≠ (.slice Ao11 t175.length co11 : Value).ownBlock) (fun k_ => some k_ = (.slice Ao21 t179.length co21 : Value).ownBlock) rfl rfl ?aP (fun k_ hk_ => ((Kd.R_mono (ok' := fun k_ => ((fun k_ => some k_ ≠ (.slice Ao9 t172.length co9 : Value).ownBlock ∧ some k_ ≠ (.slice Ao11 t175.length co11 : Value).ownBlock)) k_ ∧ some k_ ≠ (u3 : Value).ownBlock) (Kd.R_apart' (HO181.out) (Kd.S_typed HO_3.out) (by decide)) (fun k_ hk => ⟨⟨hk.1.1.2, hk.1.2⟩, hk.2⟩))).1 k_ hk_.symm) ?aF ?aO ?aB ?aS ?aL ?_; (case aP => exact Kd.M_row (Kd.R_mono (Kd.R_tight rfl (Kd.R_mono (ok' := fun k_ => ((fun k_ => some k_ ≠ (.slice Ao9 t172.length co9 : Value).ownBlock ∧ some k_ ≠ (.slice Ao11 t175.length co11 : Value).ownBlock)) k_ ∧ some k_ ≠ (u3 : Value).ownBlock) (Kd.R_apart' (HO181.out) (Kd.S_typed HO_3.out) (by decide)) (fun k_ hk => ⟨⟨hk.1.1.2, hk.1.2⟩, hk.2⟩))) (fun _ h_ => h_))); (case aB => exact (bel HB.out)); (case aF => exact (fun k_ hk => ⟨Kd.fresh' (Kd.R_lt (kdt HO_171001.out)) k_ hk, Kd.fresh' (Kd.R_lt (kdt HO_171023.out)) k_ hk⟩)); (case aO => exact (by (with_reducible repeat (first | apply Kd.S_alloc | apply Kd.S_drewN | apply Kd.S_drew)); exact Kd.S_mono HO_3.out (fun k_ hk => ⟨⟨hk.1.1, hk.1.2⟩, fun e_ => hk.2 e_⟩))); (case aS => exact (bsz HB.out)); (case aL => have := LMc16.out; omega); intro v183 w20 ho hb hg hat; rw [← Ny182.out] at ho; have n0_ := Aside0.mk (Kd.R_over' (kdt HO_171001.out) (Kd.S_typed (by (with_reducible repeat (first | apply Kd.S_alloc | apply Kd.S_drewN | apply Kd.S_drew)); exact HO_3.out)) (by decide) hg); have n1_ := Aside0.mk (Kd.R_over' (kdt HO_171023.out) (Kd.S_typed (by (with_reducible repeat (first | apply Kd.S_alloc | apply Kd.S_drewN | apply Kd.S_drew)); exact HO_3.out)) (by decide) hg); have n2_ := Aside0.mk (blk_grown (g := gb170) (o := .cells #[.int .i64 a0_0, .slice Ao9 t172.length co9, .int .i64 a0_2, .int .i64 a0_3, .int .i64 a0_4, .int .i64 a0_5, .int .i64 a0_6, .int .i64 a0_7, .int .i64 a0_8, .int .i64 a0_9, .int .i64 a0_10, .int .i64 a0_11, .int .i64 a0_12, .slice (some ad178) l0_13.length c0_13, .int .u64 a0_14, .int .i64 a0_15, .int .i64 a0_16, .int .u64 a0_17, .int .i64 a0_18, .int .i64 a0_19, .int .u64 a0_20, .int .i64 a0_21, .int .i64 a0_22, .slice Ao11 t175.length co11, .int .i64 a0_24] 29 (0, 0)) (bkt BK170.out) hg (Kd.S_ne HO_3.out BK170.out (by decide))); have n3_ := Aside0.mk (blk_grown (g := gb171) (o := .cells #[.int .i64 0, .slice none 0 0, .int .i64 0, .int .i64 0, .int .i64 0, .int .i64 0, .int .i64 0, .int .i64 0, .int .i64 0, .int .i64 0, .int .i64 0, .int .i64 0, .int .i64 0, .slice none 0 0, .int .u64 0, .int .i64 0, .int .i64 0, .int .u64 0, .int .i64 0, .int .i64 0, .int .u64 0, .int .i64 0, .int .i64 0, .slice none 0 0, .int .i64 0] 29 (0, 0)) (bkt BK171.out) hg (Kd.S_ne HO_3.out BK171.out (by decide))); have n4_ := Aside0.mk (hb); have n5_ := Aside0.mk (ho); clear HO_171001; clear HO_171023; clear BK170; clear BK171; clear HB; clear HO_3; clear HO181; have HO_171001 := n0_; have HO_171023 := n1_; have BK170 := n2_; have BK171 := n3_; have HB := n4_; have HO184 := n5_; clear n0_ n1_ n2_ n3_ n4_ n5_; clear ho hb hg hat))
      go_roundg k1
      case measure => have := HK1.out; omega
      case rel => exact ⟨(y182), (wrap64 (x4_1 + 1)), (by first | rfl | (simp; done) | (simp [*]; done)), H', ⟨by have := HK1.out; omega⟩, ⟨by (with_reducible repeat (first | apply Kd.S_alloc | apply Kd.S_drewN | apply Kd.S_drew)); exact HO184.out⟩, ⟨by (with_reducible repeat (first | apply Kd.R_alloc | apply Kd.R_drewN | apply Kd.R_drew)); exact Kd.R_mono HO_171001.out (fun _ hk => hk.1)⟩, ⟨by (with_reducible repeat (first | apply Kd.R_alloc | apply Kd.R_drewN | apply Kd.R_drew)); exact Kd.R_mono HO_171023.out (fun _ hk => hk.1)⟩, ⟨bkt BK170.out⟩, ⟨bkt BK171.out⟩, ⟨bel HB.out⟩⟩
     ·rw [if_neg c16] at H
      exact absurd H (by simp)
    ·rw [if_neg c14] at H
     exact absurd H (by simp)
   ·as_aux_lemma =>
    rw [if_neg c13] at H
    have c13b0 : decide (x4_1 < (l0_13.length : Int)) = false := decide_eq_false c13
    clear c13
    simp only [Option.some.injEq, Prod.mk.injEq] at H
    obtain ⟨rfl, rfl, rfl, rfl, rfl, rfl, rfl, rfl, rfl, rfl, rfl, rfl, rfl, rfl, rfl, rfl, rfl, rfl, rfl, rfl, rfl, rfl, rfl, rfl, rfl⟩ := H
    have hnb22 := NB170_171.out
    have hnc22 := NB171_170.out
    have hcz23_0 := cz25 BK170.out
    have hfz23_0 := blk_frozen BK170.out
    obtain ⟨Ao24, co24, eo24⟩ := Kd.S_slice HO_3.out
    subst eo24
    have hcz25_0 := cz25 BK171.out
    have hfz25_0 := blk_frozen BK171.out
    go_wp2_with (first | ((with_reducible refine gate_dst (N := 31) rfl ?_); (first | refine lwx (g := gb170) (cs := [.int .i64 a0_0, .slice A0_1 l0_1.length c0_1, .int .i64 a0_2, .int .i64 a0_3, .int .i64 a0_4, .int .i64 a0_5, .int .i64 a0_6, .int .i64 a0_7, .int .i64 a0_8, .int .i64 a0_9, .int .i64 a0_10, .int .i64 a0_11, .int .i64 a0_12, .slice A0_13 l0_13.length c0_13, .int .u64 a0_14, .int .i64 a0_15, .int .i64 a0_16, .int .u64 a0_17, .int .i64 a0_18, .int .i64 a0_19, .int .u64 a0_20, .int .i64 a0_21, .int .i64 a0_22, .slice A0_23 l0_23.length c0_23, .int .i64 a0_24]) (bkt BK170.out) ?_ | refine lwx (g := gb170) BK170.out ?_ | refine lwx2 (g := gb170) (blk_set (bkt BK170.out) _ _) ?_)) | ((with_reducible refine gate_store (t := 29) (p := 2) rfl ?_); (first | refine swx29 (g := gb171) (bkt BK171.out) ?_ | refine swx29 (g := gb171) BK171.out ?_)))
    refine bodyPost_ret (results_cell_row rfl _ _ gb171 29 #[.int .i64 a0_0, .slice Ao9 t172.length co9, .int .i64 a0_2, .int .i64 a0_3, .int .i64 a0_4, .int .i64 a0_5, .int .i64 a0_6, .int .i64 a0_7, .int .i64 a0_8, .int .i64 a0_9, .int .i64 a0_10, .int .i64 a0_11, .int .i64 a0_12, .slice Ao24 x3_1.length co24, .int .u64 a0_14, .int .i64 a0_15, .int .i64 a0_16, .int .u64 a0_17, .int .i64 a0_18, .int .i64 a0_19, .int .u64 a0_20, .int .i64 a0_21, .int .i64 a0_22, .slice Ao11 t175.length co11, .int .i64 a0_24] (0, 0) _ rfl (bkt BK171.out) Try.underlying29 rfl (by kernel_rfl)) rfl ?_
    exact ⟨_, _, _, by first | rfl | (simp [errW_none, errW_some] <;> rfl) | (simp [*, errW_none, errW_some] <;> rfl), by (with_reducible repeat (first | apply Kd.R_alloc | apply Kd.R_drewN | apply Kd.R_drew)); exact Kd.R_mono (Kd.R_far (p := ⟨gb171, 24, none⟩) (Kd.R_far (p := ⟨gb171, 23, none⟩) (Kd.R_far (p := ⟨gb171, 22, none⟩) (Kd.R_far (p := ⟨gb171, 21, none⟩) (Kd.R_far (p := ⟨gb171, 20, none⟩) (Kd.R_far (p := ⟨gb171, 19, none⟩) (Kd.R_far (p := ⟨gb171, 18, none⟩) (Kd.R_far (p := ⟨gb171, 17, none⟩) (Kd.R_far (p := ⟨gb171, 16, none⟩) (Kd.R_far (p := ⟨gb171, 15, none⟩) (Kd.R_far (p := ⟨gb171, 14, none⟩) (Kd.R_far (p := ⟨gb171, 13, none⟩) (Kd.R_far (p := ⟨gb171, 12, none⟩) (Kd.R_far (p := ⟨gb171, 11, none⟩) (Kd.R_far (p := ⟨gb171, 10, none⟩) (Kd.R_far (p := ⟨gb171, 9, none⟩) (Kd.R_far (p := ⟨gb171, 8, none⟩) (Kd.R_far (p := ⟨gb171, 7, none⟩) (Kd.R_far (p := ⟨gb171, 6, none⟩) (Kd.R_far (p := ⟨gb171, 5, none⟩) (Kd.R_far (p := ⟨gb171, 4, none⟩) (Kd.R_far (p := ⟨gb171, 3, none⟩) (Kd.R_far (p := ⟨gb171, 2, none⟩) (Kd.R_far (p := ⟨gb171, 1, none⟩) (Kd.R_far (p := ⟨gb171, 0, none⟩) (Kd.R_far (p := ⟨gb170, 13, none⟩) (Kd.R_types (Kd.R_types HO_171001.out BK170.out (by decide)) BK171.out (by decide)) (fun _ hk => hk.1.2) (.slice Ao24 x3_1.length co24)) (fun _ hk => hk.2) (.int .i64 a0_0)) (fun _ hk => hk.2) (.slice Ao9 t172.length co9)) (fun _ hk => hk.2) (.int .i64 a0_2)) (fun _ hk => hk.2) (.int .i64 a0_3)) (fun _ hk => hk.2) (.int .i64 a0_4)) (fun _ hk => hk.2) (.int .i64 a0_5)) (fun _ hk => hk.2) (.int .i64 a0_6)) (fun _ hk => hk.2) (.int .i64 a0_7)) (fun _ hk => hk.2) (.int .i64 a0_8)) (fun _ hk => hk.2) (.int .i64 a0_9)) (fun _ hk => hk.2) (.int .i64 a0_10)) (fun _ hk => hk.2) (.int .i64 a0_11)) (fun _ hk => hk.2) (.int .i64 a0_12)) (fun _ hk => hk.2) (.slice Ao24 x3_1.length co24)) (fun _ hk => hk.2) (.int .u64 a0_14)) (fun _ hk => hk.2) (.int .i64 a0_15)) (fun _ hk => hk.2) (.int .i64 a0_16)) (fun _ hk => hk.2) (.int .u64 a0_17)) (fun _ hk => hk.2) (.int .i64 a0_18)) (fun _ hk => hk.2) (.int .i64 a0_19)) (fun _ hk => hk.2) (.int .u64 a0_20)) (fun _ hk => hk.2) (.int .i64 a0_21)) (fun _ hk => hk.2) (.int .i64 a0_22)) (fun _ hk => hk.2) (.slice Ao11 t175.length co11)) (fun _ hk => hk.2) (.int .i64 a0_24)) (fun _ hk => hk.1.1), by (with_reducible repeat (first | apply Kd.S_alloc | apply Kd.S_drewN | apply Kd.S_drew)); exact Kd.S_mono (Kd.S_far (p := ⟨gb171, 24, none⟩) (Kd.S_far (p := ⟨gb171, 23, none⟩) (Kd.S_far (p := ⟨gb171, 22, none⟩) (Kd.S_far (p := ⟨gb171, 21, none⟩) (Kd.S_far (p := ⟨gb171, 20, none⟩) (Kd.S_far (p := ⟨gb171, 19, none⟩) (Kd.S_far (p := ⟨gb171, 18, none⟩) (Kd.S_far (p := ⟨gb171, 17, none⟩) (Kd.S_far (p := ⟨gb171, 16, none⟩) (Kd.S_far (p := ⟨gb171, 15, none⟩) (Kd.S_far (p := ⟨gb171, 14, none⟩) (Kd.S_far (p := ⟨gb171, 13, none⟩) (Kd.S_far (p := ⟨gb171, 12, none⟩) (Kd.S_far (p := ⟨gb171, 11, none⟩) (Kd.S_far (p := ⟨gb171, 10, none⟩) (Kd.S_far (p := ⟨gb171, 9, none⟩) (Kd.S_far (p := ⟨gb171, 8, none⟩) (Kd.S_far (p := ⟨gb171, 7, none⟩) (Kd.S_far (p := ⟨gb171, 6, none⟩) (Kd.S_far (p := ⟨gb171, 5, none⟩) (Kd.S_far (p := ⟨gb171, 4, none⟩) (Kd.S_far (p := ⟨gb171, 3, none⟩) (Kd.S_far (p := ⟨gb171, 2, none⟩) (Kd.S_far (p := ⟨gb171, 1, none⟩) (Kd.S_far (p := ⟨gb171, 0, none⟩) (Kd.S_far (p := ⟨gb170, 13, none⟩) (Kd.S_types (Kd.S_types HO_3.out BK170.out (by decide)) BK171.out (by decide)) (fun _ hk => hk.1.2) (.slice Ao24 x3_1.length co24)) (fun _ hk => hk.2) (.int .i64 a0_0)) (fun _ hk => hk.2) (.slice Ao9 t172.length co9)) (fun _ hk => hk.2) (.int .i64 a0_2)) (fun _ hk => hk.2) (.int .i64 a0_3)) (fun _ hk => hk.2) (.int .i64 a0_4)) (fun _ hk => hk.2) (.int .i64 a0_5)) (fun _ hk => hk.2) (.int .i64 a0_6)) (fun _ hk => hk.2) (.int .i64 a0_7)) (fun _ hk => hk.2) (.int .i64 a0_8)) (fun _ hk => hk.2) (.int .i64 a0_9)) (fun _ hk => hk.2) (.int .i64 a0_10)) (fun _ hk => hk.2) (.int .i64 a0_11)) (fun _ hk => hk.2) (.int .i64 a0_12)) (fun _ hk => hk.2) (.slice Ao24 x3_1.length co24)) (fun _ hk => hk.2) (.int .u64 a0_14)) (fun _ hk => hk.2) (.int .i64 a0_15)) (fun _ hk => hk.2) (.int .i64 a0_16)) (fun _ hk => hk.2) (.int .u64 a0_17)) (fun _ hk => hk.2) (.int .i64 a0_18)) (fun _ hk => hk.2) (.int .i64 a0_19)) (fun _ hk => hk.2) (.int .u64 a0_20)) (fun _ hk => hk.2) (.int .i64 a0_21)) (fun _ hk => hk.2) (.int .i64 a0_22)) (fun _ hk => hk.2) (.slice Ao11 t175.length co11)) (fun _ hk => hk.2) (.int .i64 a0_24)) (fun _ hk => ⟨hk.1.1.1, hk.1.1.2⟩), by (with_reducible repeat (first | apply Kd.R_alloc | apply Kd.R_drewN | apply Kd.R_drew)); exact Kd.R_mono (Kd.R_far (p := ⟨gb171, 24, none⟩) (Kd.R_far (p := ⟨gb171, 23, none⟩) (Kd.R_far (p := ⟨gb171, 22, none⟩) (Kd.R_far (p := ⟨gb171, 21, none⟩) (Kd.R_far (p := ⟨gb171, 20, none⟩) (Kd.R_far (p := ⟨gb171, 19, none⟩) (Kd.R_far (p := ⟨gb171, 18, none⟩) (Kd.R_far (p := ⟨gb171, 17, none⟩) (Kd.R_far (p := ⟨gb171, 16, none⟩) (Kd.R_far (p := ⟨gb171, 15, none⟩) (Kd.R_far (p := ⟨gb171, 14, none⟩) (Kd.R_far (p := ⟨gb171, 13, none⟩) (Kd.R_far (p := ⟨gb171, 12, none⟩) (Kd.R_far (p := ⟨gb171, 11, none⟩) (Kd.R_far (p := ⟨gb171, 10, none⟩) (Kd.R_far (p := ⟨gb171, 9, none⟩) (Kd.R_far (p := ⟨gb171, 8, none⟩) (Kd.R_far (p := ⟨gb171, 7, none⟩) (Kd.R_far (p := ⟨gb171, 6, none⟩) (Kd.R_far (p := ⟨gb171, 5, none⟩) (Kd.R_far (p := ⟨gb171, 4, none⟩) (Kd.R_far (p := ⟨gb171, 3, none⟩) (Kd.R_far (p := ⟨gb171, 2, none⟩) (Kd.R_far (p := ⟨gb171, 1, none⟩) (Kd.R_far (p := ⟨gb171, 0, none⟩) (Kd.R_far (p := ⟨gb170, 13, none⟩) (Kd.R_types (Kd.R_types HO_171023.out BK170.out (by decide)) BK171.out (by decide)) (fun _ hk => hk.1.2) (.slice Ao24 x3_1.length co24)) (fun _ hk => hk.2) (.int .i64 a0_0)) (fun _ hk => hk.2) (.slice Ao9 t172.length co9)) (fun _ hk => hk.2) (.int .i64 a0_2)) (fun _ hk => hk.2) (.int .i64 a0_3)) (fun _ hk => hk.2) (.int .i64 a0_4)) (fun _ hk => hk.2) (.int .i64 a0_5)) (fun _ hk => hk.2) (.int .i64 a0_6)) (fun _ hk => hk.2) (.int .i64 a0_7)) (fun _ hk => hk.2) (.int .i64 a0_8)) (fun _ hk => hk.2) (.int .i64 a0_9)) (fun _ hk => hk.2) (.int .i64 a0_10)) (fun _ hk => hk.2) (.int .i64 a0_11)) (fun _ hk => hk.2) (.int .i64 a0_12)) (fun _ hk => hk.2) (.slice Ao24 x3_1.length co24)) (fun _ hk => hk.2) (.int .u64 a0_14)) (fun _ hk => hk.2) (.int .i64 a0_15)) (fun _ hk => hk.2) (.int .i64 a0_16)) (fun _ hk => hk.2) (.int .u64 a0_17)) (fun _ hk => hk.2) (.int .i64 a0_18)) (fun _ hk => hk.2) (.int .i64 a0_19)) (fun _ hk => hk.2) (.int .u64 a0_20)) (fun _ hk => hk.2) (.int .i64 a0_21)) (fun _ hk => hk.2) (.int .i64 a0_22)) (fun _ hk => hk.2) (.slice Ao11 t175.length co11)) (fun _ hk => hk.2) (.int .i64 a0_24)) (fun _ hk => hk.1.1), bel HB.out⟩

/-! ### kit_SameInts: function 26 -/
def kit_SameInts.l0 : Nat → List Int → List Int → Int → Option (Bool)
 | 0, _, _, _ => none
 | k + 1, x0, x1, x5 => if x5 < (x0.length : Int) then (if 0 ≤ x5 then (if x5 < (x1.length : Int) then (if (rd x0 x5) = (rd x1 x5) then (kit_SameInts.l0 k x0 x1 (wrap64 (x5 + 1))) else (some false)) else (none)) else (none)) else (some true)
def kit_SameInts.f (k : Nat) (l0 : List Int) (l1 : List Int) : Option (Bool) := if (l0.length : Int) = (l1.length : Int) then (kit_SameInts.l0 k l0 l1 0) else (some false)
theorem kit_SameInts.mono_l : ∀ k, (∀ y0 y1 y2, LeO (kit_SameInts.l0 k y0 y1 y2) (kit_SameInts.l0 (k + 1) y0 y1 y2))
 | 0 => fun _ _ _ r h => by simp [kit_SameInts.l0] at h
 | k + 1 => by
  have ih0 := kit_SameInts.mono_l k
  ·as_aux_lemma =>
   intro y0 y1 y2
   unfold kit_SameInts.l0
   repeat' first
   | (with_reducible exact ih0 _ _ _)
   | (with_reducible exact LeO.refl _)
   | (with_reducible exact LeO.none _)
   | (with_reducible refine LeO.ite ?_ ?_)
   | (with_reducible refine LeO.bind ?_ (fun _ => ?_))
   | exact ih0 _ _ _
   | exact LeO.none _
   | refine LeO.ite ?_ ?_
   | refine LeO.bind ?_ (fun _ => ?_)
theorem kit_SameInts.mono : ∀ a0 a1 k, LeO (kit_SameInts.f k a0 a1) (kit_SameInts.f (k + 1) a0 a1) := by
 intro a0 a1 k
 have ih0 := kit_SameInts.mono_l k
 unfold kit_SameInts.f
 repeat' first
   | (with_reducible exact ih0 _ _ _)
   | (with_reducible exact LeO.refl _)
   | (with_reducible exact LeO.none _)
   | (with_reducible refine LeO.ite ?_ ?_)
   | (with_reducible refine LeO.bind ?_ (fun _ => ?_))
   | exact ih0 _ _ _
   | exact LeO.none _
   | refine LeO.ite ?_ ?_
   | refine LeO.bind ?_ (fun _ => ?_)
set_option maxHeartbeats 8000000 in
set_option maxRecDepth 100000 in
theorem kit_SameInts.calls (k : Nat) (A0 : Option Addr) (c0 : Nat) (l0 : List Int) (A1 : Option Addr) (c1 : Nat) (l1 : List Int) (r : Bool) (w : World) (hr0 : Kd.C (Kd.int .i64) w A0 l0.length l0) (hc0 : l0.length ≤ c0) (hr1 : Kd.C (Kd.int .i64) w A1 l1.length l1) (hc1 : l1.length ≤ c1) (h : kit_SameInts.f k l0 l1 = some r) :
  Calls Try.prog 26 #[.slice A0 l0.length c0, .slice A1 l1.length c1] w fun e w' => e = .returned (.bool r) ∧ Drawn0 w w' := by
 have HR0 := Aside0.mk hr0
 have HC0 := Aside0.mk hc0
 clear hr0 hc0
 have HR1 := Aside0.mk hr1
 have HC1 := Aside0.mk hc1
 clear hr1 hc1
 have H : (if (l0.length : Int) = (l1.length : Int) then (kit_SameInts.l0 k l0 l1 0) else (some false)) = some r := h
 clear h
 by_cases c3 : (l0.length : Int) = (l1.length : Int)
 ·as_aux_lemma =>
  rw [if_pos c3] at H
  have c3b0 : ((l0.length : Int) == (l1.length : Int)) = true := beq_iff_eq.mpr c3
  have c3b1 : ((l0.length : Int) != (l1.length : Int)) = false := bne_eq_false_iff_eq.mpr c3
  have c3b2 : (l0.length == l1.length) = true := by first | simpa using c3 | (simp at c3 ⊢; omega)
  clear c3
  have H' := Aside0.mk H
  clear H
  go_enter Try.func26, Try.ntmps26
  go_wp2
  repeat (go_quiet (fail); try go_wp2)
  go_loopg [5] k (fun kq v5 w' => ∃ (x5_1 : Int), v5 = .int .i64 x5_1 ∧ Aside0 (kit_SameInts.l0 kq l0 l1 x5_1 = some r) ∧ Aside0 (kq ≤ k) ∧ Drawn0 w w')
  case atStart => exact ⟨(0), (by first | rfl | (simp; done) | (simp [*]; done)), H', ⟨Nat.le_refl _⟩, by repeat (first | exact Drawn0.refl _ | apply Drawn0.step)⟩
  case round =>
   clear H'
   try clear c1
   try clear c2
   try clear p2
   try clear c3
   try clear c3b0
   try clear c3b1
   try clear c3b2
   obtain ⟨x5_1, rfl, HA, HK1, ⟨m1, rfl⟩⟩ := hrel
   cases gk with
   | zero => exact absurd HA.out (by simp [kit_SameInts.l0])
   | succ k1 =>
    have H := HA.out
    clear HA
    simp only [kit_SameInts.l0] at H
    by_cases c4 : x5_1 < (l0.length : Int)
    ·as_aux_lemma =>
     rw [if_pos c4] at H
     have c4b0 : decide (x5_1 < (l0.length : Int)) = true := decide_eq_true c4
     clear c4
     by_cases c5 : 0 ≤ x5_1
     ·as_aux_lemma =>
      rw [if_pos c5] at H
      have c5b0 : decide (0 ≤ x5_1) = true := decide_eq_true c5
      clear c5
      by_cases c6 : x5_1 < (l1.length : Int)
      ·as_aux_lemma =>
       rw [if_pos c6] at H
       have c6b0 : decide (x5_1 < (l1.length : Int)) = true := decide_eq_true c6
       clear c6
       by_cases c7 : (rd l0 x5_1) = (rd l1 x5_1)
       ·as_aux_lemma =>
        rw [if_pos c7] at H
        have c7b0 : ((rd l0 x5_1) == (rd l1 x5_1)) = true := beq_iff_eq.mpr c7
        have c7b1 : ((rd l0 x5_1) != (rd l1 x5_1)) = false := bne_eq_false_iff_eq.mpr c7
        clear c7
        have H' := Aside0.mk H
        clear H
        have p267 : 0 ≤ (x5_1 : Int) := of_decide_eq_true (by first | (with_reducible assumption) | assumption)
        have q267 : x5_1 < (l0.length : Int) := of_decide_eq_true (by first | (with_reducible assumption) | assumption)
        obtain ⟨ad267, e267, hx267_0⟩ := Kd.at_int HR0.out x5_1 p267 q267
        cases e267
        replace p267 := eq_true p267
        replace q267 := eq_true q267
        have p268 : 0 ≤ (x5_1 : Int) := of_decide_eq_true (by first | (with_reducible assumption) | assumption)
        have q268 : x5_1 < (l1.length : Int) := of_decide_eq_true (by first | (with_reducible assumption) | assumption)
        obtain ⟨ad268, e268, hx268_0⟩ := Kd.at_int HR1.out x5_1 p268 q268
        cases e268
        replace p268 := eq_true p268
        replace q268 := eq_true q268
        go_wp2
        repeat (go_quiet (fail); try go_wp2)
        go_roundg k1
        case measure => have := HK1.out; omega
        case rel => exact ⟨(wrap64 (x5_1 + 1)), (by first | rfl | (simp; done) | (simp [*]; done)), H', ⟨by have := HK1.out; omega⟩, by repeat (first | exact Drawn0.refl _ | apply Drawn0.step)⟩
       ·as_aux_lemma =>
        rw [if_neg c7] at H
        have c7b0 : ((rd l0 x5_1) == (rd l1 x5_1)) = false := beq_eq_false_iff_ne.mpr c7
        have c7b1 : ((rd l0 x5_1) != (rd l1 x5_1)) = true := bne_iff_ne.mpr c7
        obtain rfl := Option.some.inj H
        have p267 : 0 ≤ (x5_1 : Int) := of_decide_eq_true (by first | (with_reducible assumption) | assumption)
        have q267 : x5_1 < (l0.length : Int) := of_decide_eq_true (by first | (with_reducible assumption) | assumption)
        obtain ⟨ad267, e267, hx267_0⟩ := Kd.at_int HR0.out x5_1 p267 q267
        cases e267
        replace p267 := eq_true p267
        replace q267 := eq_true q267
        have p268 : 0 ≤ (x5_1 : Int) := of_decide_eq_true (by first | (with_reducible assumption) | assumption)
        have q268 : x5_1 < (l1.length : Int) := of_decide_eq_true (by first | (with_reducible assumption) | assumption)
        obtain ⟨ad268, e268, hx268_0⟩ := Kd.at_int HR1.out x5_1 p268 q268
        cases e268
        replace p268 := eq_true p268
        replace q268 := eq_true q268
        go_wp2
        repeat (go_quiet (fail); try go_wp2)
        go_ret
        exact ⟨by first | rfl | (simp; done) | (simp [*]; done), by repeat (first | exact Drawn0.refl _ | apply Drawn0.step)⟩
      ·rw [if_neg c6] at H
       exact absurd H (by simp)
     ·rw [if_neg c5] at H
      exact absurd H (by simp)
    ·as_aux_lemma =>
     rw [if_neg c4] at H
     have c4b0 : decide (x5_1 < (l0.length : Int)) = false := decide_eq_false c4
     clear c4
     obtain rfl := Option.some.inj H
     go_wp2
     repeat (go_quiet (fail); try go_wp2)
     go_ret
     exact ⟨by first | rfl | (simp; done) | (simp [*]; done), by repeat (first | exact Drawn0.refl _ | apply Drawn0.step)⟩
 ·as_aux_lemma =>
  rw [if_neg c3] at H
  have c3b0 : ((l0.length : Int) == (l1.length : Int)) = false := beq_eq_false_iff_ne.mpr c3
  have c3b1 : ((l0.length : Int) != (l1.length : Int)) = true := bne_iff_ne.mpr c3
  have c3b2 : (l0.length == l1.length) = false := by first | simpa using c3 | (simp at c3 ⊢; omega)
  obtain rfl := Option.some.inj H
  go_enter Try.func26, Try.ntmps26
  go_wp2
  repeat (go_quiet (fail); try go_wp2)
  go_ret
  exact ⟨by first | rfl | (simp; done) | (simp [*]; done), by repeat (first | exact Drawn0.refl _ | apply Drawn0.step)⟩

/-! ### kit_Mod: function 14 -/
def kit_Mod.f (a0 : Int) (a1 : Int) : Option (Int) := if a1 < 1 then (some 0) else (if a1 = 0 then (none) else (if (Int.tmod a0 a1) < 0 then (some (wrap64 ((Int.tmod a0 a1) + a1))) else (some (Int.tmod a0 a1))))
set_option maxHeartbeats 8000000 in
set_option maxRecDepth 100000 in
theorem kit_Mod.calls (a0 : Int) (a1 : Int) (r : Int) (w : World) (h : kit_Mod.f a0 a1 = some r) :
  Calls Try.prog 14 #[.int .i64 a0, .int .i64 a1] w fun e w' => e = .returned (.int .i64 r) ∧ Drawn0 w w' := by
 have H : (if a1 < 1 then (some 0) else (if a1 = 0 then (none) else (if (Int.tmod a0 a1) < 0 then (some (wrap64 ((Int.tmod a0 a1) + a1))) else (some (Int.tmod a0 a1))))) = some r := h
 clear h
 by_cases c3 : a1 < 1
 ·as_aux_lemma =>
  rw [if_pos c3] at H
  have c3b0 : decide (a1 < 1) = true := decide_eq_true c3
  clear c3
  obtain rfl := Option.some.inj H
  go_enter Try.func14, Try.ntmps14
  go_wp2
  go_ret
  exact ⟨by first | rfl | (simp; done) | (simp [*]; done), by repeat (first | exact Drawn0.refl _ | apply Drawn0.step)⟩
 ·as_aux_lemma =>
  rw [if_neg c3] at H
  have c3b0 : decide (a1 < 1) = false := decide_eq_false c3
  clear c3
  by_cases c4 : a1 = 0
  ·rw [if_pos c4] at H
   exact absurd H (by simp)
  ·as_aux_lemma =>
   rw [if_neg c4] at H
   have c4b0 : (a1 == 0) = false := beq_eq_false_iff_ne.mpr c4
   have c4b1 : (a1 != 0) = true := bne_iff_ne.mpr c4
   by_cases c5 : (Int.tmod a0 a1) < 0
   ·as_aux_lemma =>
    rw [if_pos c5] at H
    have c5b0 : decide ((Int.tmod a0 a1) < 0) = true := decide_eq_true c5
    clear c5
    obtain rfl := Option.some.inj H
    go_enter Try.func14, Try.ntmps14
    go_wp2
    go_ret
    exact ⟨by first | rfl | (simp; done) | (simp [*]; done), by repeat (first | exact Drawn0.refl _ | apply Drawn0.step)⟩
   ·as_aux_lemma =>
    rw [if_neg c5] at H
    have c5b0 : decide ((Int.tmod a0 a1) < 0) = false := decide_eq_false c5
    clear c5
    obtain rfl := Option.some.inj H
    go_enter Try.func14, Try.ntmps14
    go_wp2
    go_ret
    exact ⟨by first | rfl | (simp; done) | (simp [*]; done), by repeat (first | exact Drawn0.refl _ | apply Drawn0.step)⟩

end Go.Proofs.Ytmdcjmackhjchaa.P
end
