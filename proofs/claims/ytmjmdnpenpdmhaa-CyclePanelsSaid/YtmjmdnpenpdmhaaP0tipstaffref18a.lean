-- Printed by wip/myprint.py of this repo (over the kit's printer). Not trusted: Lean checks it.
import Derived.Test.YtmjmdnpenpdmhaaP0
import Derived.Test.YtmjmdnpenpdmhaaP0tipstaffref18
namespace Go.Proofs.Ytmjmdnpenpdmhaa.P
open Go.RowKit Go.Proofs.YtmjmdnpenpdmhaaW.PrintWords Go.Proofs.YtmjmdnpenpdmhaaW.PrintLast Go.Proofs.YtmjmdnpenpdmhaaW.PrintMore
attribute [local go_sem] cell_same1 cell_some1
attribute [local go_sem] max2_int min2_int max_two min_two max_three min_three max_four min_four   -- for this text's walks alone
set_option linter.unusedVariables false
set_option linter.unusedSimpArgs false

/-! ### r18_Open: function 41 -/
def r18_Open.j0 : Nat → Int → Bool → Option (Int × Int × Int × Int × Int)
 | 0, _, _ => none
 | k + 1, x6, x16 => if x16 = true then (some (0, 0, 0, 0, 9)) else (if x6 = 0 then (some (1, 0, 0, 0, 0)) else (some (0, 0, 0, 0, x6)))
def r18_Open.f (k : Nat) (a0_0 : Int) (a0_1 : Int) (a0_2 : Int) (a0_3 : Int) (a1_0 : Int) (a1_1 : Int) (a1_2 : Int) : Option (Int × Int × Int × Int × Int) := (r18_Check.f k a0_0 a0_1 a0_2 a0_3 a1_0 a1_1 a1_2).bind fun t253 => (if t253 = 0 then (r18_Open.j0 k t253 (a0_0 != 0)) else (r18_Open.j0 k t253 false))
theorem r18_Open.mono_l : ∀ k, (∀ y0 y1, LeO (r18_Open.j0 k y0 y1) (r18_Open.j0 (k + 1) y0 y1))
 | 0 => fun _ _ r h => by simp [r18_Open.j0] at h
 | k + 1 => by
  have ih0 := r18_Open.mono_l k
  ·intro y0 y1
   unfold r18_Open.j0
   repeat' first
   | (with_reducible exact ih0 _ _)
   | (with_reducible exact r18_Check.mono _ _ _ _ _ _ _ _)
   | (with_reducible exact LeO.refl _)
   | (with_reducible exact LeO.none _)
   | (with_reducible refine LeO.ite ?_ ?_)
   | (with_reducible refine LeO.bind ?_ (fun _ => ?_))
   | exact ih0 _ _
   | exact r18_Check.mono _ _ _ _ _ _ _ _
   | exact LeO.none _
   | refine LeO.ite ?_ ?_
   | refine LeO.bind ?_ (fun _ => ?_)
theorem r18_Open.mono : ∀ a0 a1 a2 a3 a4 a5 a6 k, LeO (r18_Open.f k a0 a1 a2 a3 a4 a5 a6) (r18_Open.f (k + 1) a0 a1 a2 a3 a4 a5 a6) := by
 intro a0 a1 a2 a3 a4 a5 a6 k
 have ih0 := r18_Open.mono_l k
 unfold r18_Open.f
 repeat' first
   | (with_reducible exact ih0 _ _)
   | (with_reducible exact r18_Check.mono _ _ _ _ _ _ _ _)
   | (with_reducible exact LeO.refl _)
   | (with_reducible exact LeO.none _)
   | (with_reducible refine LeO.ite ?_ ?_)
   | (with_reducible refine LeO.bind ?_ (fun _ => ?_))
   | exact ih0 _ _
   | exact r18_Check.mono _ _ _ _ _ _ _ _
   | exact LeO.none _
   | refine LeO.ite ?_ ?_
   | refine LeO.bind ?_ (fun _ => ?_)
set_option maxHeartbeats 8000000 in
set_option maxRecDepth 100000 in
theorem r18_Open.calls (k : Nat) (a0_0 : Int) (a0_1 : Int) (a0_2 : Int) (a0_3 : Int) (a1_0 : Int) (a1_1 : Int) (a1_2 : Int) (r1 : Int) (r2 : Int) (r3 : Int) (r4 : Int) (r5 : Int) (w : World) (h : r18_Open.f k a0_0 a0_1 a0_2 a0_3 a1_0 a1_1 a1_2 = some (r1, r2, r3, r4, r5)) :
  Calls Try.prog 41 #[.agg #[.int .i64 a0_0, .int .i64 a0_1, .int .i64 a0_2, .int .i64 a0_3], .agg #[.int .i64 a1_0, .int .i64 a1_1, .int .i64 a1_2]] w fun e w' => e = .returned (.tuple #[.agg #[.int .i64 r1, .int .i64 r2, .int .i64 r3, .int .i64 r4], .int .i64 r5]) ∧ Below w.heap.size w w' := by
 have hu37 := Try.underlying37
 have hu23 := Try.underlying23
 have HB := Aside0.mk (Below.refl w.heap.size w)
 have H : ((r18_Check.f k a0_0 a0_1 a0_2 a0_3 a1_0 a1_1 a1_2).bind fun t253 => (if t253 = 0 then (r18_Open.j0 k t253 (a0_0 != 0)) else (r18_Open.j0 k t253 false))) = some (r1, r2, r3, r4, r5) := h
 clear h
 replace H := Option.bind_eq_some_iff.mp H
 obtain ⟨t253, A30, H⟩ := H
 replace H : (if t253 = 0 then (r18_Open.j0 k t253 (a0_0 != 0)) else (r18_Open.j0 k t253 false)) = some (r1, r2, r3, r4, r5) := H
 have A3 := Aside0.mk A30
 clear A30
 have HC4 := Aside0.mk H
 clear H
 go_enter Try.func41, Try.ntmps41
 go_upto_region 2 with (first | ((with_reducible refine gate_dst (N := 2) rfl ?_); refine bxe (cs := #[.int .i64 a0_0, .int .i64 a0_1, .int .i64 a0_2, .int .i64 a0_3]) (t := 37) ?_; intro gb250 hg w5 hbox hb; have BK250 := Aside0.mk (hbox); have GW250 := Aside0.mk (bge hg HB.out); have GE250 := Aside0.mk (bge hg HB.out); replace HB := Aside0.mk (bst HB.out hb); clear hb hbox hg) | ((with_reducible refine gate_dst (N := 3) rfl ?_); refine bxe (cs := #[.int .i64 a1_0, .int .i64 a1_1, .int .i64 a1_2]) (t := 23) ?_; intro gb251 hg w6 hbox hb; have BK251 := Aside0.mk (hbox); have GW251 := Aside0.mk (bge hg HB.out); have GE251 := Aside0.mk (bge hg HB.out); have NB250_251 := Aside0.mk ((bkl hg BK250.out)); have NB251_250 := Aside0.mk ((bkg hg BK250.out)); replace BK250 := Aside0.mk (bkb BK250.out hb); replace HB := Aside0.mk (bst HB.out hb); clear hb hbox hg) | ((with_reducible refine gate_dst (N := 4) rfl ?_); refine bxe (cs := #[.int .i64 0, .int .i64 0, .int .i64 0, .int .i64 0]) (t := 37) ?_; intro gb252 hg w7 hbox hb; have BK252 := Aside0.mk (hbox); have GW252 := Aside0.mk (bge hg HB.out); have GE252 := Aside0.mk (bge hg HB.out); have NB250_252 := Aside0.mk ((bkl hg BK250.out)); have NB252_250 := Aside0.mk ((bkg hg BK250.out)); have NB251_252 := Aside0.mk ((bkl hg BK251.out)); have NB252_251 := Aside0.mk ((bkg hg BK251.out)); replace BK250 := Aside0.mk (bkb BK250.out hb); replace BK251 := Aside0.mk (bkb BK251.out hb); replace HB := Aside0.mk (bst HB.out hb); clear hb hbox hg; have hnb8 := NB250_251.out; have hnc8 := NB251_250.out; have hnb9 := NB250_252.out; have hnc9 := NB252_250.out; have hcz10_0 := cz4 BK250.out; have hfz10_0 := blk_frozen BK250.out; have hnb11 := NB251_252.out; have hnc11 := NB252_251.out; have hcz12_0 := cz3 BK251.out; have hfz12_0 := blk_frozen BK251.out) | ((with_reducible refine gate_callee (f := 43) rfl ?_); refine gsl (some 9) Try.func43 #[.agg #[.int .i64 a0_0, .int .i64 a0_1, .int .i64 a0_2, .int .i64 a0_3], .agg #[.int .i64 a1_0, .int .i64 a1_1, .int .i64 a1_2]] ?_; (with_reducible refine (r18_Check.calls k a0_0 a0_1 a0_2 a0_3 a1_0 a1_1 a1_2 t253 _ A3.out).mono ?_); rintro e w13 ⟨rfl, hb⟩; refine ⟨_, rfl, ?_⟩; replace BK250 := Aside0.mk (bkb BK250.out hb); replace BK251 := Aside0.mk (bkb BK251.out hb); replace BK252 := Aside0.mk (bkb BK252.out hb); replace HB := Aside0.mk (bst HB.out hb); (try clear hb); (try clear hb2); (try clear hk); (try clear hi)))
 (try simp only [Act.put, List.setIfInBounds_toArray, List.set_cons_zero, List.set_cons_succ])
 go_cut [16] (fun v16 wc => ∃ (kq : Nat) (x16_3 : Bool), v16 = .bool x16_3 ∧ Aside0 (r18_Open.j0 kq t253 x16_3 = some (r1, r2, r3, r4, r5)) ∧ Aside0 (kq ≤ k) ∧ Aside0 (wc.heap[gb250]? = some (.cells #[.int .i64 a0_0, .int .i64 a0_1, .int .i64 a0_2, .int .i64 a0_3] 37 (0, 0))) ∧ Aside0 (wc.heap[gb251]? = some (.cells #[.int .i64 a1_0, .int .i64 a1_1, .int .i64 a1_2] 23 (0, 0))) ∧ Aside0 (wc.heap[gb252]? = some (.cells #[.int .i64 0, .int .i64 0, .int .i64 0, .int .i64 0] 37 (0, 0))) ∧ Aside0 (Below w.heap.size w wc))
 case first =>
  have H := HC4.out
  clear HC4
  by_cases c14 : t253 = 0
  ·rw [if_pos c14] at H
   have c14b0 : (t253 == 0) = true := beq_iff_eq.mpr c14
   have c14b1 : (t253 != 0) = false := bne_eq_false_iff_eq.mpr c14
   clear c14
   (first | rw [c14b0] | (simp only [i64_w, i32_w]; rw [c14b0]) | skip)
   have H' := Aside0.mk H
   clear H
   have hnb15 := NB250_251.out
   have hnc15 := NB251_250.out
   have hnb16 := NB250_252.out
   have hnc16 := NB252_250.out
   have hcz17_0 := cz4 BK250.out
   have hfz17_0 := blk_frozen BK250.out
   go_wp2
   go_meet
   case rel => exact ⟨_, ((a0_0 != 0)), (by first | rfl | (simp; done) | (simp [*]; done)), H', ⟨by first | omega | exact Nat.le_refl _⟩, ⟨bkt BK250.out⟩, ⟨bkt BK251.out⟩, ⟨bkt BK252.out⟩, ⟨bel HB.out⟩⟩
  ·rw [if_neg c14] at H
   have c14b0 : (t253 == 0) = false := beq_eq_false_iff_ne.mpr c14
   have c14b1 : (t253 != 0) = true := bne_iff_ne.mpr c14
   (first | rw [c14b0] | (simp only [i64_w, i32_w]; rw [c14b0]) | skip)
   have H' := Aside0.mk H
   clear H
   go_wp2
   go_meet
   case rel => exact ⟨_, (false), (by first | rfl | (simp; done) | (simp [*]; done)), H', ⟨by first | omega | exact Nat.le_refl _⟩, ⟨bkt BK250.out⟩, ⟨bkt BK251.out⟩, ⟨bkt BK252.out⟩, ⟨bel HB.out⟩⟩
 case rest =>
  clear HC4
  try clear c1
  try clear p2
  try clear c4
  try clear c8
  try clear c9
  try clear c11
  try clear c14
  try clear c14b0
  try clear c14b1
  try clear c15
  try clear c16
  try clear hcz10_0
  try clear hcz12_0
  try clear hcz17_0
  try clear hfz10_0
  try clear hfz12_0
  try clear hfz17_0
  obtain ⟨kq, x16_3, rfl, HA, HJ3, BK250, BK251, BK252, HB⟩ := hcut
  cases kq with
  | zero => exact absurd HA.out (by simp [r18_Open.j0])
  | succ kj3 =>
   have H := HA.out
   clear HA
   simp only [r18_Open.j0] at H
   by_cases c18 : x16_3 = true
   ·subst c18
    have H1 : (some (0, 0, 0, 0, 9)) = some (r1, r2, r3, r4, r5) := by rw [if_pos rfl] at H; exact H
    clear H
    have H := H1
    clear H1
    simp only [Option.some.injEq, Prod.mk.injEq] at H
    obtain ⟨rfl, rfl, rfl, rfl, rfl⟩ := H
    have hnb19 := NB252_250.out
    have hnc19 := NB250_252.out
    have hnb20 := NB252_251.out
    have hnc20 := NB251_252.out
    have hcz21_0 := cz4 BK252.out
    have hfz21_0 := blk_frozen BK252.out
    go_wp2
    refine bodyPost_ret (results_ct rfl _ _ gb252 37 #[.int .i64 0, .int .i64 0, .int .i64 0, .int .i64 0] (0, 0) _ rfl (bkt BK252.out) Try.underlying37 rfl (by kernel_rfl)) rfl ?_
    exact bfin (bel HB.out)
   ·replace c18 := Bool.eq_false_iff.mpr c18
    subst c18
    have H1 : (if t253 = 0 then (some (1, 0, 0, 0, 0)) else (some (0, 0, 0, 0, t253))) = some (r1, r2, r3, r4, r5) := by rw [if_neg (show ¬ (false = true) by decide)] at H; exact H
    clear H
    have H := H1
    clear H1
    by_cases c22 : t253 = 0
    ·rw [if_pos c22] at H
     have c22b0 : (t253 == 0) = true := beq_iff_eq.mpr c22
     have c22b1 : (t253 != 0) = false := bne_eq_false_iff_eq.mpr c22
     clear c22
     simp only [Option.some.injEq, Prod.mk.injEq] at H
     obtain ⟨rfl, rfl, rfl, rfl, rfl⟩ := H
     have hnb23 := NB252_250.out
     have hnc23 := NB250_252.out
     have hnb24 := NB252_251.out
     have hnc24 := NB251_252.out
     have hcz25_0 := cz4 BK252.out
     have hfz25_0 := blk_frozen BK252.out
     go_wp2
     refine bodyPost_ret (results_ct rfl _ _ gb252 37 #[.int .i64 1, .int .i64 0, .int .i64 0, .int .i64 0] (0, 0) _ rfl (bkt BK252.out) Try.underlying37 rfl (by kernel_rfl)) rfl ?_
     exact bfin (bel HB.out)
    ·rw [if_neg c22] at H
     have c22b0 : (t253 == 0) = false := beq_eq_false_iff_ne.mpr c22
     have c22b1 : (t253 != 0) = true := bne_iff_ne.mpr c22
     simp only [Option.some.injEq, Prod.mk.injEq] at H
     obtain ⟨rfl, rfl, rfl, rfl, rfl⟩ := H
     have hnb26 := NB252_250.out
     have hnc26 := NB250_252.out
     have hnb27 := NB252_251.out
     have hnc27 := NB251_252.out
     have hcz28_0 := cz4 BK252.out
     have hfz28_0 := blk_frozen BK252.out
     go_wp2
     refine bodyPost_ret (results_ct rfl _ _ gb252 37 #[.int .i64 0, .int .i64 0, .int .i64 0, .int .i64 0] (0, 0) _ rfl (bkt BK252.out) Try.underlying37 rfl (by kernel_rfl)) rfl ?_
     exact bfin (bel HB.out)

/-! ### r18_Worst: function 42 -/
def r18_Worst.f (a0_0 : Int) (a0_1 : Int) (a0_2 : Int) : Option (Int × Int) := (r18_Rule.f a0_0 a0_1 a0_2).bind fun t264 => (if t264 = 0 then (some (wrap64 ((wrap64 ((wrap64 (2 * a0_0)) + a0_1)) + (wrap64 (a0_2 * (wrap64 ((wrap64 ((wrap64 (2 * a0_0)) - 1)) + a0_1))))), 0)) else (some (0, t264)))
set_option maxHeartbeats 8000000 in
set_option maxRecDepth 100000 in
theorem r18_Worst.calls (a0_0 : Int) (a0_1 : Int) (a0_2 : Int) (r1 : Int) (r2 : Int) (w : World) (h : r18_Worst.f a0_0 a0_1 a0_2 = some (r1, r2)) :
  Calls Try.prog 42 #[.agg #[.int .i64 a0_0, .int .i64 a0_1, .int .i64 a0_2]] w fun e w' => e = .returned (.tuple #[.int .i64 r1, .int .i64 r2]) ∧ Below w.heap.size w w' := by
 have hu23 := Try.underlying23
 have HB := Aside0.mk (Below.refl w.heap.size w)
 have H : ((r18_Rule.f a0_0 a0_1 a0_2).bind fun t264 => (if t264 = 0 then (some (wrap64 ((wrap64 ((wrap64 (2 * a0_0)) + a0_1)) + (wrap64 (a0_2 * (wrap64 ((wrap64 ((wrap64 (2 * a0_0)) - 1)) + a0_1))))), 0)) else (some (0, t264)))) = some (r1, r2) := h
 clear h
 replace H := Option.bind_eq_some_iff.mp H
 obtain ⟨t264, A20, H⟩ := H
 replace H : (if t264 = 0 then (some (wrap64 ((wrap64 ((wrap64 (2 * a0_0)) + a0_1)) + (wrap64 (a0_2 * (wrap64 ((wrap64 ((wrap64 (2 * a0_0)) - 1)) + a0_1))))), 0)) else (some (0, t264))) = some (r1, r2) := H
 have A2 := Aside0.mk A20
 clear A20
 by_cases c3 : t264 = 0
 ·rw [if_pos c3] at H
  have c3b0 : (t264 == 0) = true := beq_iff_eq.mpr c3
  have c3b1 : (t264 != 0) = false := bne_eq_false_iff_eq.mpr c3
  clear c3
  simp only [Option.some.injEq, Prod.mk.injEq] at H
  obtain ⟨rfl, rfl⟩ := H
  go_enter Try.func42, Try.ntmps42
  go_wp2_with (first | ((with_reducible refine gate_dst (N := 1) rfl ?_); refine bxe (cs := #[.int .i64 a0_0, .int .i64 a0_1, .int .i64 a0_2]) (t := 23) ?_; intro gb263 hg w4 hbox hb; have BK263 := Aside0.mk (hbox); have GW263 := Aside0.mk (bge hg HB.out); have GE263 := Aside0.mk (bge hg HB.out); replace HB := Aside0.mk (bst HB.out hb); clear hb hbox hg; have hcz5_0 := cz3 BK263.out; have hfz5_0 := blk_frozen BK263.out) | ((with_reducible refine gate_callee (f := 40) rfl ?_); refine gsl (some 6) Try.func40 #[.agg #[.int .i64 a0_0, .int .i64 a0_1, .int .i64 a0_2]] ?_; (with_reducible refine (r18_Rule.calls a0_0 a0_1 a0_2 t264 _ A2.out).mono ?_); rintro e w6 ⟨rfl, hb⟩; refine ⟨_, rfl, ?_⟩; replace BK263 := Aside0.mk (bkb BK263.out hb); replace HB := Aside0.mk (bst HB.out hb); (try clear hb); (try clear hb2); (try clear hk); (try clear hi); have hcz7_0 := cz3 BK263.out; have hfz7_0 := blk_frozen BK263.out))
  go_ret2
  exact bfin (bel HB.out)
 ·rw [if_neg c3] at H
  have c3b0 : (t264 == 0) = false := beq_eq_false_iff_ne.mpr c3
  have c3b1 : (t264 != 0) = true := bne_iff_ne.mpr c3
  simp only [Option.some.injEq, Prod.mk.injEq] at H
  obtain ⟨rfl, rfl⟩ := H
  go_enter Try.func42, Try.ntmps42
  go_wp2_with (first | ((with_reducible refine gate_dst (N := 1) rfl ?_); refine bxe (cs := #[.int .i64 a0_0, .int .i64 a0_1, .int .i64 a0_2]) (t := 23) ?_; intro gb263 hg w8 hbox hb; have BK263 := Aside0.mk (hbox); have GW263 := Aside0.mk (bge hg HB.out); have GE263 := Aside0.mk (bge hg HB.out); replace HB := Aside0.mk (bst HB.out hb); clear hb hbox hg; have hcz9_0 := cz3 BK263.out; have hfz9_0 := blk_frozen BK263.out) | ((with_reducible refine gate_callee (f := 40) rfl ?_); refine gsl (some 6) Try.func40 #[.agg #[.int .i64 a0_0, .int .i64 a0_1, .int .i64 a0_2]] ?_; (with_reducible refine (r18_Rule.calls a0_0 a0_1 a0_2 t264 _ A2.out).mono ?_); rintro e w10 ⟨rfl, hb⟩; refine ⟨_, rfl, ?_⟩; replace BK263 := Aside0.mk (bkb BK263.out hb); replace HB := Aside0.mk (bst HB.out hb); (try clear hb); (try clear hb2); (try clear hk); (try clear hi)))
  go_ret2
  exact bfin (bel HB.out)

/-! ### r18_fall: function 62 -/
def r18_fall.f (a0_0 : Int) (a0_1 : Int) (a0_2 : Int) (a0_3 : Int) : Option (Int × Int × Int × Int) := if (wrap64 (a0_1 - 1)) = 0 then (some (0, 0, 0, 0)) else (some (a0_0, wrap64 (a0_1 - 1), a0_2, a0_3))
set_option maxHeartbeats 8000000 in
set_option maxRecDepth 100000 in
theorem r18_fall.calls (a0_0 : Int) (a0_1 : Int) (a0_2 : Int) (a0_3 : Int) (r1 : Int) (r2 : Int) (r3 : Int) (r4 : Int) (w : World) (h : r18_fall.f a0_0 a0_1 a0_2 a0_3 = some (r1, r2, r3, r4)) :
  Calls Try.prog 62 #[.agg #[.int .i64 a0_0, .int .i64 a0_1, .int .i64 a0_2, .int .i64 a0_3]] w fun e w' => e = .returned (.agg #[.int .i64 r1, .int .i64 r2, .int .i64 r3, .int .i64 r4]) ∧ Below w.heap.size w w' := by
 have hu37 := Try.underlying37
 have HB := Aside0.mk (Below.refl w.heap.size w)
 have H : (if (wrap64 (a0_1 - 1)) = 0 then (some (0, 0, 0, 0)) else (some (a0_0, wrap64 (a0_1 - 1), a0_2, a0_3))) = some (r1, r2, r3, r4) := h
 clear h
 by_cases c2 : (wrap64 (a0_1 - 1)) = 0
 ·rw [if_pos c2] at H
  have c2b0 : ((wrap64 (a0_1 - 1)) == 0) = true := beq_iff_eq.mpr c2
  have c2b1 : ((wrap64 (a0_1 - 1)) != 0) = false := bne_eq_false_iff_eq.mpr c2
  clear c2
  simp only [Option.some.injEq, Prod.mk.injEq] at H
  obtain ⟨rfl, rfl, rfl, rfl⟩ := H
  go_enter Try.func62, Try.ntmps62
  go_wp2_with (first | ((with_reducible refine gate_dst (N := 1) rfl ?_); refine bxe (cs := #[.int .i64 a0_0, .int .i64 a0_1, .int .i64 a0_2, .int .i64 a0_3]) (t := 37) ?_; intro gb265 hg w3 hbox hb; have BK265 := Aside0.mk (hbox); have GW265 := Aside0.mk (bge hg HB.out); have GE265 := Aside0.mk (bge hg HB.out); replace HB := Aside0.mk (bst HB.out hb); clear hb hbox hg) | ((with_reducible refine gate_dst (N := 2) rfl ?_); refine bxe (cs := #[.int .i64 0, .int .i64 0, .int .i64 0, .int .i64 0]) (t := 37) ?_; intro gb266 hg w4 hbox hb; have BK266 := Aside0.mk (hbox); have GW266 := Aside0.mk (bge hg HB.out); have GE266 := Aside0.mk (bge hg HB.out); have NB265_266 := Aside0.mk ((bkl hg BK265.out)); have NB266_265 := Aside0.mk ((bkg hg BK265.out)); replace BK265 := Aside0.mk (bkb BK265.out hb); replace HB := Aside0.mk (bst HB.out hb); clear hb hbox hg; have hnb5 := NB265_266.out; have hnc5 := NB266_265.out; have hcz6_0 := cz4 BK265.out; have hfz6_0 := blk_frozen BK265.out; have hcz7_0 := cz4 BK266.out; have hfz7_0 := blk_frozen BK266.out))
  refine bodyPost_ret (results_cell_row rfl _ _ gb266 37 #[.int .i64 0, .int .i64 0, .int .i64 0, .int .i64 0] (0, 0) _ rfl (bkt BK266.out) Try.underlying37 rfl (by kernel_rfl)) rfl ?_
  exact bfin (bel HB.out)
 ·rw [if_neg c2] at H
  have c2b0 : ((wrap64 (a0_1 - 1)) == 0) = false := beq_eq_false_iff_ne.mpr c2
  have c2b1 : ((wrap64 (a0_1 - 1)) != 0) = true := bne_iff_ne.mpr c2
  simp only [Option.some.injEq, Prod.mk.injEq] at H
  obtain ⟨rfl, rfl, rfl, rfl⟩ := H
  go_enter Try.func62, Try.ntmps62
  go_wp2_with (first | ((with_reducible refine gate_dst (N := 1) rfl ?_); refine bxe (cs := #[.int .i64 a0_0, .int .i64 a0_1, .int .i64 a0_2, .int .i64 a0_3]) (t := 37) ?_; intro gb265 hg w8 hbox hb; have BK265 := Aside0.mk (hbox); have GW265 := Aside0.mk (bge hg HB.out); have GE265 := Aside0.mk (bge hg HB.out); replace HB := Aside0.mk (bst HB.out hb); clear hb hbox hg) | ((with_reducible refine gate_dst (N := 2) rfl ?_); refine bxe (cs := #[.int .i64 0, .int .i64 0, .int .i64 0, .int .i64 0]) (t := 37) ?_; intro gb266 hg w9 hbox hb; have BK266 := Aside0.mk (hbox); have GW266 := Aside0.mk (bge hg HB.out); have GE266 := Aside0.mk (bge hg HB.out); have NB265_266 := Aside0.mk ((bkl hg BK265.out)); have NB266_265 := Aside0.mk ((bkg hg BK265.out)); replace BK265 := Aside0.mk (bkb BK265.out hb); replace HB := Aside0.mk (bst HB.out hb); clear hb hbox hg; have hnb10 := NB265_266.out; have hnc10 := NB266_265.out; have hcz11_0 := cz4 BK265.out; have hfz11_0 := blk_frozen BK265.out; have hcz12_0 := cz4 BK266.out; have hfz12_0 := blk_frozen BK266.out))
  refine bodyPost_ret (results_cell_row rfl _ _ gb266 37 #[.int .i64 a0_0, .int .i64 (wrap64 (a0_1 - 1)), .int .i64 a0_2, .int .i64 a0_3] (0, 0) _ rfl (bkt BK266.out) Try.underlying37 rfl (by kernel_rfl)) rfl ?_
  exact bfin (bel HB.out)

end Go.Proofs.Ytmjmdnpenpdmhaa.P
