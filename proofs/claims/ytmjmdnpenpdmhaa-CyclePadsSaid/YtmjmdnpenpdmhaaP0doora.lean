-- Printed by wip/myprint.py of this repo (over the kit's printer). Not trusted: Lean checks it.
import Derived.Test.YtmjmdnpenpdmhaaP0
import Derived.Test.YtmjmdnpenpdmhaaP0door
namespace Go.Proofs.Ytmjmdnpenpdmhaa.P
open Go.RowKit Go.Proofs.YtmjmdnpenpdmhaaW.PrintWords Go.Proofs.YtmjmdnpenpdmhaaW.PrintLast Go.Proofs.YtmjmdnpenpdmhaaW.PrintMore
attribute [local go_sem] cell_same1 cell_some1
attribute [local go_sem] max2_int min2_int max_two min_two max_three min_three max_four min_four   -- for this text's walks alone
set_option linter.unusedVariables false
set_option linter.unusedSimpArgs false

/-! ### door_Open: function 37 -/
def door_Open.j0 : Nat → Int → Bool → Option (Int × Int × Int × Int × Int)
 | 0, _, _ => none
 | k + 1, x6, x16 => if x16 = true then (some (0, 0, 0, 0, 9)) else (if x6 = 0 then (some (1, 0, 0, 0, 0)) else (some (0, 0, 0, 0, x6)))
def door_Open.f (k : Nat) (a0_0 : Int) (a0_1 : Int) (a0_2 : Int) (a0_3 : Int) (a1_0 : Int) (a1_1 : Int) (a1_2 : Int) : Option (Int × Int × Int × Int × Int) := (door_Check.f k a0_0 a0_1 a0_2 a0_3 a1_0 a1_1 a1_2).bind fun t115 => (if t115 = 0 then (door_Open.j0 k t115 (a0_0 != 0)) else (door_Open.j0 k t115 false))
theorem door_Open.mono_l : ∀ k, (∀ y0 y1, LeO (door_Open.j0 k y0 y1) (door_Open.j0 (k + 1) y0 y1))
 | 0 => fun _ _ r h => by simp [door_Open.j0] at h
 | k + 1 => by
  have ih0 := door_Open.mono_l k
  ·intro y0 y1
   unfold door_Open.j0
   repeat' first
   | (with_reducible exact ih0 _ _)
   | (with_reducible exact door_Check.mono _ _ _ _ _ _ _ _)
   | (with_reducible exact LeO.refl _)
   | (with_reducible exact LeO.none _)
   | (with_reducible refine LeO.ite ?_ ?_)
   | (with_reducible refine LeO.bind ?_ (fun _ => ?_))
   | exact ih0 _ _
   | exact door_Check.mono _ _ _ _ _ _ _ _
   | exact LeO.none _
   | refine LeO.ite ?_ ?_
   | refine LeO.bind ?_ (fun _ => ?_)
theorem door_Open.mono : ∀ a0 a1 a2 a3 a4 a5 a6 k, LeO (door_Open.f k a0 a1 a2 a3 a4 a5 a6) (door_Open.f (k + 1) a0 a1 a2 a3 a4 a5 a6) := by
 intro a0 a1 a2 a3 a4 a5 a6 k
 have ih0 := door_Open.mono_l k
 unfold door_Open.f
 repeat' first
   | (with_reducible exact ih0 _ _)
   | (with_reducible exact door_Check.mono _ _ _ _ _ _ _ _)
   | (with_reducible exact LeO.refl _)
   | (with_reducible exact LeO.none _)
   | (with_reducible refine LeO.ite ?_ ?_)
   | (with_reducible refine LeO.bind ?_ (fun _ => ?_))
   | exact ih0 _ _
   | exact door_Check.mono _ _ _ _ _ _ _ _
   | exact LeO.none _
   | refine LeO.ite ?_ ?_
   | refine LeO.bind ?_ (fun _ => ?_)
set_option maxHeartbeats 8000000 in
set_option maxRecDepth 100000 in
theorem door_Open.calls (k : Nat) (a0_0 : Int) (a0_1 : Int) (a0_2 : Int) (a0_3 : Int) (a1_0 : Int) (a1_1 : Int) (a1_2 : Int) (r1 : Int) (r2 : Int) (r3 : Int) (r4 : Int) (r5 : Int) (w : World) (h : door_Open.f k a0_0 a0_1 a0_2 a0_3 a1_0 a1_1 a1_2 = some (r1, r2, r3, r4, r5)) :
  Calls Try.prog 37 #[.agg #[.int .i64 a0_0, .int .i64 a0_1, .int .i64 a0_2, .int .i64 a0_3], .agg #[.int .i64 a1_0, .int .i64 a1_1, .int .i64 a1_2]] w fun e w' => e = .returned (.tuple #[.agg #[.int .i64 r1, .int .i64 r2, .int .i64 r3, .int .i64 r4], .int .i64 r5]) ∧ Below w.heap.size w w' := by
 have hu37 := Try.underlying37
 have hu23 := Try.underlying23
 have HB := Aside0.mk (Below.refl w.heap.size w)
 have H : ((door_Check.f k a0_0 a0_1 a0_2 a0_3 a1_0 a1_1 a1_2).bind fun t115 => (if t115 = 0 then (door_Open.j0 k t115 (a0_0 != 0)) else (door_Open.j0 k t115 false))) = some (r1, r2, r3, r4, r5) := h
 clear h
 replace H := Option.bind_eq_some_iff.mp H
 obtain ⟨t115, A30, H⟩ := H
 replace H : (if t115 = 0 then (door_Open.j0 k t115 (a0_0 != 0)) else (door_Open.j0 k t115 false)) = some (r1, r2, r3, r4, r5) := H
 have A3 := Aside0.mk A30
 clear A30
 have HC4 := Aside0.mk H
 clear H
 go_enter Try.func37, Try.ntmps37
 go_upto_region 2 with (first | ((with_reducible refine gate_dst (N := 2) rfl ?_); refine bxe (cs := #[.int .i64 a0_0, .int .i64 a0_1, .int .i64 a0_2, .int .i64 a0_3]) (t := 37) ?_; intro gb112 hg w5 hbox hb; have BK112 := Aside0.mk (hbox); have GW112 := Aside0.mk (bge hg HB.out); have GE112 := Aside0.mk (bge hg HB.out); replace HB := Aside0.mk (bst HB.out hb); clear hb hbox hg) | ((with_reducible refine gate_dst (N := 3) rfl ?_); refine bxe (cs := #[.int .i64 a1_0, .int .i64 a1_1, .int .i64 a1_2]) (t := 23) ?_; intro gb113 hg w6 hbox hb; have BK113 := Aside0.mk (hbox); have GW113 := Aside0.mk (bge hg HB.out); have GE113 := Aside0.mk (bge hg HB.out); have NB112_113 := Aside0.mk ((bkl hg BK112.out)); have NB113_112 := Aside0.mk ((bkg hg BK112.out)); replace BK112 := Aside0.mk (bkb BK112.out hb); replace HB := Aside0.mk (bst HB.out hb); clear hb hbox hg) | ((with_reducible refine gate_dst (N := 4) rfl ?_); refine bxe (cs := #[.int .i64 0, .int .i64 0, .int .i64 0, .int .i64 0]) (t := 37) ?_; intro gb114 hg w7 hbox hb; have BK114 := Aside0.mk (hbox); have GW114 := Aside0.mk (bge hg HB.out); have GE114 := Aside0.mk (bge hg HB.out); have NB112_114 := Aside0.mk ((bkl hg BK112.out)); have NB114_112 := Aside0.mk ((bkg hg BK112.out)); have NB113_114 := Aside0.mk ((bkl hg BK113.out)); have NB114_113 := Aside0.mk ((bkg hg BK113.out)); replace BK112 := Aside0.mk (bkb BK112.out hb); replace BK113 := Aside0.mk (bkb BK113.out hb); replace HB := Aside0.mk (bst HB.out hb); clear hb hbox hg; have hnb8 := NB112_113.out; have hnc8 := NB113_112.out; have hnb9 := NB112_114.out; have hnc9 := NB114_112.out; have hcz10_0 := cz4 BK112.out; have hfz10_0 := blk_frozen BK112.out; have hnb11 := NB113_114.out; have hnc11 := NB114_113.out; have hcz12_0 := cz3 BK113.out; have hfz12_0 := blk_frozen BK113.out) | ((with_reducible refine gate_callee (f := 36) rfl ?_); refine gsl (some 9) Try.func36 #[.agg #[.int .i64 a0_0, .int .i64 a0_1, .int .i64 a0_2, .int .i64 a0_3], .agg #[.int .i64 a1_0, .int .i64 a1_1, .int .i64 a1_2]] ?_; (with_reducible refine (door_Check.calls k a0_0 a0_1 a0_2 a0_3 a1_0 a1_1 a1_2 t115 _ A3.out).mono ?_); rintro e w13 ⟨rfl, hb⟩; refine ⟨_, rfl, ?_⟩; replace BK112 := Aside0.mk (bkb BK112.out hb); replace BK113 := Aside0.mk (bkb BK113.out hb); replace BK114 := Aside0.mk (bkb BK114.out hb); replace HB := Aside0.mk (bst HB.out hb); (try clear hb); (try clear hb2); (try clear hk); (try clear hi)))
 (try simp only [Act.put, List.setIfInBounds_toArray, List.set_cons_zero, List.set_cons_succ])
 go_cut [16] (fun v16 wc => ∃ (kq : Nat) (x16_3 : Bool), v16 = .bool x16_3 ∧ Aside0 (door_Open.j0 kq t115 x16_3 = some (r1, r2, r3, r4, r5)) ∧ Aside0 (kq ≤ k) ∧ Aside0 (wc.heap[gb112]? = some (.cells #[.int .i64 a0_0, .int .i64 a0_1, .int .i64 a0_2, .int .i64 a0_3] 37 (0, 0))) ∧ Aside0 (wc.heap[gb113]? = some (.cells #[.int .i64 a1_0, .int .i64 a1_1, .int .i64 a1_2] 23 (0, 0))) ∧ Aside0 (wc.heap[gb114]? = some (.cells #[.int .i64 0, .int .i64 0, .int .i64 0, .int .i64 0] 37 (0, 0))) ∧ Aside0 (Below w.heap.size w wc))
 case first =>
  have H := HC4.out
  clear HC4
  by_cases c14 : t115 = 0
  ·rw [if_pos c14] at H
   have c14b0 : (t115 == 0) = true := beq_iff_eq.mpr c14
   have c14b1 : (t115 != 0) = false := bne_eq_false_iff_eq.mpr c14
   clear c14
   (first | rw [c14b0] | (simp only [i64_w, i32_w]; rw [c14b0]) | skip)
   have H' := Aside0.mk H
   clear H
   have hnb15 := NB112_113.out
   have hnc15 := NB113_112.out
   have hnb16 := NB112_114.out
   have hnc16 := NB114_112.out
   have hcz17_0 := cz4 BK112.out
   have hfz17_0 := blk_frozen BK112.out
   go_wp2
   go_meet
   case rel => exact ⟨_, ((a0_0 != 0)), (by first | rfl | (simp; done) | (simp [*]; done)), H', ⟨by first | omega | exact Nat.le_refl _⟩, ⟨bkt BK112.out⟩, ⟨bkt BK113.out⟩, ⟨bkt BK114.out⟩, ⟨bel HB.out⟩⟩
  ·rw [if_neg c14] at H
   have c14b0 : (t115 == 0) = false := beq_eq_false_iff_ne.mpr c14
   have c14b1 : (t115 != 0) = true := bne_iff_ne.mpr c14
   (first | rw [c14b0] | (simp only [i64_w, i32_w]; rw [c14b0]) | skip)
   have H' := Aside0.mk H
   clear H
   go_wp2
   go_meet
   case rel => exact ⟨_, (false), (by first | rfl | (simp; done) | (simp [*]; done)), H', ⟨by first | omega | exact Nat.le_refl _⟩, ⟨bkt BK112.out⟩, ⟨bkt BK113.out⟩, ⟨bkt BK114.out⟩, ⟨bel HB.out⟩⟩
 case rest =>
  clear HC4
  try clear c1
  try clear p2
  try clear c3
  try clear c8
  try clear c9
  try clear c11
  try clear c14
  try clear c14b0
  try clear c14b1
  try clear c15
  try clear c16
  try clear hcz10_0
  try clear hcz12_0
  try clear hcz17_0
  try clear hfz10_0
  try clear hfz12_0
  try clear hfz17_0
  obtain ⟨kq, x16_3, rfl, HA, HJ3, BK112, BK113, BK114, HB⟩ := hcut
  cases kq with
  | zero => exact absurd HA.out (by simp [door_Open.j0])
  | succ kj3 =>
   have H := HA.out
   clear HA
   simp only [door_Open.j0] at H
   by_cases c18 : x16_3 = true
   ·subst c18
    have H1 : (some (0, 0, 0, 0, 9)) = some (r1, r2, r3, r4, r5) := by rw [if_pos rfl] at H; exact H
    clear H
    have H := H1
    clear H1
    simp only [Option.some.injEq, Prod.mk.injEq] at H
    obtain ⟨rfl, rfl, rfl, rfl, rfl⟩ := H
    have hnb19 := NB114_112.out
    have hnc19 := NB112_114.out
    have hnb20 := NB114_113.out
    have hnc20 := NB113_114.out
    have hcz21_0 := cz4 BK114.out
    have hfz21_0 := blk_frozen BK114.out
    go_wp2
    refine bodyPost_ret (results_ct rfl _ _ gb114 37 #[.int .i64 0, .int .i64 0, .int .i64 0, .int .i64 0] (0, 0) _ rfl (bkt BK114.out) Try.underlying37 rfl (by kernel_rfl)) rfl ?_
    exact bfin (bel HB.out)
   ·replace c18 := Bool.eq_false_iff.mpr c18
    subst c18
    have H1 : (if t115 = 0 then (some (1, 0, 0, 0, 0)) else (some (0, 0, 0, 0, t115))) = some (r1, r2, r3, r4, r5) := by rw [if_neg (show ¬ (false = true) by decide)] at H; exact H
    clear H
    have H := H1
    clear H1
    by_cases c22 : t115 = 0
    ·rw [if_pos c22] at H
     have c22b0 : (t115 == 0) = true := beq_iff_eq.mpr c22
     have c22b1 : (t115 != 0) = false := bne_eq_false_iff_eq.mpr c22
     clear c22
     simp only [Option.some.injEq, Prod.mk.injEq] at H
     obtain ⟨rfl, rfl, rfl, rfl, rfl⟩ := H
     have hnb23 := NB114_112.out
     have hnc23 := NB112_114.out
     have hnb24 := NB114_113.out
     have hnc24 := NB113_114.out
     have hcz25_0 := cz4 BK114.out
     have hfz25_0 := blk_frozen BK114.out
     go_wp2
     refine bodyPost_ret (results_ct rfl _ _ gb114 37 #[.int .i64 1, .int .i64 0, .int .i64 0, .int .i64 0] (0, 0) _ rfl (bkt BK114.out) Try.underlying37 rfl (by kernel_rfl)) rfl ?_
     exact bfin (bel HB.out)
    ·rw [if_neg c22] at H
     have c22b0 : (t115 == 0) = false := beq_eq_false_iff_ne.mpr c22
     have c22b1 : (t115 != 0) = true := bne_iff_ne.mpr c22
     simp only [Option.some.injEq, Prod.mk.injEq] at H
     obtain ⟨rfl, rfl, rfl, rfl, rfl⟩ := H
     have hnb26 := NB114_112.out
     have hnc26 := NB112_114.out
     have hnb27 := NB114_113.out
     have hnc27 := NB113_114.out
     have hcz28_0 := cz4 BK114.out
     have hfz28_0 := blk_frozen BK114.out
     go_wp2
     refine bodyPost_ret (results_ct rfl _ _ gb114 37 #[.int .i64 0, .int .i64 0, .int .i64 0, .int .i64 0] (0, 0) _ rfl (bkt BK114.out) Try.underlying37 rfl (by kernel_rfl)) rfl ?_
     exact bfin (bel HB.out)

/-! ### door_Force: function 59 -/
def door_Force.f (k : Nat) (a0_0 : Int) (a0_1 : Int) (a0_2 : Int) (a0_3 : Int) (a1_0 : Int) (a1_1 : Int) (a1_2 : Int) : Option (Int × Int × Int × Int × Int) := (door_Check.f k a0_0 a0_1 a0_2 a0_3 a1_0 a1_1 a1_2).bind fun t143 => (if t143 = 0 then (if a0_1 = 0 then (some (0, 0, 0, 0, t143)) else (some (5, a0_1, 0, 0, 0))) else (some (0, 0, 0, 0, t143)))
theorem door_Force.mono : ∀ a0 a1 a2 a3 a4 a5 a6 k, LeO (door_Force.f k a0 a1 a2 a3 a4 a5 a6) (door_Force.f (k + 1) a0 a1 a2 a3 a4 a5 a6) := by
 intro a0 a1 a2 a3 a4 a5 a6 k
 unfold door_Force.f
 repeat' first
   | (with_reducible exact door_Check.mono _ _ _ _ _ _ _ _)
   | (with_reducible exact LeO.refl _)
   | (with_reducible exact LeO.none _)
   | (with_reducible refine LeO.ite ?_ ?_)
   | (with_reducible refine LeO.bind ?_ (fun _ => ?_))
   | exact door_Check.mono _ _ _ _ _ _ _ _
   | exact LeO.none _
   | refine LeO.ite ?_ ?_
   | refine LeO.bind ?_ (fun _ => ?_)
set_option maxHeartbeats 8000000 in
set_option maxRecDepth 100000 in
theorem door_Force.calls (k : Nat) (a0_0 : Int) (a0_1 : Int) (a0_2 : Int) (a0_3 : Int) (a1_0 : Int) (a1_1 : Int) (a1_2 : Int) (r1 : Int) (r2 : Int) (r3 : Int) (r4 : Int) (r5 : Int) (w : World) (h : door_Force.f k a0_0 a0_1 a0_2 a0_3 a1_0 a1_1 a1_2 = some (r1, r2, r3, r4, r5)) :
  Calls Try.prog 59 #[.agg #[.int .i64 a0_0, .int .i64 a0_1, .int .i64 a0_2, .int .i64 a0_3], .agg #[.int .i64 a1_0, .int .i64 a1_1, .int .i64 a1_2]] w fun e w' => e = .returned (.tuple #[.agg #[.int .i64 r1, .int .i64 r2, .int .i64 r3, .int .i64 r4], .int .i64 r5]) ∧ Below w.heap.size w w' := by
 have hu37 := Try.underlying37
 have hu23 := Try.underlying23
 have HB := Aside0.mk (Below.refl w.heap.size w)
 have H : ((door_Check.f k a0_0 a0_1 a0_2 a0_3 a1_0 a1_1 a1_2).bind fun t143 => (if t143 = 0 then (if a0_1 = 0 then (some (0, 0, 0, 0, t143)) else (some (5, a0_1, 0, 0, 0))) else (some (0, 0, 0, 0, t143)))) = some (r1, r2, r3, r4, r5) := h
 clear h
 replace H := Option.bind_eq_some_iff.mp H
 obtain ⟨t143, A30, H⟩ := H
 replace H : (if t143 = 0 then (if a0_1 = 0 then (some (0, 0, 0, 0, t143)) else (some (5, a0_1, 0, 0, 0))) else (some (0, 0, 0, 0, t143))) = some (r1, r2, r3, r4, r5) := H
 have A3 := Aside0.mk A30
 clear A30
 by_cases c4 : t143 = 0
 ·rw [if_pos c4] at H
  have c4b0 : (t143 == 0) = true := beq_iff_eq.mpr c4
  have c4b1 : (t143 != 0) = false := bne_eq_false_iff_eq.mpr c4
  clear c4
  by_cases c5 : a0_1 = 0
  ·rw [if_pos c5] at H
   have c5b0 : (a0_1 == 0) = true := beq_iff_eq.mpr c5
   have c5b1 : (a0_1 != 0) = false := bne_eq_false_iff_eq.mpr c5
   clear c5
   simp only [Option.some.injEq, Prod.mk.injEq] at H
   obtain ⟨rfl, rfl, rfl, rfl, rfl⟩ := H
   go_enter Try.func59, Try.ntmps59
   go_wp2_with (first | ((with_reducible refine gate_dst (N := 2) rfl ?_); refine bxe (cs := #[.int .i64 a0_0, .int .i64 a0_1, .int .i64 a0_2, .int .i64 a0_3]) (t := 37) ?_; intro gb140 hg w6 hbox hb; have BK140 := Aside0.mk (hbox); have GW140 := Aside0.mk (bge hg HB.out); have GE140 := Aside0.mk (bge hg HB.out); replace HB := Aside0.mk (bst HB.out hb); clear hb hbox hg) | ((with_reducible refine gate_dst (N := 3) rfl ?_); refine bxe (cs := #[.int .i64 a1_0, .int .i64 a1_1, .int .i64 a1_2]) (t := 23) ?_; intro gb141 hg w7 hbox hb; have BK141 := Aside0.mk (hbox); have GW141 := Aside0.mk (bge hg HB.out); have GE141 := Aside0.mk (bge hg HB.out); have NB140_141 := Aside0.mk ((bkl hg BK140.out)); have NB141_140 := Aside0.mk ((bkg hg BK140.out)); replace BK140 := Aside0.mk (bkb BK140.out hb); replace HB := Aside0.mk (bst HB.out hb); clear hb hbox hg) | ((with_reducible refine gate_dst (N := 4) rfl ?_); refine bxe (cs := #[.int .i64 0, .int .i64 0, .int .i64 0, .int .i64 0]) (t := 37) ?_; intro gb142 hg w8 hbox hb; have BK142 := Aside0.mk (hbox); have GW142 := Aside0.mk (bge hg HB.out); have GE142 := Aside0.mk (bge hg HB.out); have NB140_142 := Aside0.mk ((bkl hg BK140.out)); have NB142_140 := Aside0.mk ((bkg hg BK140.out)); have NB141_142 := Aside0.mk ((bkl hg BK141.out)); have NB142_141 := Aside0.mk ((bkg hg BK141.out)); replace BK140 := Aside0.mk (bkb BK140.out hb); replace BK141 := Aside0.mk (bkb BK141.out hb); replace HB := Aside0.mk (bst HB.out hb); clear hb hbox hg; have hnb9 := NB140_141.out; have hnc9 := NB141_140.out; have hnb10 := NB140_142.out; have hnc10 := NB142_140.out; have hcz11_0 := cz4 BK140.out; have hfz11_0 := blk_frozen BK140.out; have hnb12 := NB141_142.out; have hnc12 := NB142_141.out; have hcz13_0 := cz3 BK141.out; have hfz13_0 := blk_frozen BK141.out) | ((with_reducible refine gate_callee (f := 36) rfl ?_); refine gsl (some 9) Try.func36 #[.agg #[.int .i64 a0_0, .int .i64 a0_1, .int .i64 a0_2, .int .i64 a0_3], .agg #[.int .i64 a1_0, .int .i64 a1_1, .int .i64 a1_2]] ?_; (with_reducible refine (door_Check.calls k a0_0 a0_1 a0_2 a0_3 a1_0 a1_1 a1_2 t143 _ A3.out).mono ?_); rintro e w14 ⟨rfl, hb⟩; refine ⟨_, rfl, ?_⟩; replace BK140 := Aside0.mk (bkb BK140.out hb); replace BK141 := Aside0.mk (bkb BK141.out hb); replace BK142 := Aside0.mk (bkb BK142.out hb); replace HB := Aside0.mk (bst HB.out hb); (try clear hb); (try clear hb2); (try clear hk); (try clear hi); have hcz15_0 := cz4 BK140.out; have hfz15_0 := blk_frozen BK140.out; have hcz16_0 := cz4 BK142.out; have hfz16_0 := blk_frozen BK142.out))
   refine bodyPost_ret (results_ct rfl _ _ gb142 37 #[.int .i64 0, .int .i64 0, .int .i64 0, .int .i64 0] (0, 0) _ rfl (bkt BK142.out) Try.underlying37 rfl (by kernel_rfl)) rfl ?_
   exact bfin (bel HB.out)
  ·rw [if_neg c5] at H
   have c5b0 : (a0_1 == 0) = false := beq_eq_false_iff_ne.mpr c5
   have c5b1 : (a0_1 != 0) = true := bne_iff_ne.mpr c5
   simp only [Option.some.injEq, Prod.mk.injEq] at H
   obtain ⟨rfl, rfl, rfl, rfl, rfl⟩ := H
   go_enter Try.func59, Try.ntmps59
   go_wp2_with (first | ((with_reducible refine gate_dst (N := 2) rfl ?_); refine bxe (cs := #[.int .i64 a0_0, .int .i64 a0_1, .int .i64 a0_2, .int .i64 a0_3]) (t := 37) ?_; intro gb140 hg w17 hbox hb; have BK140 := Aside0.mk (hbox); have GW140 := Aside0.mk (bge hg HB.out); have GE140 := Aside0.mk (bge hg HB.out); replace HB := Aside0.mk (bst HB.out hb); clear hb hbox hg) | ((with_reducible refine gate_dst (N := 3) rfl ?_); refine bxe (cs := #[.int .i64 a1_0, .int .i64 a1_1, .int .i64 a1_2]) (t := 23) ?_; intro gb141 hg w18 hbox hb; have BK141 := Aside0.mk (hbox); have GW141 := Aside0.mk (bge hg HB.out); have GE141 := Aside0.mk (bge hg HB.out); have NB140_141 := Aside0.mk ((bkl hg BK140.out)); have NB141_140 := Aside0.mk ((bkg hg BK140.out)); replace BK140 := Aside0.mk (bkb BK140.out hb); replace HB := Aside0.mk (bst HB.out hb); clear hb hbox hg) | ((with_reducible refine gate_dst (N := 4) rfl ?_); refine bxe (cs := #[.int .i64 0, .int .i64 0, .int .i64 0, .int .i64 0]) (t := 37) ?_; intro gb142 hg w19 hbox hb; have BK142 := Aside0.mk (hbox); have GW142 := Aside0.mk (bge hg HB.out); have GE142 := Aside0.mk (bge hg HB.out); have NB140_142 := Aside0.mk ((bkl hg BK140.out)); have NB142_140 := Aside0.mk ((bkg hg BK140.out)); have NB141_142 := Aside0.mk ((bkl hg BK141.out)); have NB142_141 := Aside0.mk ((bkg hg BK141.out)); replace BK140 := Aside0.mk (bkb BK140.out hb); replace BK141 := Aside0.mk (bkb BK141.out hb); replace HB := Aside0.mk (bst HB.out hb); clear hb hbox hg; have hnb20 := NB140_141.out; have hnc20 := NB141_140.out; have hnb21 := NB140_142.out; have hnc21 := NB142_140.out; have hcz22_0 := cz4 BK140.out; have hfz22_0 := blk_frozen BK140.out; have hnb23 := NB141_142.out; have hnc23 := NB142_141.out; have hcz24_0 := cz3 BK141.out; have hfz24_0 := blk_frozen BK141.out) | ((with_reducible refine gate_callee (f := 36) rfl ?_); refine gsl (some 9) Try.func36 #[.agg #[.int .i64 a0_0, .int .i64 a0_1, .int .i64 a0_2, .int .i64 a0_3], .agg #[.int .i64 a1_0, .int .i64 a1_1, .int .i64 a1_2]] ?_; (with_reducible refine (door_Check.calls k a0_0 a0_1 a0_2 a0_3 a1_0 a1_1 a1_2 t143 _ A3.out).mono ?_); rintro e w25 ⟨rfl, hb⟩; refine ⟨_, rfl, ?_⟩; replace BK140 := Aside0.mk (bkb BK140.out hb); replace BK141 := Aside0.mk (bkb BK141.out hb); replace BK142 := Aside0.mk (bkb BK142.out hb); replace HB := Aside0.mk (bst HB.out hb); (try clear hb); (try clear hb2); (try clear hk); (try clear hi); have hcz26_0 := cz4 BK140.out; have hfz26_0 := blk_frozen BK140.out; have hcz27_0 := cz4 BK142.out; have hfz27_0 := blk_frozen BK142.out))
   refine bodyPost_ret (results_ct rfl _ _ gb142 37 #[.int .i64 5, .int .i64 a0_1, .int .i64 0, .int .i64 0] (0, 0) _ rfl (bkt BK142.out) Try.underlying37 rfl (by kernel_rfl)) rfl ?_
   exact bfin (bel HB.out)
 ·rw [if_neg c4] at H
  have c4b0 : (t143 == 0) = false := beq_eq_false_iff_ne.mpr c4
  have c4b1 : (t143 != 0) = true := bne_iff_ne.mpr c4
  simp only [Option.some.injEq, Prod.mk.injEq] at H
  obtain ⟨rfl, rfl, rfl, rfl, rfl⟩ := H
  go_enter Try.func59, Try.ntmps59
  go_wp2_with (first | ((with_reducible refine gate_dst (N := 2) rfl ?_); refine bxe (cs := #[.int .i64 a0_0, .int .i64 a0_1, .int .i64 a0_2, .int .i64 a0_3]) (t := 37) ?_; intro gb140 hg w28 hbox hb; have BK140 := Aside0.mk (hbox); have GW140 := Aside0.mk (bge hg HB.out); have GE140 := Aside0.mk (bge hg HB.out); replace HB := Aside0.mk (bst HB.out hb); clear hb hbox hg) | ((with_reducible refine gate_dst (N := 3) rfl ?_); refine bxe (cs := #[.int .i64 a1_0, .int .i64 a1_1, .int .i64 a1_2]) (t := 23) ?_; intro gb141 hg w29 hbox hb; have BK141 := Aside0.mk (hbox); have GW141 := Aside0.mk (bge hg HB.out); have GE141 := Aside0.mk (bge hg HB.out); have NB140_141 := Aside0.mk ((bkl hg BK140.out)); have NB141_140 := Aside0.mk ((bkg hg BK140.out)); replace BK140 := Aside0.mk (bkb BK140.out hb); replace HB := Aside0.mk (bst HB.out hb); clear hb hbox hg) | ((with_reducible refine gate_dst (N := 4) rfl ?_); refine bxe (cs := #[.int .i64 0, .int .i64 0, .int .i64 0, .int .i64 0]) (t := 37) ?_; intro gb142 hg w30 hbox hb; have BK142 := Aside0.mk (hbox); have GW142 := Aside0.mk (bge hg HB.out); have GE142 := Aside0.mk (bge hg HB.out); have NB140_142 := Aside0.mk ((bkl hg BK140.out)); have NB142_140 := Aside0.mk ((bkg hg BK140.out)); have NB141_142 := Aside0.mk ((bkl hg BK141.out)); have NB142_141 := Aside0.mk ((bkg hg BK141.out)); replace BK140 := Aside0.mk (bkb BK140.out hb); replace BK141 := Aside0.mk (bkb BK141.out hb); replace HB := Aside0.mk (bst HB.out hb); clear hb hbox hg; have hnb31 := NB140_141.out; have hnc31 := NB141_140.out; have hnb32 := NB140_142.out; have hnc32 := NB142_140.out; have hcz33_0 := cz4 BK140.out; have hfz33_0 := blk_frozen BK140.out; have hnb34 := NB141_142.out; have hnc34 := NB142_141.out; have hcz35_0 := cz3 BK141.out; have hfz35_0 := blk_frozen BK141.out) | ((with_reducible refine gate_callee (f := 36) rfl ?_); refine gsl (some 9) Try.func36 #[.agg #[.int .i64 a0_0, .int .i64 a0_1, .int .i64 a0_2, .int .i64 a0_3], .agg #[.int .i64 a1_0, .int .i64 a1_1, .int .i64 a1_2]] ?_; (with_reducible refine (door_Check.calls k a0_0 a0_1 a0_2 a0_3 a1_0 a1_1 a1_2 t143 _ A3.out).mono ?_); rintro e w36 ⟨rfl, hb⟩; refine ⟨_, rfl, ?_⟩; replace BK140 := Aside0.mk (bkb BK140.out hb); replace BK141 := Aside0.mk (bkb BK141.out hb); replace BK142 := Aside0.mk (bkb BK142.out hb); replace HB := Aside0.mk (bst HB.out hb); (try clear hb); (try clear hb2); (try clear hk); (try clear hi); have hcz37_0 := cz4 BK142.out; have hfz37_0 := blk_frozen BK142.out))
  refine bodyPost_ret (results_ct rfl _ _ gb142 37 #[.int .i64 0, .int .i64 0, .int .i64 0, .int .i64 0] (0, 0) _ rfl (bkt BK142.out) Try.underlying37 rfl (by kernel_rfl)) rfl ?_
  exact bfin (bel HB.out)

end Go.Proofs.Ytmjmdnpenpdmhaa.P
