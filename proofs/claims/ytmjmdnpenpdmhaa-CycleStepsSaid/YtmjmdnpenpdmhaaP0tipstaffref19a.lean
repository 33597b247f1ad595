-- Printed by wip/myprint.py of this repo (over the kit's printer). Not trusted: Lean checks it.
import Derived.Test.YtmjmdnpenpdmhaaP0
import Derived.Test.YtmjmdnpenpdmhaaE37
import Derived.Test.YtmjmdnpenpdmhaaP0tipstaffref18
import Derived.Test.YtmjmdnpenpdmhaaP0tipstaffref18a
import Derived.Test.YtmjmdnpenpdmhaaP0tipstaffref18c
import Derived.Test.YtmjmdnpenpdmhaaP0tipstaffref19
namespace Go.Proofs.Ytmjmdnpenpdmhaa.P
open Go.RowKit Go.Proofs.YtmjmdnpenpdmhaaW.PrintWords Go.Proofs.YtmjmdnpenpdmhaaW.PrintLast Go.Proofs.YtmjmdnpenpdmhaaW.PrintMore
attribute [local go_sem] cell_same1 cell_some1
attribute [local go_sem] max2_int min2_int max_two min_two max_three min_three max_four min_four   -- for this text's walks alone
set_option linter.unusedVariables false
set_option linter.unusedSimpArgs false

attribute [local go_sem high] eqA37
/-! ### ref_Check: function 27 -/
mutual
def ref_Check.j0 : Nat → Int → Int → Int → Int → Int → Int → Int → Bool → Int → Int → Int → Option (Int)
 | 0, _, _, _, _, _, _, _, _, _, _, _ => none
 | k + 1, x5, x6, x316000, x316001, x316002, x316003, x316004, x316005, x317000, x317001, x317002 => if x6 = 0 then (if x316004 < 0 then (ref_Check.j1 k x5 true x316000 x316001 x316002 x316003 x316004 x316005 x317000 x317001 x317002) else (ref_Check.j1 k x5 (decide (x316004 > x5)) x316000 x316001 x316002 x316003 x316004 x316005 x317000 x317001 x317002)) else (some x6)
def ref_Check.j1 : Nat → Int → Bool → Int → Int → Int → Int → Int → Bool → Int → Int → Int → Option (Int)
 | 0, _, _, _, _, _, _, _, _, _, _, _ => none
 | k + 1, x5, x34, x316000, x316001, x316002, x316003, x316004, x316005, x317000, x317001, x317002 => if x34 = true then (some 2) else ((ref_Begin.f k x317000 x317001 x317002 true).bind fun bt320 => ((r18_Rest.f k x316000 x316001 x316002 x316003 x317000 x317001 x317002).bind fun bt328 => (if x316005 = true then (if x316000 = 0 then (if bt328.2.1 > (wrap64 (x5 - x316004)) then (some 3) else (some 0)) else (some 3)) else (if x316004 = 0 then (if (!(x316000 == bt320.1) || (!(x316001 == bt320.2.1) || (!(x316002 == bt320.2.2.1) || (!(x316003 == bt320.2.2.2.1))))) = true then (some 3) else (if bt328.2.1 > (wrap64 (x5 - x316004)) then (some 3) else (some 0))) else (if bt328.2.1 > (wrap64 (x5 - x316004)) then (some 3) else (some 0))))))
end
def ref_Check.f (k : Nat) (a0_0 : Int) (a0_1 : Int) (a0_2 : Int) (a0_3 : Int) (a0_4 : Int) (a0_5 : Bool) (a1_0 : Int) (a1_1 : Int) (a1_2 : Int) : Option (Int) := (r18_Worst.f a1_0 a1_1 a1_2).bind fun bt317 => (if bt317.2 = 0 then ((r18_Check.f k a0_0 a0_1 a0_2 a0_3 a1_0 a1_1 a1_2).bind fun t319 => (ref_Check.j0 k bt317.1 t319 a0_0 a0_1 a0_2 a0_3 a0_4 a0_5 a1_0 a1_1 a1_2)) else (ref_Check.j0 k bt317.1 bt317.2 a0_0 a0_1 a0_2 a0_3 a0_4 a0_5 a1_0 a1_1 a1_2))
theorem ref_Check.mono_l : ∀ k, (∀ y0 y1 y2 y3 y4 y5 y6 y7 y8 y9 y10, LeO (ref_Check.j0 k y0 y1 y2 y3 y4 y5 y6 y7 y8 y9 y10) (ref_Check.j0 (k + 1) y0 y1 y2 y3 y4 y5 y6 y7 y8 y9 y10)) ∧ (∀ y0 y1 y2 y3 y4 y5 y6 y7 y8 y9 y10, LeO (ref_Check.j1 k y0 y1 y2 y3 y4 y5 y6 y7 y8 y9 y10) (ref_Check.j1 (k + 1) y0 y1 y2 y3 y4 y5 y6 y7 y8 y9 y10))
 | 0 => ⟨fun _ _ _ _ _ _ _ _ _ _ _ r h => by simp [ref_Check.j0] at h, fun _ _ _ _ _ _ _ _ _ _ _ r h => by simp [ref_Check.j1] at h⟩
 | k + 1 => by
  obtain ⟨ih0, ih1⟩ := ref_Check.mono_l k
  refine ⟨?_, ?_⟩
  ·intro y0 y1 y2 y3 y4 y5 y6 y7 y8 y9 y10
   unfold ref_Check.j0
   repeat' first
   | (with_reducible exact ih0 _ _ _ _ _ _ _ _ _ _ _)
   | (with_reducible exact ih1 _ _ _ _ _ _ _ _ _ _ _)
   | (with_reducible exact r18_Check.mono _ _ _ _ _ _ _ _)
   | (with_reducible exact r18_Rest.mono _ _ _ _ _ _ _ _)
   | (with_reducible exact ref_Begin.mono _ _ _ _ _)
   | (with_reducible exact LeO.refl _)
   | (with_reducible exact LeO.none _)
   | (with_reducible refine LeO.ite ?_ ?_)
   | (with_reducible refine LeO.bind ?_ (fun _ => ?_))
   | exact ih0 _ _ _ _ _ _ _ _ _ _ _
   | exact ih1 _ _ _ _ _ _ _ _ _ _ _
   | exact r18_Check.mono _ _ _ _ _ _ _ _
   | exact r18_Rest.mono _ _ _ _ _ _ _ _
   | exact ref_Begin.mono _ _ _ _ _
   | exact LeO.none _
   | refine LeO.ite ?_ ?_
   | refine LeO.bind ?_ (fun _ => ?_)
  ·intro y0 y1 y2 y3 y4 y5 y6 y7 y8 y9 y10
   unfold ref_Check.j1
   repeat' first
   | (with_reducible exact ih0 _ _ _ _ _ _ _ _ _ _ _)
   | (with_reducible exact ih1 _ _ _ _ _ _ _ _ _ _ _)
   | (with_reducible exact r18_Check.mono _ _ _ _ _ _ _ _)
   | (with_reducible exact r18_Rest.mono _ _ _ _ _ _ _ _)
   | (with_reducible exact ref_Begin.mono _ _ _ _ _)
   | (with_reducible exact LeO.refl _)
   | (with_reducible exact LeO.none _)
   | (with_reducible refine LeO.ite ?_ ?_)
   | (with_reducible refine LeO.bind ?_ (fun _ => ?_))
   | exact ih0 _ _ _ _ _ _ _ _ _ _ _
   | exact ih1 _ _ _ _ _ _ _ _ _ _ _
   | exact r18_Check.mono _ _ _ _ _ _ _ _
   | exact r18_Rest.mono _ _ _ _ _ _ _ _
   | exact ref_Begin.mono _ _ _ _ _
   | exact LeO.none _
   | refine LeO.ite ?_ ?_
   | refine LeO.bind ?_ (fun _ => ?_)
theorem ref_Check.mono : ∀ a0 a1 a2 a3 a4 a5 a6 a7 a8 k, LeO (ref_Check.f k a0 a1 a2 a3 a4 a5 a6 a7 a8) (ref_Check.f (k + 1) a0 a1 a2 a3 a4 a5 a6 a7 a8) := by
 intro a0 a1 a2 a3 a4 a5 a6 a7 a8 k
 obtain ⟨ih0, ih1⟩ := ref_Check.mono_l k
 unfold ref_Check.f
 repeat' first
   | (with_reducible exact ih0 _ _ _ _ _ _ _ _ _ _ _)
   | (with_reducible exact ih1 _ _ _ _ _ _ _ _ _ _ _)
   | (with_reducible exact r18_Check.mono _ _ _ _ _ _ _ _)
   | (with_reducible exact r18_Rest.mono _ _ _ _ _ _ _ _)
   | (with_reducible exact ref_Begin.mono _ _ _ _ _)
   | (with_reducible exact LeO.refl _)
   | (with_reducible exact LeO.none _)
   | (with_reducible refine LeO.ite ?_ ?_)
   | (with_reducible refine LeO.bind ?_ (fun _ => ?_))
   | exact ih0 _ _ _ _ _ _ _ _ _ _ _
   | exact ih1 _ _ _ _ _ _ _ _ _ _ _
   | exact r18_Check.mono _ _ _ _ _ _ _ _
   | exact r18_Rest.mono _ _ _ _ _ _ _ _
   | exact ref_Begin.mono _ _ _ _ _
   | exact LeO.none _
   | refine LeO.ite ?_ ?_
   | refine LeO.bind ?_ (fun _ => ?_)
set_option maxHeartbeats 8000000 in
set_option maxRecDepth 100000 in
theorem ref_Check.calls (k : Nat) (a0_0 : Int) (a0_1 : Int) (a0_2 : Int) (a0_3 : Int) (a0_4 : Int) (a0_5 : Bool) (a1_0 : Int) (a1_1 : Int) (a1_2 : Int) (r : Int) (w : World) (h : ref_Check.f k a0_0 a0_1 a0_2 a0_3 a0_4 a0_5 a1_0 a1_1 a1_2 = some r) :
  Calls Try.prog 27 #[.agg #[.int .i64 a0_0, .int .i64 a0_1, .int .i64 a0_2, .int .i64 a0_3, .int .i64 a0_4, .bool a0_5], .agg #[.int .i64 a1_0, .int .i64 a1_1, .int .i64 a1_2]] w fun e w' => e = .returned (.int .i64 r) ∧ Below w.heap.size w w' := by
 have hu39 := Try.underlying39
 have hu23 := Try.underlying23
 have hu37 := Try.underlying37
 have HB := Aside0.mk (Below.refl w.heap.size w)
 have H : ((r18_Worst.f a1_0 a1_1 a1_2).bind fun bt317 => (if bt317.2 = 0 then ((r18_Check.f k a0_0 a0_1 a0_2 a0_3 a1_0 a1_1 a1_2).bind fun t319 => (ref_Check.j0 k bt317.1 t319 a0_0 a0_1 a0_2 a0_3 a0_4 a0_5 a1_0 a1_1 a1_2)) else (ref_Check.j0 k bt317.1 bt317.2 a0_0 a0_1 a0_2 a0_3 a0_4 a0_5 a1_0 a1_1 a1_2))) = some r := h
 clear h
 replace H := Option.bind_eq_some_iff.mp H
 obtain ⟨⟨t317, t318⟩, A30, H⟩ := H
 replace H : (if t318 = 0 then ((r18_Check.f k a0_0 a0_1 a0_2 a0_3 a1_0 a1_1 a1_2).bind fun t319 => (ref_Check.j0 k t317 t319 a0_0 a0_1 a0_2 a0_3 a0_4 a0_5 a1_0 a1_1 a1_2)) else (ref_Check.j0 k t317 t318 a0_0 a0_1 a0_2 a0_3 a0_4 a0_5 a1_0 a1_1 a1_2)) = some r := H
 have A3 := Aside0.mk A30
 clear A30
 have HC4 := Aside0.mk H
 clear H
 go_enter Try.func27, Try.ntmps27
 go_upto_if 18 with (first | ((with_reducible refine gate_dst (N := 2) rfl ?_); refine bxe (cs := #[.int .i64 a0_0, .int .i64 a0_1, .int .i64 a0_2, .int .i64 a0_3, .int .i64 a0_4, .bool a0_5]) (t := 39) ?_; intro gb315 hg w5 hbox hb; have BK315 := Aside0.mk (hbox); have GW315 := Aside0.mk (bge hg HB.out); have GE315 := Aside0.mk (bge hg HB.out); replace HB := Aside0.mk (bst HB.out hb); clear hb hbox hg) | ((with_reducible refine gate_dst (N := 3) rfl ?_); refine bxe (cs := #[.int .i64 a1_0, .int .i64 a1_1, .int .i64 a1_2]) (t := 23) ?_; intro gb316 hg w6 hbox hb; have BK316 := Aside0.mk (hbox); have GW316 := Aside0.mk (bge hg HB.out); have GE316 := Aside0.mk (bge hg HB.out); have NB315_316 := Aside0.mk ((bkl hg BK315.out)); have NB316_315 := Aside0.mk ((bkg hg BK315.out)); replace BK315 := Aside0.mk (bkb BK315.out hb); replace HB := Aside0.mk (bst HB.out hb); clear hb hbox hg; have hnb7 := NB316_315.out; have hnc7 := NB315_316.out; have hcz8_0 := cz3 BK316.out; have hfz8_0 := blk_frozen BK316.out) | ((with_reducible refine gate_callee (f := 42) rfl ?_); refine gsl (some 14) Try.func42 #[.agg #[.int .i64 a1_0, .int .i64 a1_1, .int .i64 a1_2]] ?_; (with_reducible refine (r18_Worst.calls a1_0 a1_1 a1_2 t317 t318 _ A3.out).mono ?_); rintro e w9 ⟨rfl, hb⟩; refine ⟨_, rfl, ?_⟩; replace BK315 := Aside0.mk (bkb BK315.out hb); replace BK316 := Aside0.mk (bkb BK316.out hb); replace HB := Aside0.mk (bst HB.out hb); (try clear hb); (try clear hb2); (try clear hk); (try clear hi)))
 (try simp only [Act.put, List.setIfInBounds_toArray, List.set_cons_zero, List.set_cons_succ])
 go_cut [6] (fun v6 wc => ∃ (kq : Nat) (x6_3 : Int), v6 = .int .i64 x6_3 ∧ Aside0 (ref_Check.j0 kq t317 x6_3 a0_0 a0_1 a0_2 a0_3 a0_4 a0_5 a1_0 a1_1 a1_2 = some r) ∧ Aside0 (kq ≤ k) ∧ Aside0 (wc.heap[gb315]? = some (.cells #[.int .i64 a0_0, .int .i64 a0_1, .int .i64 a0_2, .int .i64 a0_3, .int .i64 a0_4, .bool a0_5] 39 (0, 0))) ∧ Aside0 (wc.heap[gb316]? = some (.cells #[.int .i64 a1_0, .int .i64 a1_1, .int .i64 a1_2] 23 (0, 0))) ∧ Aside0 (Below w.heap.size w wc))
 case first =>
  have H := HC4.out
  clear HC4
  by_cases c10 : t318 = 0
  ·rw [if_pos c10] at H
   have c10b0 : (t318 == 0) = true := beq_iff_eq.mpr c10
   have c10b1 : (t318 != 0) = false := bne_eq_false_iff_eq.mpr c10
   clear c10
   (first | rw [c10b0] | (simp only [i64_w, i32_w]; rw [c10b0]) | skip)
   replace H := Option.bind_eq_some_iff.mp H
   obtain ⟨t319, A110, H⟩ := H
   replace H : (ref_Check.j0 k t317 t319 a0_0 a0_1 a0_2 a0_3 a0_4 a0_5 a1_0 a1_1 a1_2) = some r := H
   have A11 := Aside0.mk A110
   clear A110
   have H' := Aside0.mk H
   clear H
   have hnb12 := NB315_316.out
   have hnc12 := NB316_315.out
   have hcz13_0 := cz6 BK315.out
   have hfz13_0 := blk_frozen BK315.out
   have hcz14_0 := cz3 BK316.out
   have hfz14_0 := blk_frozen BK316.out
   go_wp2_with (first | ((with_reducible refine gate_callee (f := 43) rfl ?_); refine gsl (some 22) Try.func43 #[.agg #[.int .i64 a0_0, .int .i64 a0_1, .int .i64 a0_2, .int .i64 a0_3], .agg #[.int .i64 a1_0, .int .i64 a1_1, .int .i64 a1_2]] ?_; (with_reducible refine (r18_Check.calls k a0_0 a0_1 a0_2 a0_3 a1_0 a1_1 a1_2 t319 _ A11.out).mono ?_); rintro e w15 ⟨rfl, hb⟩; refine ⟨_, rfl, ?_⟩; replace BK315 := Aside0.mk (bkb BK315.out hb); replace BK316 := Aside0.mk (bkb BK316.out hb); replace HB := Aside0.mk (bst HB.out hb); (try clear hb); (try clear hb2); (try clear hk); (try clear hi)))
   go_meet
   case rel => exact ⟨_, (t319), (by first | rfl | (simp; done) | (simp [*]; done)), H', ⟨by first | omega | exact Nat.le_refl _⟩, ⟨bkt BK315.out⟩, ⟨bkt BK316.out⟩, ⟨bel HB.out⟩⟩
  ·rw [if_neg c10] at H
   have c10b0 : (t318 == 0) = false := beq_eq_false_iff_ne.mpr c10
   have c10b1 : (t318 != 0) = true := bne_iff_ne.mpr c10
   (first | rw [c10b0] | (simp only [i64_w, i32_w]; rw [c10b0]) | skip)
   have H' := Aside0.mk H
   clear H
   go_wp2
   go_meet
   case rel => exact ⟨_, (t318), (by first | rfl | (simp; done) | (simp [*]; done)), H', ⟨by first | omega | exact Nat.le_refl _⟩, ⟨bkt BK315.out⟩, ⟨bkt BK316.out⟩, ⟨bel HB.out⟩⟩
 case rest =>
  clear HC4
  try clear c1
  try clear c2
  try clear p2
  try clear c4
  try clear c7
  try clear c10
  try clear c10b0
  try clear c10b1
  try clear c12
  try clear hcz13_0
  try clear hcz14_0
  try clear hcz8_0
  try clear hfz13_0
  try clear hfz14_0
  try clear hfz8_0
  obtain ⟨kq, x6_3, rfl, HA, HJ3, BK315, BK316, HB⟩ := hcut
  cases kq with
  | zero => exact absurd HA.out (by simp [ref_Check.j0])
  | succ kj3 =>
   have H := HA.out
   clear HA
   simp only [ref_Check.j0] at H
   by_cases c16 : x6_3 = 0
   ·rw [if_pos c16] at H
    have c16b0 : (x6_3 == 0) = true := beq_iff_eq.mpr c16
    have c16b1 : (x6_3 != 0) = false := bne_eq_false_iff_eq.mpr c16
    clear c16
    have HC17 := Aside0.mk H
    clear H
    go_upto_region 6 with (fail)
    go_cut [34] (fun v34 wc => ∃ (kq : Nat) (x34_16 : Bool), v34 = .bool x34_16 ∧ Aside0 (ref_Check.j1 kq t317 x34_16 a0_0 a0_1 a0_2 a0_3 a0_4 a0_5 a1_0 a1_1 a1_2 = some r) ∧ Aside0 (kq ≤ kj3) ∧ Aside0 (wc.heap[gb315]? = some (.cells #[.int .i64 a0_0, .int .i64 a0_1, .int .i64 a0_2, .int .i64 a0_3, .int .i64 a0_4, .bool a0_5] 39 (0, 0))) ∧ Aside0 (wc.heap[gb316]? = some (.cells #[.int .i64 a1_0, .int .i64 a1_1, .int .i64 a1_2] 23 (0, 0))) ∧ Aside0 (Below w.heap.size w wc))
    case first =>
     have H := HC17.out
     clear HC17
     by_cases c18 : a0_4 < 0
     ·rw [if_pos c18] at H
      have c18b0 : decide (a0_4 < 0) = true := decide_eq_true c18
      clear c18
      (first | rw [c18b0] | (simp only [i64_w, i32_w]; rw [c18b0]) | skip)
      have H' := Aside0.mk H
      clear H
      have hnb19 := NB315_316.out
      have hnc19 := NB316_315.out
      have hcz20_0 := cz6 BK315.out
      have hfz20_0 := blk_frozen BK315.out
      go_wp2
      go_meet
      case rel => exact ⟨_, (true), (by first | rfl | (simp; done) | (simp [*]; done)), H', ⟨by have := HJ3.out; first | omega | exact Nat.le_refl _⟩, ⟨bkt BK315.out⟩, ⟨bkt BK316.out⟩, ⟨bel HB.out⟩⟩
     ·rw [if_neg c18] at H
      have c18b0 : decide (a0_4 < 0) = false := decide_eq_false c18
      clear c18
      (first | rw [c18b0] | (simp only [i64_w, i32_w]; rw [c18b0]) | skip)
      have H' := Aside0.mk H
      clear H
      have hnb21 := NB315_316.out
      have hnc21 := NB316_315.out
      have hcz22_0 := cz6 BK315.out
      have hfz22_0 := blk_frozen BK315.out
      go_wp2
      go_meet
      case rel => exact ⟨_, (decide (a0_4 > t317)), (by first | rfl | (simp; done) | (simp [*]; done)), H', ⟨by have := HJ3.out; first | omega | exact Nat.le_refl _⟩, ⟨bkt BK315.out⟩, ⟨bkt BK316.out⟩, ⟨bel HB.out⟩⟩
    case rest =>
     clear HC17
     try clear c1
     try clear c2
     try clear p2
     try clear c4
     try clear c7
     try clear c10
     try clear c10b0
     try clear c10b1
     try clear c12
     try clear c16
     try clear c16b0
     try clear c16b1
     try clear c18
     try clear c18b0
     try clear c19
     try clear c21
     try clear hcz13_0
     try clear hcz14_0
     try clear hcz20_0
     try clear hcz22_0
     try clear hcz8_0
     try clear hfz13_0
     try clear hfz14_0
     try clear hfz20_0
     try clear hfz22_0
     try clear hfz8_0
     try clear p2
     obtain ⟨kq, x34_16, rfl, HA, HJ16, BK315, BK316, HB⟩ := hcut
     cases kq with
     | zero => exact absurd HA.out (by simp [ref_Check.j1])
     | succ kj16 =>
      have H := HA.out
      clear HA
      simp only [ref_Check.j1] at H
      by_cases c23 : x34_16 = true
      ·subst c23
       have H1 : (some 2) = some r := by rw [if_pos rfl] at H; exact H
       clear H
       have H := H1
       clear H1
       obtain rfl := Option.some.inj H
       go_wp2
       go_ret
       exact bfin (bel HB.out)
      ·replace c23 := Bool.eq_false_iff.mpr c23
       subst c23
       have H1 : ((ref_Begin.f kj16 a1_0 a1_1 a1_2 true).bind fun bt320 => ((r18_Rest.f kj16 a0_0 a0_1 a0_2 a0_3 a1_0 a1_1 a1_2).bind fun bt328 => (if a0_5 = true then (if a0_0 = 0 then (if bt328.2.1 > (wrap64 (t317 - a0_4)) then (some 3) else (some 0)) else (some 3)) else (if a0_4 = 0 then (if (!(a0_0 == bt320.1) || (!(a0_1 == bt320.2.1) || (!(a0_2 == bt320.2.2.1) || (!(a0_3 == bt320.2.2.2.1))))) = true then (some 3) else (if bt328.2.1 > (wrap64 (t317 - a0_4)) then (some 3) else (some 0))) else (if bt328.2.1 > (wrap64 (t317 - a0_4)) then (some 3) else (some 0)))))) = some r := by rw [if_neg (show ¬ (false = true) by decide)] at H; exact H
       clear H
       have H := H1
       clear H1
       replace H := Option.bind_eq_some_iff.mp H
       obtain ⟨⟨t320, t321, t322, t323, t324, t325, t326⟩, A240, H⟩ := H
       replace H : ((r18_Rest.f kj16 a0_0 a0_1 a0_2 a0_3 a1_0 a1_1 a1_2).bind fun bt328 => (if a0_5 = true then (if a0_0 = 0 then (if bt328.2.1 > (wrap64 (t317 - a0_4)) then (some 3) else (some 0)) else (some 3)) else (if a0_4 = 0 then (if (!(a0_0 == t320) || (!(a0_1 == t321) || (!(a0_2 == t322) || (!(a0_3 == t323))))) = true then (some 3) else (if bt328.2.1 > (wrap64 (t317 - a0_4)) then (some 3) else (some 0))) else (if bt328.2.1 > (wrap64 (t317 - a0_4)) then (some 3) else (some 0))))) = some r := H
       have A24 := Aside0.mk A240
       clear A240
       replace H := Option.bind_eq_some_iff.mp H
       obtain ⟨⟨t328, t329, t330⟩, A250, H⟩ := H
       replace H : (if a0_5 = true then (if a0_0 = 0 then (if t329 > (wrap64 (t317 - a0_4)) then (some 3) else (some 0)) else (some 3)) else (if a0_4 = 0 then (if (!(a0_0 == t320) || (!(a0_1 == t321) || (!(a0_2 == t322) || (!(a0_3 == t323))))) = true then (some 3) else (if t329 > (wrap64 (t317 - a0_4)) then (some 3) else (some 0))) else (if t329 > (wrap64 (t317 - a0_4)) then (some 3) else (some 0)))) = some r := H
       have A25 := Aside0.mk A250
       clear A250
       by_cases c26 : a0_5 = true
       ·subst c26
        have H1 : (if a0_0 = 0 then (if t329 > (wrap64 (t317 - a0_4)) then (some 3) else (some 0)) else (some 3)) = some r := by rw [if_pos rfl] at H; exact H
        clear H
        have H := H1
        clear H1
        by_cases c27 : a0_0 = 0
        ·rw [if_pos c27] at H
         have c27b0 : (a0_0 == 0) = true := beq_iff_eq.mpr c27
         have c27b1 : (a0_0 != 0) = false := bne_eq_false_iff_eq.mpr c27
         clear c27
         by_cases c28 : t329 > (wrap64 (t317 - a0_4))
         ·rw [if_pos c28] at H
          have c28b0 : decide ((wrap64 (t317 - a0_4)) < t329) = true := decide_eq_true c28
          clear c28
          obtain rfl := Option.some.inj H
          have hnb29 := NB316_315.out
          have hnc29 := NB315_316.out
          have hcz30_0 := cz3 BK316.out
          have hfz30_0 := blk_frozen BK316.out
          go_wp2_with (first | ((with_reducible refine gate_callee (f := 26) rfl ?_); refine gsl (some 37) Try.func26 #[.agg #[.int .i64 a1_0, .int .i64 a1_1, .int .i64 a1_2], .bool true] ?_; (with_reducible refine (ref_Begin.calls kj16 a1_0 a1_1 a1_2 true t320 t321 t322 t323 t324 t325 t326 _ A24.out).mono ?_); rintro e w31 ⟨rfl, hb⟩; refine ⟨_, rfl, ?_⟩; replace BK315 := Aside0.mk (bkb BK315.out hb); replace BK316 := Aside0.mk (bkb BK316.out hb); replace HB := Aside0.mk (bst HB.out hb); (try clear hb); (try clear hb2); (try clear hk); (try clear hi)) | ((with_reducible refine gate_dst (N := 7) rfl ?_); refine bxe (cs := #[.int .i64 0, .int .i64 0, .int .i64 0, .int .i64 0, .int .i64 0, .bool false]) (t := 39) ?_; intro gb327 hg w32 hbox hb; have BK327 := Aside0.mk (hbox); have GW327 := Aside0.mk (bge hg HB.out); have GE327 := Aside0.mk (bge hg HB.out); have NB315_327 := Aside0.mk ((bkl hg BK315.out)); have NB327_315 := Aside0.mk ((bkg hg BK315.out)); have NB316_327 := Aside0.mk ((bkl hg BK316.out)); have NB327_316 := Aside0.mk ((bkg hg BK316.out)); replace BK315 := Aside0.mk (bkb BK315.out hb); replace BK316 := Aside0.mk (bkb BK316.out hb); replace HB := Aside0.mk (bst HB.out hb); clear hb hbox hg; have hnb33 := NB327_315.out; have hnc33 := NB315_327.out; have hnb34 := NB327_316.out; have hnc34 := NB316_327.out; have hcz35_0 := cz6 BK327.out; have hfz35_0 := blk_frozen BK327.out; have hcz36_0 := cz6 BK315.out; have hfz36_0 := blk_frozen BK315.out; have hcz37_0 := cz3 BK316.out; have hfz37_0 := blk_frozen BK316.out) | ((with_reducible refine gate_callee (f := 44) rfl ?_); refine gsl (some 44) Try.func44 #[.agg #[.int .i64 a0_0, .int .i64 a0_1, .int .i64 a0_2, .int .i64 a0_3], .agg #[.int .i64 a1_0, .int .i64 a1_1, .int .i64 a1_2]] ?_; (with_reducible refine (r18_Rest.calls kj16 a0_0 a0_1 a0_2 a0_3 a1_0 a1_1 a1_2 t328 t329 t330 _ A25.out).mono ?_); rintro e w38 ⟨rfl, hb⟩; refine ⟨_, rfl, ?_⟩; replace BK315 := Aside0.mk (bkb BK315.out hb); replace BK316 := Aside0.mk (bkb BK316.out hb); replace BK327 := Aside0.mk (blk_below (g := gb327) (o := .cells #[.int .i64 t320, .int .i64 t321, .int .i64 t322, .int .i64 t323, .int .i64 t324, .bool t325] 39 (0, 0)) (bkt BK327.out) hb); replace HB := Aside0.mk (bst HB.out hb); (try clear hb); (try clear hb2); (try clear hk); (try clear hi); have hcz39_0 := cz6 BK315.out; have hfz39_0 := blk_frozen BK315.out))
          go_ret
          exact bfin (bel HB.out)
         ·rw [if_neg c28] at H
          have c28b0 : decide ((wrap64 (t317 - a0_4)) < t329) = false := decide_eq_false c28
          clear c28
          obtain rfl := Option.some.inj H
          have hnb40 := NB316_315.out
          have hnc40 := NB315_316.out
          have hcz41_0 := cz3 BK316.out
          have hfz41_0 := blk_frozen BK316.out
          go_wp2_with (first | ((with_reducible refine gate_callee (f := 26) rfl ?_); refine gsl (some 37) Try.func26 #[.agg #[.int .i64 a1_0, .int .i64 a1_1, .int .i64 a1_2], .bool true] ?_; (with_reducible refine (ref_Begin.calls kj16 a1_0 a1_1 a1_2 true t320 t321 t322 t323 t324 t325 t326 _ A24.out).mono ?_); rintro e w42 ⟨rfl, hb⟩; refine ⟨_, rfl, ?_⟩; replace BK315 := Aside0.mk (bkb BK315.out hb); replace BK316 := Aside0.mk (bkb BK316.out hb); replace HB := Aside0.mk (bst HB.out hb); (try clear hb); (try clear hb2); (try clear hk); (try clear hi)) | ((with_reducible refine gate_dst (N := 7) rfl ?_); refine bxe (cs := #[.int .i64 0, .int .i64 0, .int .i64 0, .int .i64 0, .int .i64 0, .bool false]) (t := 39) ?_; intro gb327 hg w43 hbox hb; have BK327 := Aside0.mk (hbox); have GW327 := Aside0.mk (bge hg HB.out); have GE327 := Aside0.mk (bge hg HB.out); have NB315_327 := Aside0.mk ((bkl hg BK315.out)); have NB327_315 := Aside0.mk ((bkg hg BK315.out)); have NB316_327 := Aside0.mk ((bkl hg BK316.out)); have NB327_316 := Aside0.mk ((bkg hg BK316.out)); replace BK315 := Aside0.mk (bkb BK315.out hb); replace BK316 := Aside0.mk (bkb BK316.out hb); replace HB := Aside0.mk (bst HB.out hb); clear hb hbox hg; have hnb44 := NB327_315.out; have hnc44 := NB315_327.out; have hnb45 := NB327_316.out; have hnc45 := NB316_327.out; have hcz46_0 := cz6 BK327.out; have hfz46_0 := blk_frozen BK327.out; have hcz47_0 := cz6 BK315.out; have hfz47_0 := blk_frozen BK315.out; have hcz48_0 := cz3 BK316.out; have hfz48_0 := blk_frozen BK316.out) | ((with_reducible refine gate_callee (f := 44) rfl ?_); refine gsl (some 44) Try.func44 #[.agg #[.int .i64 a0_0, .int .i64 a0_1, .int .i64 a0_2, .int .i64 a0_3], .agg #[.int .i64 a1_0, .int .i64 a1_1, .int .i64 a1_2]] ?_; (with_reducible refine (r18_Rest.calls kj16 a0_0 a0_1 a0_2 a0_3 a1_0 a1_1 a1_2 t328 t329 t330 _ A25.out).mono ?_); rintro e w49 ⟨rfl, hb⟩; refine ⟨_, rfl, ?_⟩; replace BK315 := Aside0.mk (bkb BK315.out hb); replace BK316 := Aside0.mk (bkb BK316.out hb); replace BK327 := Aside0.mk (blk_below (g := gb327) (o := .cells #[.int .i64 t320, .int .i64 t321, .int .i64 t322, .int .i64 t323, .int .i64 t324, .bool t325] 39 (0, 0)) (bkt BK327.out) hb); replace HB := Aside0.mk (bst HB.out hb); (try clear hb); (try clear hb2); (try clear hk); (try clear hi); have hcz50_0 := cz6 BK315.out; have hfz50_0 := blk_frozen BK315.out))
          go_ret
          exact bfin (bel HB.out)
        ·rw [if_neg c27] at H
         have c27b0 : (a0_0 == 0) = false := beq_eq_false_iff_ne.mpr c27
         have c27b1 : (a0_0 != 0) = true := bne_iff_ne.mpr c27
         obtain rfl := Option.some.inj H
         have hnb51 := NB316_315.out
         have hnc51 := NB315_316.out
         have hcz52_0 := cz3 BK316.out
         have hfz52_0 := blk_frozen BK316.out
         go_wp2_with (first | ((with_reducible refine gate_callee (f := 26) rfl ?_); refine gsl (some 37) Try.func26 #[.agg #[.int .i64 a1_0, .int .i64 a1_1, .int .i64 a1_2], .bool true] ?_; (with_reducible refine (ref_Begin.calls kj16 a1_0 a1_1 a1_2 true t320 t321 t322 t323 t324 t325 t326 _ A24.out).mono ?_); rintro e w53 ⟨rfl, hb⟩; refine ⟨_, rfl, ?_⟩; replace BK315 := Aside0.mk (bkb BK315.out hb); replace BK316 := Aside0.mk (bkb BK316.out hb); replace HB := Aside0.mk (bst HB.out hb); (try clear hb); (try clear hb2); (try clear hk); (try clear hi)) | ((with_reducible refine gate_dst (N := 7) rfl ?_); refine bxe (cs := #[.int .i64 0, .int .i64 0, .int .i64 0, .int .i64 0, .int .i64 0, .bool false]) (t := 39) ?_; intro gb327 hg w54 hbox hb; have BK327 := Aside0.mk (hbox); have GW327 := Aside0.mk (bge hg HB.out); have GE327 := Aside0.mk (bge hg HB.out); have NB315_327 := Aside0.mk ((bkl hg BK315.out)); have NB327_315 := Aside0.mk ((bkg hg BK315.out)); have NB316_327 := Aside0.mk ((bkl hg BK316.out)); have NB327_316 := Aside0.mk ((bkg hg BK316.out)); replace BK315 := Aside0.mk (bkb BK315.out hb); replace BK316 := Aside0.mk (bkb BK316.out hb); replace HB := Aside0.mk (bst HB.out hb); clear hb hbox hg; have hnb55 := NB327_315.out; have hnc55 := NB315_327.out; have hnb56 := NB327_316.out; have hnc56 := NB316_327.out; have hcz57_0 := cz6 BK327.out; have hfz57_0 := blk_frozen BK327.out; have hcz58_0 := cz6 BK315.out; have hfz58_0 := blk_frozen BK315.out; have hcz59_0 := cz3 BK316.out; have hfz59_0 := blk_frozen BK316.out) | ((with_reducible refine gate_callee (f := 44) rfl ?_); refine gsl (some 44) Try.func44 #[.agg #[.int .i64 a0_0, .int .i64 a0_1, .int .i64 a0_2, .int .i64 a0_3], .agg #[.int .i64 a1_0, .int .i64 a1_1, .int .i64 a1_2]] ?_; (with_reducible refine (r18_Rest.calls kj16 a0_0 a0_1 a0_2 a0_3 a1_0 a1_1 a1_2 t328 t329 t330 _ A25.out).mono ?_); rintro e w60 ⟨rfl, hb⟩; refine ⟨_, rfl, ?_⟩; replace BK315 := Aside0.mk (bkb BK315.out hb); replace BK316 := Aside0.mk (bkb BK316.out hb); replace BK327 := Aside0.mk (blk_below (g := gb327) (o := .cells #[.int .i64 t320, .int .i64 t321, .int .i64 t322, .int .i64 t323, .int .i64 t324, .bool t325] 39 (0, 0)) (bkt BK327.out) hb); replace HB := Aside0.mk (bst HB.out hb); (try clear hb); (try clear hb2); (try clear hk); (try clear hi); have hcz61_0 := cz6 BK315.out; have hfz61_0 := blk_frozen BK315.out))
         go_ret
         exact bfin (bel HB.out)
       ·replace c26 := Bool.eq_false_iff.mpr c26
        subst c26
        have H1 : (if a0_4 = 0 then (if (!(a0_0 == t320) || (!(a0_1 == t321) || (!(a0_2 == t322) || (!(a0_3 == t323))))) = true then (some 3) else (if t329 > (wrap64 (t317 - a0_4)) then (some 3) else (some 0))) else (if t329 > (wrap64 (t317 - a0_4)) then (some 3) else (some 0))) = some r := by rw [if_neg (show ¬ (false = true) by decide)] at H; exact H
        clear H
        have H := H1
        clear H1
        by_cases c62 : a0_4 = 0
        ·rw [if_pos c62] at H
         have c62b0 : (a0_4 == 0) = true := beq_iff_eq.mpr c62
         have c62b1 : (a0_4 != 0) = false := bne_eq_false_iff_eq.mpr c62
         clear c62
         by_cases c63 : (!(a0_0 == t320) || (!(a0_1 == t321) || (!(a0_2 == t322) || (!(a0_3 == t323))))) = true
         ·rw [if_pos c63] at H
          have c63b0 : (!(a0_0 == t320) || (!(a0_1 == t321) || (!(a0_2 == t322) || (!(a0_3 == t323))))) = true := c63
          clear c63
          obtain rfl := Option.some.inj H
          have hnb64 := NB316_315.out
          have hnc64 := NB315_316.out
          have hcz65_0 := cz3 BK316.out
          have hfz65_0 := blk_frozen BK316.out
          go_wp2_with (first | ((with_reducible refine gate_callee (f := 26) rfl ?_); refine gsl (some 37) Try.func26 #[.agg #[.int .i64 a1_0, .int .i64 a1_1, .int .i64 a1_2], .bool true] ?_; (with_reducible refine (ref_Begin.calls kj16 a1_0 a1_1 a1_2 true t320 t321 t322 t323 t324 t325 t326 _ A24.out).mono ?_); rintro e w66 ⟨rfl, hb⟩; refine ⟨_, rfl, ?_⟩; replace BK315 := Aside0.mk (bkb BK315.out hb); replace BK316 := Aside0.mk (bkb BK316.out hb); replace HB := Aside0.mk (bst HB.out hb); (try clear hb); (try clear hb2); (try clear hk); (try clear hi)) | ((with_reducible refine gate_dst (N := 7) rfl ?_); refine bxe (cs := #[.int .i64 0, .int .i64 0, .int .i64 0, .int .i64 0, .int .i64 0, .bool false]) (t := 39) ?_; intro gb327 hg w67 hbox hb; have BK327 := Aside0.mk (hbox); have GW327 := Aside0.mk (bge hg HB.out); have GE327 := Aside0.mk (bge hg HB.out); have NB315_327 := Aside0.mk ((bkl hg BK315.out)); have NB327_315 := Aside0.mk ((bkg hg BK315.out)); have NB316_327 := Aside0.mk ((bkl hg BK316.out)); have NB327_316 := Aside0.mk ((bkg hg BK316.out)); replace BK315 := Aside0.mk (bkb BK315.out hb); replace BK316 := Aside0.mk (bkb BK316.out hb); replace HB := Aside0.mk (bst HB.out hb); clear hb hbox hg; have hnb68 := NB327_315.out; have hnc68 := NB315_327.out; have hnb69 := NB327_316.out; have hnc69 := NB316_327.out; have hcz70_0 := cz6 BK327.out; have hfz70_0 := blk_frozen BK327.out; have hcz71_0 := cz6 BK315.out; have hfz71_0 := blk_frozen BK315.out; have hcz72_0 := cz3 BK316.out; have hfz72_0 := blk_frozen BK316.out) | ((with_reducible refine gate_callee (f := 44) rfl ?_); refine gsl (some 44) Try.func44 #[.agg #[.int .i64 a0_0, .int .i64 a0_1, .int .i64 a0_2, .int .i64 a0_3], .agg #[.int .i64 a1_0, .int .i64 a1_1, .int .i64 a1_2]] ?_; (with_reducible refine (r18_Rest.calls kj16 a0_0 a0_1 a0_2 a0_3 a1_0 a1_1 a1_2 t328 t329 t330 _ A25.out).mono ?_); rintro e w73 ⟨rfl, hb⟩; refine ⟨_, rfl, ?_⟩; replace BK315 := Aside0.mk (bkb BK315.out hb); replace BK316 := Aside0.mk (bkb BK316.out hb); replace BK327 := Aside0.mk (blk_below (g := gb327) (o := .cells #[.int .i64 t320, .int .i64 t321, .int .i64 t322, .int .i64 t323, .int .i64 t324, .bool t325] 39 (0, 0)) (bkt BK327.out) hb); replace HB := Aside0.mk (bst HB.out hb); (try clear hb); (try clear hb2); (try clear hk); (try clear hi); have hcz74_0 := cz6 BK315.out; have hfz74_0 := blk_frozen BK315.out; have hcz75_0 := cz6 BK327.out; have hfz75_0 := blk_frozen BK327.out))
          go_ret
          exact bfin (bel HB.out)
         ·rw [if_neg c63] at H
          have c63b0 : (!(a0_0 == t320) || (!(a0_1 == t321) || (!(a0_2 == t322) || (!(a0_3 == t323))))) = false := by simpa using c63
          clear c63
          by_cases c76 : t329 > (wrap64 (t317 - a0_4))
          ·rw [if_pos c76] at H
           have c76b0 : decide ((wrap64 (t317 - a0_4)) < t329) = true := decide_eq_true c76
           clear c76
           obtain rfl := Option.some.inj H
           have hnb77 := NB316_315.out
           have hnc77 := NB315_316.out
           have hcz78_0 := cz3 BK316.out
           have hfz78_0 := blk_frozen BK316.out
           go_wp2_with (first | ((with_reducible refine gate_callee (f := 26) rfl ?_); refine gsl (some 37) Try.func26 #[.agg #[.int .i64 a1_0, .int .i64 a1_1, .int .i64 a1_2], .bool true] ?_; (with_reducible refine (ref_Begin.calls kj16 a1_0 a1_1 a1_2 true t320 t321 t322 t323 t324 t325 t326 _ A24.out).mono ?_); rintro e w79 ⟨rfl, hb⟩; refine ⟨_, rfl, ?_⟩; replace BK315 := Aside0.mk (bkb BK315.out hb); replace BK316 := Aside0.mk (bkb BK316.out hb); replace HB := Aside0.mk (bst HB.out hb); (try clear hb); (try clear hb2); (try clear hk); (try clear hi)) | ((with_reducible refine gate_dst (N := 7) rfl ?_); refine bxe (cs := #[.int .i64 0, .int .i64 0, .int .i64 0, .int .i64 0, .int .i64 0, .bool false]) (t := 39) ?_; intro gb327 hg w80 hbox hb; have BK327 := Aside0.mk (hbox); have GW327 := Aside0.mk (bge hg HB.out); have GE327 := Aside0.mk (bge hg HB.out); have NB315_327 := Aside0.mk ((bkl hg BK315.out)); have NB327_315 := Aside0.mk ((bkg hg BK315.out)); have NB316_327 := Aside0.mk ((bkl hg BK316.out)); have NB327_316 := Aside0.mk ((bkg hg BK316.out)); replace BK315 := Aside0.mk (bkb BK315.out hb); replace BK316 := Aside0.mk (bkb BK316.out hb); replace HB := Aside0.mk (bst HB.out hb); clear hb hbox hg; have hnb81 := NB327_315.out; have hnc81 := NB315_327.out; have hnb82 := NB327_316.out; have hnc82 := NB316_327.out; have hcz83_0 := cz6 BK327.out; have hfz83_0 := blk_frozen BK327.out; have hcz84_0 := cz6 BK315.out; have hfz84_0 := blk_frozen BK315.out; have hcz85_0 := cz3 BK316.out; have hfz85_0 := blk_frozen BK316.out) | ((with_reducible refine gate_callee (f := 44) rfl ?_); refine gsl (some 44) Try.func44 #[.agg #[.int .i64 a0_0, .int .i64 a0_1, .int .i64 a0_2, .int .i64 a0_3], .agg #[.int .i64 a1_0, .int .i64 a1_1, .int .i64 a1_2]] ?_; (with_reducible refine (r18_Rest.calls kj16 a0_0 a0_1 a0_2 a0_3 a1_0 a1_1 a1_2 t328 t329 t330 _ A25.out).mono ?_); rintro e w86 ⟨rfl, hb⟩; refine ⟨_, rfl, ?_⟩; replace BK315 := Aside0.mk (bkb BK315.out hb); replace BK316 := Aside0.mk (bkb BK316.out hb); replace BK327 := Aside0.mk (blk_below (g := gb327) (o := .cells #[.int .i64 t320, .int .i64 t321, .int .i64 t322, .int .i64 t323, .int .i64 t324, .bool t325] 39 (0, 0)) (bkt BK327.out) hb); replace HB := Aside0.mk (bst HB.out hb); (try clear hb); (try clear hb2); (try clear hk); (try clear hi); have hcz87_0 := cz6 BK315.out; have hfz87_0 := blk_frozen BK315.out; have hcz88_0 := cz6 BK327.out; have hfz88_0 := blk_frozen BK327.out))
           go_ret
           exact bfin (bel HB.out)
          ·rw [if_neg c76] at H
           have c76b0 : decide ((wrap64 (t317 - a0_4)) < t329) = false := decide_eq_false c76
           clear c76
           obtain rfl := Option.some.inj H
           have hnb89 := NB316_315.out
           have hnc89 := NB315_316.out
           have hcz90_0 := cz3 BK316.out
           have hfz90_0 := blk_frozen BK316.out
           go_wp2_with (first | ((with_reducible refine gate_callee (f := 26) rfl ?_); refine gsl (some 37) Try.func26 #[.agg #[.int .i64 a1_0, .int .i64 a1_1, .int .i64 a1_2], .bool true] ?_; (with_reducible refine (ref_Begin.calls kj16 a1_0 a1_1 a1_2 true t320 t321 t322 t323 t324 t325 t326 _ A24.out).mono ?_); rintro e w91 ⟨rfl, hb⟩; refine ⟨_, rfl, ?_⟩; replace BK315 := Aside0.mk (bkb BK315.out hb); replace BK316 := Aside0.mk (bkb BK316.out hb); replace HB := Aside0.mk (bst HB.out hb); (try clear hb); (try clear hb2); (try clear hk); (try clear hi)) | ((with_reducible refine gate_dst (N := 7) rfl ?_); refine bxe (cs := #[.int .i64 0, .int .i64 0, .int .i64 0, .int .i64 0, .int .i64 0, .bool false]) (t := 39) ?_; intro gb327 hg w92 hbox hb; have BK327 := Aside0.mk (hbox); have GW327 := Aside0.mk (bge hg HB.out); have GE327 := Aside0.mk (bge hg HB.out); have NB315_327 := Aside0.mk ((bkl hg BK315.out)); have NB327_315 := Aside0.mk ((bkg hg BK315.out)); have NB316_327 := Aside0.mk ((bkl hg BK316.out)); have NB327_316 := Aside0.mk ((bkg hg BK316.out)); replace BK315 := Aside0.mk (bkb BK315.out hb); replace BK316 := Aside0.mk (bkb BK316.out hb); replace HB := Aside0.mk (bst HB.out hb); clear hb hbox hg; have hnb93 := NB327_315.out; have hnc93 := NB315_327.out; have hnb94 := NB327_316.out; have hnc94 := NB316_327.out; have hcz95_0 := cz6 BK327.out; have hfz95_0 := blk_frozen BK327.out; have hcz96_0 := cz6 BK315.out; have hfz96_0 := blk_frozen BK315.out; have hcz97_0 := cz3 BK316.out; have hfz97_0 := blk_frozen BK316.out) | ((with_reducible refine gate_callee (f := 44) rfl ?_); refine gsl (some 44) Try.func44 #[.agg #[.int .i64 a0_0, .int .i64 a0_1, .int .i64 a0_2, .int .i64 a0_3], .agg #[.int .i64 a1_0, .int .i64 a1_1, .int .i64 a1_2]] ?_; (with_reducible refine (r18_Rest.calls kj16 a0_0 a0_1 a0_2 a0_3 a1_0 a1_1 a1_2 t328 t329 t330 _ A25.out).mono ?_); rintro e w98 ⟨rfl, hb⟩; refine ⟨_, rfl, ?_⟩; replace BK315 := Aside0.mk (bkb BK315.out hb); replace BK316 := Aside0.mk (bkb BK316.out hb); replace BK327 := Aside0.mk (blk_below (g := gb327) (o := .cells #[.int .i64 t320, .int .i64 t321, .int .i64 t322, .int .i64 t323, .int .i64 t324, .bool t325] 39 (0, 0)) (bkt BK327.out) hb); replace HB := Aside0.mk (bst HB.out hb); (try clear hb); (try clear hb2); (try clear hk); (try clear hi); have hcz99_0 := cz6 BK315.out; have hfz99_0 := blk_frozen BK315.out; have hcz100_0 := cz6 BK327.out; have hfz100_0 := blk_frozen BK327.out))
           go_ret
           exact bfin (bel HB.out)
        ·rw [if_neg c62] at H
         have c62b0 : (a0_4 == 0) = false := beq_eq_false_iff_ne.mpr c62
         have c62b1 : (a0_4 != 0) = true := bne_iff_ne.mpr c62
         by_cases c101 : t329 > (wrap64 (t317 - a0_4))
         ·rw [if_pos c101] at H
          have c101b0 : decide ((wrap64 (t317 - a0_4)) < t329) = true := decide_eq_true c101
          clear c101
          obtain rfl := Option.some.inj H
          have hnb102 := NB316_315.out
          have hnc102 := NB315_316.out
          have hcz103_0 := cz3 BK316.out
          have hfz103_0 := blk_frozen BK316.out
          go_wp2_with (first | ((with_reducible refine gate_callee (f := 26) rfl ?_); refine gsl (some 37) Try.func26 #[.agg #[.int .i64 a1_0, .int .i64 a1_1, .int .i64 a1_2], .bool true] ?_; (with_reducible refine (ref_Begin.calls kj16 a1_0 a1_1 a1_2 true t320 t321 t322 t323 t324 t325 t326 _ A24.out).mono ?_); rintro e w104 ⟨rfl, hb⟩; refine ⟨_, rfl, ?_⟩; replace BK315 := Aside0.mk (bkb BK315.out hb); replace BK316 := Aside0.mk (bkb BK316.out hb); replace HB := Aside0.mk (bst HB.out hb); (try clear hb); (try clear hb2); (try clear hk); (try clear hi)) | ((with_reducible refine gate_dst (N := 7) rfl ?_); refine bxe (cs := #[.int .i64 0, .int .i64 0, .int .i64 0, .int .i64 0, .int .i64 0, .bool false]) (t := 39) ?_; intro gb327 hg w105 hbox hb; have BK327 := Aside0.mk (hbox); have GW327 := Aside0.mk (bge hg HB.out); have GE327 := Aside0.mk (bge hg HB.out); have NB315_327 := Aside0.mk ((bkl hg BK315.out)); have NB327_315 := Aside0.mk ((bkg hg BK315.out)); have NB316_327 := Aside0.mk ((bkl hg BK316.out)); have NB327_316 := Aside0.mk ((bkg hg BK316.out)); replace BK315 := Aside0.mk (bkb BK315.out hb); replace BK316 := Aside0.mk (bkb BK316.out hb); replace HB := Aside0.mk (bst HB.out hb); clear hb hbox hg; have hnb106 := NB327_315.out; have hnc106 := NB315_327.out; have hnb107 := NB327_316.out; have hnc107 := NB316_327.out; have hcz108_0 := cz6 BK327.out; have hfz108_0 := blk_frozen BK327.out; have hcz109_0 := cz6 BK315.out; have hfz109_0 := blk_frozen BK315.out; have hcz110_0 := cz3 BK316.out; have hfz110_0 := blk_frozen BK316.out) | ((with_reducible refine gate_callee (f := 44) rfl ?_); refine gsl (some 44) Try.func44 #[.agg #[.int .i64 a0_0, .int .i64 a0_1, .int .i64 a0_2, .int .i64 a0_3], .agg #[.int .i64 a1_0, .int .i64 a1_1, .int .i64 a1_2]] ?_; (with_reducible refine (r18_Rest.calls kj16 a0_0 a0_1 a0_2 a0_3 a1_0 a1_1 a1_2 t328 t329 t330 _ A25.out).mono ?_); rintro e w111 ⟨rfl, hb⟩; refine ⟨_, rfl, ?_⟩; replace BK315 := Aside0.mk (bkb BK315.out hb); replace BK316 := Aside0.mk (bkb BK316.out hb); replace BK327 := Aside0.mk (blk_below (g := gb327) (o := .cells #[.int .i64 t320, .int .i64 t321, .int .i64 t322, .int .i64 t323, .int .i64 t324, .bool t325] 39 (0, 0)) (bkt BK327.out) hb); replace HB := Aside0.mk (bst HB.out hb); (try clear hb); (try clear hb2); (try clear hk); (try clear hi); have hcz112_0 := cz6 BK315.out; have hfz112_0 := blk_frozen BK315.out))
          go_ret
          exact bfin (bel HB.out)
         ·rw [if_neg c101] at H
          have c101b0 : decide ((wrap64 (t317 - a0_4)) < t329) = false := decide_eq_false c101
          clear c101
          obtain rfl := Option.some.inj H
          have hnb113 := NB316_315.out
          have hnc113 := NB315_316.out
          have hcz114_0 := cz3 BK316.out
          have hfz114_0 := blk_frozen BK316.out
          go_wp2_with (first | ((with_reducible refine gate_callee (f := 26) rfl ?_); refine gsl (some 37) Try.func26 #[.agg #[.int .i64 a1_0, .int .i64 a1_1, .int .i64 a1_2], .bool true] ?_; (with_reducible refine (ref_Begin.calls kj16 a1_0 a1_1 a1_2 true t320 t321 t322 t323 t324 t325 t326 _ A24.out).mono ?_); rintro e w115 ⟨rfl, hb⟩; refine ⟨_, rfl, ?_⟩; replace BK315 := Aside0.mk (bkb BK315.out hb); replace BK316 := Aside0.mk (bkb BK316.out hb); replace HB := Aside0.mk (bst HB.out hb); (try clear hb); (try clear hb2); (try clear hk); (try clear hi)) | ((with_reducible refine gate_dst (N := 7) rfl ?_); refine bxe (cs := #[.int .i64 0, .int .i64 0, .int .i64 0, .int .i64 0, .int .i64 0, .bool false]) (t := 39) ?_; intro gb327 hg w116 hbox hb; have BK327 := Aside0.mk (hbox); have GW327 := Aside0.mk (bge hg HB.out); have GE327 := Aside0.mk (bge hg HB.out); have NB315_327 := Aside0.mk ((bkl hg BK315.out)); have NB327_315 := Aside0.mk ((bkg hg BK315.out)); have NB316_327 := Aside0.mk ((bkl hg BK316.out)); have NB327_316 := Aside0.mk ((bkg hg BK316.out)); replace BK315 := Aside0.mk (bkb BK315.out hb); replace BK316 := Aside0.mk (bkb BK316.out hb); replace HB := Aside0.mk (bst HB.out hb); clear hb hbox hg; have hnb117 := NB327_315.out; have hnc117 := NB315_327.out; have hnb118 := NB327_316.out; have hnc118 := NB316_327.out; have hcz119_0 := cz6 BK327.out; have hfz119_0 := blk_frozen BK327.out; have hcz120_0 := cz6 BK315.out; have hfz120_0 := blk_frozen BK315.out; have hcz121_0 := cz3 BK316.out; have hfz121_0 := blk_frozen BK316.out) | ((with_reducible refine gate_callee (f := 44) rfl ?_); refine gsl (some 44) Try.func44 #[.agg #[.int .i64 a0_0, .int .i64 a0_1, .int .i64 a0_2, .int .i64 a0_3], .agg #[.int .i64 a1_0, .int .i64 a1_1, .int .i64 a1_2]] ?_; (with_reducible refine (r18_Rest.calls kj16 a0_0 a0_1 a0_2 a0_3 a1_0 a1_1 a1_2 t328 t329 t330 _ A25.out).mono ?_); rintro e w122 ⟨rfl, hb⟩; refine ⟨_, rfl, ?_⟩; replace BK315 := Aside0.mk (bkb BK315.out hb); replace BK316 := Aside0.mk (bkb BK316.out hb); replace BK327 := Aside0.mk (blk_below (g := gb327) (o := .cells #[.int .i64 t320, .int .i64 t321, .int .i64 t322, .int .i64 t323, .int .i64 t324, .bool t325] 39 (0, 0)) (bkt BK327.out) hb); replace HB := Aside0.mk (bst HB.out hb); (try clear hb); (try clear hb2); (try clear hk); (try clear hi); have hcz123_0 := cz6 BK315.out; have hfz123_0 := blk_frozen BK315.out))
          go_ret
          exact bfin (bel HB.out)
   ·rw [if_neg c16] at H
    have c16b0 : (x6_3 == 0) = false := beq_eq_false_iff_ne.mpr c16
    have c16b1 : (x6_3 != 0) = true := bne_iff_ne.mpr c16
    obtain rfl := Option.some.inj H
    go_wp2
    go_ret
    exact bfin (bel HB.out)

end Go.Proofs.Ytmjmdnpenpdmhaa.P
