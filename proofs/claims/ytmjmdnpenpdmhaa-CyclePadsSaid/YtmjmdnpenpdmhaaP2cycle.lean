-- Printed by wip/myprint.py of this repo (over the kit's printer). Not trusted: Lean checks it.
import Derived.Test.YtmjmdnpenpdmhaaP0
import Derived.Test.YtmjmdnpenpdmhaaE37
import Derived.Test.YtmjmdnpenpdmhaaP0cycle
import Derived.Test.YtmjmdnpenpdmhaaP0door
import Derived.Test.YtmjmdnpenpdmhaaP0doora
import Derived.Test.YtmjmdnpenpdmhaaRa
import Derived.Test.YtmjmdnpenpdmhaaYb
namespace Go.Proofs.Ytmjmdnpenpdmhaa.P
open Go.RowKit Go.Proofs.YtmjmdnpenpdmhaaW.PrintWords Go.Proofs.YtmjmdnpenpdmhaaW.PrintLast Go.Proofs.YtmjmdnpenpdmhaaW.PrintMore
attribute [local go_sem] cell_same1 cell_some1
attribute [local go_sem] max2_int min2_int max_two min_two max_three min_three max_four min_four   -- for this text's walks alone
set_option linter.unusedVariables false
set_option linter.unusedSimpArgs false

attribute [local go_sem high] eqA37
/-! ### cycle_Check: function 19 -/
mutual
def cycle_Check.j0 : Nat → Int → Int → Int → Int → Int → Int → Int → Bool → Int → Int → Int → Option (Int)
 | 0, _, _, _, _, _, _, _, _, _, _, _ => none
 | k + 1, x5, x6, x117000, x117001, x117002, x117003, x117004, x117005, x118000, x118001, x118002 => if x6 = 0 then (if x117004 < 0 then (cycle_Check.j1 k x5 true x117000 x117001 x117002 x117003 x117004 x117005 x118000 x118001 x118002) else (cycle_Check.j1 k x5 (decide (x117004 > x5)) x117000 x117001 x117002 x117003 x117004 x117005 x118000 x118001 x118002)) else (some x6)
def cycle_Check.j1 : Nat → Int → Bool → Int → Int → Int → Int → Int → Bool → Int → Int → Int → Option (Int)
 | 0, _, _, _, _, _, _, _, _, _, _, _ => none
 | k + 1, x5, x34, x117000, x117001, x117002, x117003, x117004, x117005, x118000, x118001, x118002 => if x34 = true then (some 2) else (if x117005 = true then (if x117000 = 0 then (some 0) else (some 3)) else ((door_Open.f k 0 0 0 0 x118000 x118001 x118002).bind fun bt121 => ((door_Rest.f x117000 x117001 x117002 x117003 x118000 x118001 x118002).bind fun bt127 => (if x117004 = 0 then (if (!(x117000 == bt121.1) || (!(x117001 == bt121.2.1) || (!(x117002 == bt121.2.2.1) || (!(x117003 == bt121.2.2.2.1))))) = true then (some 3) else (if bt127.2.1 > (wrap64 (x5 - x117004)) then (some 3) else (some 0))) else (if bt127.2.1 > (wrap64 (x5 - x117004)) then (some 3) else (some 0))))))
end
def cycle_Check.f (k : Nat) (a0_0 : Int) (a0_1 : Int) (a0_2 : Int) (a0_3 : Int) (a0_4 : Int) (a0_5 : Bool) (a1_0 : Int) (a1_1 : Int) (a1_2 : Int) : Option (Int) := (cycle_worst.f a1_0 a1_1 a1_2).bind fun bt118 => (if bt118.2 = 0 then ((door_Check.f k a0_0 a0_1 a0_2 a0_3 a1_0 a1_1 a1_2).bind fun t120 => (cycle_Check.j0 k bt118.1 t120 a0_0 a0_1 a0_2 a0_3 a0_4 a0_5 a1_0 a1_1 a1_2)) else (cycle_Check.j0 k bt118.1 bt118.2 a0_0 a0_1 a0_2 a0_3 a0_4 a0_5 a1_0 a1_1 a1_2))
theorem cycle_Check.mono_l : ∀ k, (∀ y0 y1 y2 y3 y4 y5 y6 y7 y8 y9 y10, LeO (cycle_Check.j0 k y0 y1 y2 y3 y4 y5 y6 y7 y8 y9 y10) (cycle_Check.j0 (k + 1) y0 y1 y2 y3 y4 y5 y6 y7 y8 y9 y10)) ∧ (∀ y0 y1 y2 y3 y4 y5 y6 y7 y8 y9 y10, LeO (cycle_Check.j1 k y0 y1 y2 y3 y4 y5 y6 y7 y8 y9 y10) (cycle_Check.j1 (k + 1) y0 y1 y2 y3 y4 y5 y6 y7 y8 y9 y10))
 | 0 => ⟨fun _ _ _ _ _ _ _ _ _ _ _ r h => by simp [cycle_Check.j0] at h, fun _ _ _ _ _ _ _ _ _ _ _ r h => by simp [cycle_Check.j1] at h⟩
 | k + 1 => by
  obtain ⟨ih0, ih1⟩ := cycle_Check.mono_l k
  refine ⟨?_, ?_⟩
  ·intro y0 y1 y2 y3 y4 y5 y6 y7 y8 y9 y10
   unfold cycle_Check.j0
   repeat' first
   | (with_reducible exact ih0 _ _ _ _ _ _ _ _ _ _ _)
   | (with_reducible exact ih1 _ _ _ _ _ _ _ _ _ _ _)
   | (with_reducible exact door_Check.mono _ _ _ _ _ _ _ _)
   | (with_reducible exact door_Open.mono _ _ _ _ _ _ _ _)
   | (with_reducible exact LeO.refl _)
   | (with_reducible exact LeO.none _)
   | (with_reducible refine LeO.ite ?_ ?_)
   | (with_reducible refine LeO.bind ?_ (fun _ => ?_))
   | exact ih0 _ _ _ _ _ _ _ _ _ _ _
   | exact ih1 _ _ _ _ _ _ _ _ _ _ _
   | exact door_Check.mono _ _ _ _ _ _ _ _
   | exact door_Open.mono _ _ _ _ _ _ _ _
   | exact LeO.none _
   | refine LeO.ite ?_ ?_
   | refine LeO.bind ?_ (fun _ => ?_)
  ·intro y0 y1 y2 y3 y4 y5 y6 y7 y8 y9 y10
   unfold cycle_Check.j1
   repeat' first
   | (with_reducible exact ih0 _ _ _ _ _ _ _ _ _ _ _)
   | (with_reducible exact ih1 _ _ _ _ _ _ _ _ _ _ _)
   | (with_reducible exact door_Check.mono _ _ _ _ _ _ _ _)
   | (with_reducible exact door_Open.mono _ _ _ _ _ _ _ _)
   | (with_reducible exact LeO.refl _)
   | (with_reducible exact LeO.none _)
   | (with_reducible refine LeO.ite ?_ ?_)
   | (with_reducible refine LeO.bind ?_ (fun _ => ?_))
   | exact ih0 _ _ _ _ _ _ _ _ _ _ _
   | exact ih1 _ _ _ _ _ _ _ _ _ _ _
   | exact door_Check.mono _ _ _ _ _ _ _ _
   | exact door_Open.mono _ _ _ _ _ _ _ _
   | exact LeO.none _
   | refine LeO.ite ?_ ?_
   | refine LeO.bind ?_ (fun _ => ?_)
theorem cycle_Check.mono : ∀ a0 a1 a2 a3 a4 a5 a6 a7 a8 k, LeO (cycle_Check.f k a0 a1 a2 a3 a4 a5 a6 a7 a8) (cycle_Check.f (k + 1) a0 a1 a2 a3 a4 a5 a6 a7 a8) := by
 intro a0 a1 a2 a3 a4 a5 a6 a7 a8 k
 obtain ⟨ih0, ih1⟩ := cycle_Check.mono_l k
 unfold cycle_Check.f
 repeat' first
   | (with_reducible exact ih0 _ _ _ _ _ _ _ _ _ _ _)
   | (with_reducible exact ih1 _ _ _ _ _ _ _ _ _ _ _)
   | (with_reducible exact door_Check.mono _ _ _ _ _ _ _ _)
   | (with_reducible exact door_Open.mono _ _ _ _ _ _ _ _)
   | (with_reducible exact LeO.refl _)
   | (with_reducible exact LeO.none _)
   | (with_reducible refine LeO.ite ?_ ?_)
   | (with_reducible refine LeO.bind ?_ (fun _ => ?_))
   | exact ih0 _ _ _ _ _ _ _ _ _ _ _
   | exact ih1 _ _ _ _ _ _ _ _ _ _ _
   | exact door_Check.mono _ _ _ _ _ _ _ _
   | exact door_Open.mono _ _ _ _ _ _ _ _
   | exact LeO.none _
   | refine LeO.ite ?_ ?_
   | refine LeO.bind ?_ (fun _ => ?_)
set_option maxHeartbeats 8000000 in
set_option maxRecDepth 100000 in
theorem cycle_Check.calls (k : Nat) (a0_0 : Int) (a0_1 : Int) (a0_2 : Int) (a0_3 : Int) (a0_4 : Int) (a0_5 : Bool) (a1_0 : Int) (a1_1 : Int) (a1_2 : Int) (r : Int) (w : World) (h : cycle_Check.f k a0_0 a0_1 a0_2 a0_3 a0_4 a0_5 a1_0 a1_1 a1_2 = some r) :
  Calls Try.prog 19 #[.agg #[.int .i64 a0_0, .int .i64 a0_1, .int .i64 a0_2, .int .i64 a0_3, .int .i64 a0_4, .bool a0_5], .agg #[.int .i64 a1_0, .int .i64 a1_1, .int .i64 a1_2]] w fun e w' => e = .returned (.int .i64 r) ∧ Below w.heap.size w w' := by
 have hu39 := Try.underlying39
 have hu23 := Try.underlying23
 have hu37 := Try.underlying37
 have HB := Aside0.mk (Below.refl w.heap.size w)
 have H : ((cycle_worst.f a1_0 a1_1 a1_2).bind fun bt118 => (if bt118.2 = 0 then ((door_Check.f k a0_0 a0_1 a0_2 a0_3 a1_0 a1_1 a1_2).bind fun t120 => (cycle_Check.j0 k bt118.1 t120 a0_0 a0_1 a0_2 a0_3 a0_4 a0_5 a1_0 a1_1 a1_2)) else (cycle_Check.j0 k bt118.1 bt118.2 a0_0 a0_1 a0_2 a0_3 a0_4 a0_5 a1_0 a1_1 a1_2))) = some r := h
 clear h
 replace H := Option.bind_eq_some_iff.mp H
 obtain ⟨⟨t118, t119⟩, A30, H⟩ := H
 replace H : (if t119 = 0 then ((door_Check.f k a0_0 a0_1 a0_2 a0_3 a1_0 a1_1 a1_2).bind fun t120 => (cycle_Check.j0 k t118 t120 a0_0 a0_1 a0_2 a0_3 a0_4 a0_5 a1_0 a1_1 a1_2)) else (cycle_Check.j0 k t118 t119 a0_0 a0_1 a0_2 a0_3 a0_4 a0_5 a1_0 a1_1 a1_2)) = some r := H
 have A3 := Aside0.mk A30
 clear A30
 have HC4 := Aside0.mk H
 clear H
 go_enter Try.func19, Try.ntmps19
 go_upto_if 18 with (first | ((with_reducible refine gate_dst (N := 2) rfl ?_); refine bxe (cs := #[.int .i64 a0_0, .int .i64 a0_1, .int .i64 a0_2, .int .i64 a0_3, .int .i64 a0_4, .bool a0_5]) (t := 39) ?_; intro gb116 hg w5 hbox hb; have BK116 := Aside0.mk (hbox); have GW116 := Aside0.mk (bge hg HB.out); have GE116 := Aside0.mk (bge hg HB.out); replace HB := Aside0.mk (bst HB.out hb); clear hb hbox hg) | ((with_reducible refine gate_dst (N := 3) rfl ?_); refine bxe (cs := #[.int .i64 a1_0, .int .i64 a1_1, .int .i64 a1_2]) (t := 23) ?_; intro gb117 hg w6 hbox hb; have BK117 := Aside0.mk (hbox); have GW117 := Aside0.mk (bge hg HB.out); have GE117 := Aside0.mk (bge hg HB.out); have NB116_117 := Aside0.mk ((bkl hg BK116.out)); have NB117_116 := Aside0.mk ((bkg hg BK116.out)); replace BK116 := Aside0.mk (bkb BK116.out hb); replace HB := Aside0.mk (bst HB.out hb); clear hb hbox hg; have hnb7 := NB117_116.out; have hnc7 := NB116_117.out; have hcz8_0 := cz3 BK117.out; have hfz8_0 := blk_frozen BK117.out) | ((with_reducible refine gate_callee (f := 34) rfl ?_); refine gsl (some 14) Try.func34 #[.agg #[.int .i64 a1_0, .int .i64 a1_1, .int .i64 a1_2]] ?_; (with_reducible refine (cycle_worst.calls a1_0 a1_1 a1_2 t118 t119 _ A3.out).mono ?_); rintro e w9 ⟨rfl, hb⟩; refine ⟨_, rfl, ?_⟩; replace BK116 := Aside0.mk (bkb BK116.out hb); replace BK117 := Aside0.mk (bkb BK117.out hb); replace HB := Aside0.mk (bst HB.out hb); (try clear hb); (try clear hb2); (try clear hk); (try clear hi)))
 (try simp only [Act.put, List.setIfInBounds_toArray, List.set_cons_zero, List.set_cons_succ])
 go_cut [6] (fun v6 wc => ∃ (kq : Nat) (x6_3 : Int), v6 = .int .i64 x6_3 ∧ Aside0 (cycle_Check.j0 kq t118 x6_3 a0_0 a0_1 a0_2 a0_3 a0_4 a0_5 a1_0 a1_1 a1_2 = some r) ∧ Aside0 (kq ≤ k) ∧ Aside0 (wc.heap[gb116]? = some (.cells #[.int .i64 a0_0, .int .i64 a0_1, .int .i64 a0_2, .int .i64 a0_3, .int .i64 a0_4, .bool a0_5] 39 (0, 0))) ∧ Aside0 (wc.heap[gb117]? = some (.cells #[.int .i64 a1_0, .int .i64 a1_1, .int .i64 a1_2] 23 (0, 0))) ∧ Aside0 (Below w.heap.size w wc))
 case first =>
  have H := HC4.out
  clear HC4
  by_cases c10 : t119 = 0
  ·rw [if_pos c10] at H
   have c10b0 : (t119 == 0) = true := beq_iff_eq.mpr c10
   have c10b1 : (t119 != 0) = false := bne_eq_false_iff_eq.mpr c10
   clear c10
   (first | rw [c10b0] | (simp only [i64_w, i32_w]; rw [c10b0]) | skip)
   replace H := Option.bind_eq_some_iff.mp H
   obtain ⟨t120, A110, H⟩ := H
   replace H : (cycle_Check.j0 k t118 t120 a0_0 a0_1 a0_2 a0_3 a0_4 a0_5 a1_0 a1_1 a1_2) = some r := H
   have A11 := Aside0.mk A110
   clear A110
   have H' := Aside0.mk H
   clear H
   have hnb12 := NB116_117.out
   have hnc12 := NB117_116.out
   have hcz13_0 := cz6 BK116.out
   have hfz13_0 := blk_frozen BK116.out
   have hcz14_0 := cz3 BK117.out
   have hfz14_0 := blk_frozen BK117.out
   go_wp2_with (first | ((with_reducible refine gate_callee (f := 36) rfl ?_); refine gsl (some 22) Try.func36 #[.agg #[.int .i64 a0_0, .int .i64 a0_1, .int .i64 a0_2, .int .i64 a0_3], .agg #[.int .i64 a1_0, .int .i64 a1_1, .int .i64 a1_2]] ?_; (with_reducible refine (door_Check.calls k a0_0 a0_1 a0_2 a0_3 a1_0 a1_1 a1_2 t120 _ A11.out).mono ?_); rintro e w15 ⟨rfl, hb⟩; refine ⟨_, rfl, ?_⟩; replace BK116 := Aside0.mk (bkb BK116.out hb); replace BK117 := Aside0.mk (bkb BK117.out hb); replace HB := Aside0.mk (bst HB.out hb); (try clear hb); (try clear hb2); (try clear hk); (try clear hi)))
   go_meet
   case rel => exact ⟨_, (t120), (by first | rfl | (simp; done) | (simp [*]; done)), H', ⟨by first | omega | exact Nat.le_refl _⟩, ⟨bkt BK116.out⟩, ⟨bkt BK117.out⟩, ⟨bel HB.out⟩⟩
  ·rw [if_neg c10] at H
   have c10b0 : (t119 == 0) = false := beq_eq_false_iff_ne.mpr c10
   have c10b1 : (t119 != 0) = true := bne_iff_ne.mpr c10
   (first | rw [c10b0] | (simp only [i64_w, i32_w]; rw [c10b0]) | skip)
   have H' := Aside0.mk H
   clear H
   go_wp2
   go_meet
   case rel => exact ⟨_, (t119), (by first | rfl | (simp; done) | (simp [*]; done)), H', ⟨by first | omega | exact Nat.le_refl _⟩, ⟨bkt BK116.out⟩, ⟨bkt BK117.out⟩, ⟨bel HB.out⟩⟩
 case rest =>
  clear HC4
  try clear c1
  try clear p2
  try clear c3
  try clear c7
  try clear c10
  try clear c10b0
  try clear c10b1
  try clear c12
  try clear hcz13_0
  try clear hcz14_0
  try clear hcz8_0
  try clear hfz13_0
  try clear hfz14_0
  try clear hfz8_0
  obtain ⟨kq, x6_3, rfl, HA, HJ3, BK116, BK117, HB⟩ := hcut
  cases kq with
  | zero => exact absurd HA.out (by simp [cycle_Check.j0])
  | succ kj3 =>
   have H := HA.out
   clear HA
   simp only [cycle_Check.j0] at H
   by_cases c16 : x6_3 = 0
   ·rw [if_pos c16] at H
    have c16b0 : (x6_3 == 0) = true := beq_iff_eq.mpr c16
    have c16b1 : (x6_3 != 0) = false := bne_eq_false_iff_eq.mpr c16
    clear c16
    have HC17 := Aside0.mk H
    clear H
    go_upto_region 6 with (fail)
    go_cut [34] (fun v34 wc => ∃ (kq : Nat) (x34_16 : Bool), v34 = .bool x34_16 ∧ Aside0 (cycle_Check.j1 kq t118 x34_16 a0_0 a0_1 a0_2 a0_3 a0_4 a0_5 a1_0 a1_1 a1_2 = some r) ∧ Aside0 (kq ≤ kj3) ∧ Aside0 (wc.heap[gb116]? = some (.cells #[.int .i64 a0_0, .int .i64 a0_1, .int .i64 a0_2, .int .i64 a0_3, .int .i64 a0_4, .bool a0_5] 39 (0, 0))) ∧ Aside0 (wc.heap[gb117]? = some (.cells #[.int .i64 a1_0, .int .i64 a1_1, .int .i64 a1_2] 23 (0, 0))) ∧ Aside0 (Below w.heap.size w wc))
    case first =>
     have H := HC17.out
     clear HC17
     by_cases c18 : a0_4 < 0
     ·rw [if_pos c18] at H
      have c18b0 : decide (a0_4 < 0) = true := decide_eq_true c18
      clear c18
      (first | rw [c18b0] | (simp only [i64_w, i32_w]; rw [c18b0]) | skip)
      have H' := Aside0.mk H
      clear H
      have hnb19 := NB116_117.out
      have hnc19 := NB117_116.out
      have hcz20_0 := cz6 BK116.out
      have hfz20_0 := blk_frozen BK116.out
      go_wp2
      go_meet
      case rel => exact ⟨_, (true), (by first | rfl | (simp; done) | (simp [*]; done)), H', ⟨by have := HJ3.out; first | omega | exact Nat.le_refl _⟩, ⟨bkt BK116.out⟩, ⟨bkt BK117.out⟩, ⟨bel HB.out⟩⟩
     ·rw [if_neg c18] at H
      have c18b0 : decide (a0_4 < 0) = false := decide_eq_false c18
      clear c18
      (first | rw [c18b0] | (simp only [i64_w, i32_w]; rw [c18b0]) | skip)
      have H' := Aside0.mk H
      clear H
      have hnb21 := NB116_117.out
      have hnc21 := NB117_116.out
      have hcz22_0 := cz6 BK116.out
      have hfz22_0 := blk_frozen BK116.out
      go_wp2
      go_meet
      case rel => exact ⟨_, (decide (a0_4 > t118)), (by first | rfl | (simp; done) | (simp [*]; done)), H', ⟨by have := HJ3.out; first | omega | exact Nat.le_refl _⟩, ⟨bkt BK116.out⟩, ⟨bkt BK117.out⟩, ⟨bel HB.out⟩⟩
    case rest =>
     clear HC17
     try clear c1
     try clear c2
     try clear p2
     try clear c3
     try clear c7
     try clear c10
     try clear c10b0
     try clear c10b1
     try clear c12
     try clear c16
     try clear c16b0
     try clear c16b1
     try clear c18
     try clear c18b0
     try clear c19
     try clear c21
     try clear hcz13_0
     try clear hcz14_0
     try clear hcz20_0
     try clear hcz22_0
     try clear hcz8_0
     try clear hfz13_0
     try clear hfz14_0
     try clear hfz20_0
     try clear hfz22_0
     try clear hfz8_0
     try clear p2
     obtain ⟨kq, x34_16, rfl, HA, HJ16, BK116, BK117, HB⟩ := hcut
     cases kq with
     | zero => exact absurd HA.out (by simp [cycle_Check.j1])
     | succ kj16 =>
      have H := HA.out
      clear HA
      simp only [cycle_Check.j1] at H
      by_cases c23 : x34_16 = true
      ·subst c23
       have H1 : (some 2) = some r := by rw [if_pos rfl] at H; exact H
       clear H
       have H := H1
       clear H1
       obtain rfl := Option.some.inj H
       go_wp2
       go_ret
       exact bfin (bel HB.out)
      ·replace c23 := Bool.eq_false_iff.mpr c23
       subst c23
       have H1 : (if a0_5 = true then (if a0_0 = 0 then (some 0) else (some 3)) else ((door_Open.f kj16 0 0 0 0 a1_0 a1_1 a1_2).bind fun bt121 => ((door_Rest.f a0_0 a0_1 a0_2 a0_3 a1_0 a1_1 a1_2).bind fun bt127 => (if a0_4 = 0 then (if (!(a0_0 == bt121.1) || (!(a0_1 == bt121.2.1) || (!(a0_2 == bt121.2.2.1) || (!(a0_3 == bt121.2.2.2.1))))) = true then (some 3) else (if bt127.2.1 > (wrap64 (t118 - a0_4)) then (some 3) else (some 0))) else (if bt127.2.1 > (wrap64 (t118 - a0_4)) then (some 3) else (some 0)))))) = some r := by rw [if_neg (show ¬ (false = true) by decide)] at H; exact H
       clear H
       have H := H1
       clear H1
       by_cases c24 : a0_5 = true
       ·subst c24
        have H1 : (if a0_0 = 0 then (some 0) else (some 3)) = some r := by rw [if_pos rfl] at H; exact H
        clear H
        have H := H1
        clear H1
        by_cases c25 : a0_0 = 0
        ·rw [if_pos c25] at H
         have c25b0 : (a0_0 == 0) = true := beq_iff_eq.mpr c25
         have c25b1 : (a0_0 != 0) = false := bne_eq_false_iff_eq.mpr c25
         clear c25
         obtain rfl := Option.some.inj H
         have hnb26 := NB116_117.out
         have hnc26 := NB117_116.out
         have hcz27_0 := cz6 BK116.out
         have hfz27_0 := blk_frozen BK116.out
         go_wp2
         go_ret
         exact bfin (bel HB.out)
        ·rw [if_neg c25] at H
         have c25b0 : (a0_0 == 0) = false := beq_eq_false_iff_ne.mpr c25
         have c25b1 : (a0_0 != 0) = true := bne_iff_ne.mpr c25
         obtain rfl := Option.some.inj H
         have hnb28 := NB116_117.out
         have hnc28 := NB117_116.out
         have hcz29_0 := cz6 BK116.out
         have hfz29_0 := blk_frozen BK116.out
         go_wp2
         go_ret
         exact bfin (bel HB.out)
       ·replace c24 := Bool.eq_false_iff.mpr c24
        subst c24
        have H1 : ((door_Open.f kj16 0 0 0 0 a1_0 a1_1 a1_2).bind fun bt121 => ((door_Rest.f a0_0 a0_1 a0_2 a0_3 a1_0 a1_1 a1_2).bind fun bt127 => (if a0_4 = 0 then (if (!(a0_0 == bt121.1) || (!(a0_1 == bt121.2.1) || (!(a0_2 == bt121.2.2.1) || (!(a0_3 == bt121.2.2.2.1))))) = true then (some 3) else (if bt127.2.1 > (wrap64 (t118 - a0_4)) then (some 3) else (some 0))) else (if bt127.2.1 > (wrap64 (t118 - a0_4)) then (some 3) else (some 0))))) = some r := by rw [if_neg (show ¬ (false = true) by decide)] at H; exact H
        clear H
        have H := H1
        clear H1
        replace H := Option.bind_eq_some_iff.mp H
        obtain ⟨⟨t121, t122, t123, t124, t125⟩, A300, H⟩ := H
        replace H : ((door_Rest.f a0_0 a0_1 a0_2 a0_3 a1_0 a1_1 a1_2).bind fun bt127 => (if a0_4 = 0 then (if (!(a0_0 == t121) || (!(a0_1 == t122) || (!(a0_2 == t123) || (!(a0_3 == t124))))) = true then (some 3) else (if bt127.2.1 > (wrap64 (t118 - a0_4)) then (some 3) else (some 0))) else (if bt127.2.1 > (wrap64 (t118 - a0_4)) then (some 3) else (some 0)))) = some r := H
        have A30 := Aside0.mk A300
        clear A300
        replace H := Option.bind_eq_some_iff.mp H
        obtain ⟨⟨t127, t128, t129⟩, A310, H⟩ := H
        replace H : (if a0_4 = 0 then (if (!(a0_0 == t121) || (!(a0_1 == t122) || (!(a0_2 == t123) || (!(a0_3 == t124))))) = true then (some 3) else (if t128 > (wrap64 (t118 - a0_4)) then (some 3) else (some 0))) else (if t128 > (wrap64 (t118 - a0_4)) then (some 3) else (some 0))) = some r := H
        have A31 := Aside0.mk A310
        clear A310
        by_cases c32 : a0_4 = 0
        ·rw [if_pos c32] at H
         have c32b0 : (a0_4 == 0) = true := beq_iff_eq.mpr c32
         have c32b1 : (a0_4 != 0) = false := bne_eq_false_iff_eq.mpr c32
         clear c32
         by_cases c33 : (!(a0_0 == t121) || (!(a0_1 == t122) || (!(a0_2 == t123) || (!(a0_3 == t124))))) = true
         ·rw [if_pos c33] at H
          have c33b0 : (!(a0_0 == t121) || (!(a0_1 == t122) || (!(a0_2 == t123) || (!(a0_3 == t124))))) = true := c33
          clear c33
          obtain rfl := Option.some.inj H
          have hnb34 := NB116_117.out
          have hnc34 := NB117_116.out
          have hcz35_0 := cz6 BK116.out
          have hfz35_0 := blk_frozen BK116.out
          have hcz36_0 := cz3 BK117.out
          have hfz36_0 := blk_frozen BK117.out
          go_wp2_with (first | ((with_reducible refine gate_callee (f := 37) rfl ?_); refine gsl (some 44) Try.func37 #[.agg #[.int .i64 0, .int .i64 0, .int .i64 0, .int .i64 0], .agg #[.int .i64 a1_0, .int .i64 a1_1, .int .i64 a1_2]] ?_; (with_reducible refine (door_Open.calls kj16 0 0 0 0 a1_0 a1_1 a1_2 t121 t122 t123 t124 t125 _ A30.out).mono ?_); rintro e w37 ⟨rfl, hb⟩; refine ⟨_, rfl, ?_⟩; replace BK116 := Aside0.mk (bkb BK116.out hb); replace BK117 := Aside0.mk (bkb BK117.out hb); replace HB := Aside0.mk (bst HB.out hb); (try clear hb); (try clear hb2); (try clear hk); (try clear hi)) | ((with_reducible refine gate_dst (N := 7) rfl ?_); refine bxe (cs := #[.int .i64 0, .int .i64 0, .int .i64 0, .int .i64 0]) (t := 37) ?_; intro gb126 hg w38 hbox hb; have BK126 := Aside0.mk (hbox); have GW126 := Aside0.mk (bge hg HB.out); have GE126 := Aside0.mk (bge hg HB.out); have NB116_126 := Aside0.mk ((bkl hg BK116.out)); have NB126_116 := Aside0.mk ((bkg hg BK116.out)); have NB117_126 := Aside0.mk ((bkl hg BK117.out)); have NB126_117 := Aside0.mk ((bkg hg BK117.out)); replace BK116 := Aside0.mk (bkb BK116.out hb); replace BK117 := Aside0.mk (bkb BK117.out hb); replace HB := Aside0.mk (bst HB.out hb); clear hb hbox hg; have hnb39 := NB126_116.out; have hnc39 := NB116_126.out; have hnb40 := NB126_117.out; have hnc40 := NB117_126.out; have hcz41_0 := cz4 BK126.out; have hfz41_0 := blk_frozen BK126.out; have hcz42_0 := cz6 BK116.out; have hfz42_0 := blk_frozen BK116.out; have hcz43_0 := cz3 BK117.out; have hfz43_0 := blk_frozen BK117.out) | ((with_reducible refine gate_callee (f := 38) rfl ?_); refine gsl (some 51) Try.func38 #[.agg #[.int .i64 a0_0, .int .i64 a0_1, .int .i64 a0_2, .int .i64 a0_3], .agg #[.int .i64 a1_0, .int .i64 a1_1, .int .i64 a1_2]] ?_; (with_reducible refine (door_Rest.calls a0_0 a0_1 a0_2 a0_3 a1_0 a1_1 a1_2 t127 t128 t129 _ A31.out).mono ?_); rintro e w44 ⟨rfl, hb⟩; refine ⟨_, rfl, ?_⟩; replace BK116 := Aside0.mk (bkb BK116.out hb); replace BK117 := Aside0.mk (bkb BK117.out hb); replace BK126 := Aside0.mk (blk_below (g := gb126) (o := .cells #[.int .i64 t121, .int .i64 t122, .int .i64 t123, .int .i64 t124] 37 (0, 0)) (bkt BK126.out) hb); replace HB := Aside0.mk (bst HB.out hb); (try clear hb); (try clear hb2); (try clear hk); (try clear hi); have hcz45_0 := cz6 BK116.out; have hfz45_0 := blk_frozen BK116.out; have hcz46_0 := cz4 BK126.out; have hfz46_0 := blk_frozen BK126.out))
          go_ret
          exact bfin (bel HB.out)
         ·rw [if_neg c33] at H
          have c33b0 : (!(a0_0 == t121) || (!(a0_1 == t122) || (!(a0_2 == t123) || (!(a0_3 == t124))))) = false := by simpa using c33
          clear c33
          by_cases c47 : t128 > (wrap64 (t118 - a0_4))
          ·rw [if_pos c47] at H
           have c47b0 : decide ((wrap64 (t118 - a0_4)) < t128) = true := decide_eq_true c47
           clear c47
           obtain rfl := Option.some.inj H
           have hnb48 := NB116_117.out
           have hnc48 := NB117_116.out
           have hcz49_0 := cz6 BK116.out
           have hfz49_0 := blk_frozen BK116.out
           have hcz50_0 := cz3 BK117.out
           have hfz50_0 := blk_frozen BK117.out
           go_wp2_with (first | ((with_reducible refine gate_callee (f := 37) rfl ?_); refine gsl (some 44) Try.func37 #[.agg #[.int .i64 0, .int .i64 0, .int .i64 0, .int .i64 0], .agg #[.int .i64 a1_0, .int .i64 a1_1, .int .i64 a1_2]] ?_; (with_reducible refine (door_Open.calls kj16 0 0 0 0 a1_0 a1_1 a1_2 t121 t122 t123 t124 t125 _ A30.out).mono ?_); rintro e w51 ⟨rfl, hb⟩; refine ⟨_, rfl, ?_⟩; replace BK116 := Aside0.mk (bkb BK116.out hb); replace BK117 := Aside0.mk (bkb BK117.out hb); replace HB := Aside0.mk (bst HB.out hb); (try clear hb); (try clear hb2); (try clear hk); (try clear hi)) | ((with_reducible refine gate_dst (N := 7) rfl ?_); refine bxe (cs := #[.int .i64 0, .int .i64 0, .int .i64 0, .int .i64 0]) (t := 37) ?_; intro gb126 hg w52 hbox hb; have BK126 := Aside0.mk (hbox); have GW126 := Aside0.mk (bge hg HB.out); have GE126 := Aside0.mk (bge hg HB.out); have NB116_126 := Aside0.mk ((bkl hg BK116.out)); have NB126_116 := Aside0.mk ((bkg hg BK116.out)); have NB117_126 := Aside0.mk ((bkl hg BK117.out)); have NB126_117 := Aside0.mk ((bkg hg BK117.out)); replace BK116 := Aside0.mk (bkb BK116.out hb); replace BK117 := Aside0.mk (bkb BK117.out hb); replace HB := Aside0.mk (bst HB.out hb); clear hb hbox hg; have hnb53 := NB126_116.out; have hnc53 := NB116_126.out; have hnb54 := NB126_117.out; have hnc54 := NB117_126.out; have hcz55_0 := cz4 BK126.out; have hfz55_0 := blk_frozen BK126.out; have hcz56_0 := cz6 BK116.out; have hfz56_0 := blk_frozen BK116.out; have hcz57_0 := cz3 BK117.out; have hfz57_0 := blk_frozen BK117.out) | ((with_reducible refine gate_callee (f := 38) rfl ?_); refine gsl (some 51) Try.func38 #[.agg #[.int .i64 a0_0, .int .i64 a0_1, .int .i64 a0_2, .int .i64 a0_3], .agg #[.int .i64 a1_0, .int .i64 a1_1, .int .i64 a1_2]] ?_; (with_reducible refine (door_Rest.calls a0_0 a0_1 a0_2 a0_3 a1_0 a1_1 a1_2 t127 t128 t129 _ A31.out).mono ?_); rintro e w58 ⟨rfl, hb⟩; refine ⟨_, rfl, ?_⟩; replace BK116 := Aside0.mk (bkb BK116.out hb); replace BK117 := Aside0.mk (bkb BK117.out hb); replace BK126 := Aside0.mk (blk_below (g := gb126) (o := .cells #[.int .i64 t121, .int .i64 t122, .int .i64 t123, .int .i64 t124] 37 (0, 0)) (bkt BK126.out) hb); replace HB := Aside0.mk (bst HB.out hb); (try clear hb); (try clear hb2); (try clear hk); (try clear hi); have hcz59_0 := cz6 BK116.out; have hfz59_0 := blk_frozen BK116.out; have hcz60_0 := cz4 BK126.out; have hfz60_0 := blk_frozen BK126.out))
           go_ret
           exact bfin (bel HB.out)
          ·rw [if_neg c47] at H
           have c47b0 : decide ((wrap64 (t118 - a0_4)) < t128) = false := decide_eq_false c47
           clear c47
           obtain rfl := Option.some.inj H
           have hnb61 := NB116_117.out
           have hnc61 := NB117_116.out
           have hcz62_0 := cz6 BK116.out
           have hfz62_0 := blk_frozen BK116.out
           have hcz63_0 := cz3 BK117.out
           have hfz63_0 := blk_frozen BK117.out
           go_wp2_with (first | ((with_reducible refine gate_callee (f := 37) rfl ?_); refine gsl (some 44) Try.func37 #[.agg #[.int .i64 0, .int .i64 0, .int .i64 0, .int .i64 0], .agg #[.int .i64 a1_0, .int .i64 a1_1, .int .i64 a1_2]] ?_; (with_reducible refine (door_Open.calls kj16 0 0 0 0 a1_0 a1_1 a1_2 t121 t122 t123 t124 t125 _ A30.out).mono ?_); rintro e w64 ⟨rfl, hb⟩; refine ⟨_, rfl, ?_⟩; replace BK116 := Aside0.mk (bkb BK116.out hb); replace BK117 := Aside0.mk (bkb BK117.out hb); replace HB := Aside0.mk (bst HB.out hb); (try clear hb); (try clear hb2); (try clear hk); (try clear hi)) | ((with_reducible refine gate_dst (N := 7) rfl ?_); refine bxe (cs := #[.int .i64 0, .int .i64 0, .int .i64 0, .int .i64 0]) (t := 37) ?_; intro gb126 hg w65 hbox hb; have BK126 := Aside0.mk (hbox); have GW126 := Aside0.mk (bge hg HB.out); have GE126 := Aside0.mk (bge hg HB.out); have NB116_126 := Aside0.mk ((bkl hg BK116.out)); have NB126_116 := Aside0.mk ((bkg hg BK116.out)); have NB117_126 := Aside0.mk ((bkl hg BK117.out)); have NB126_117 := Aside0.mk ((bkg hg BK117.out)); replace BK116 := Aside0.mk (bkb BK116.out hb); replace BK117 := Aside0.mk (bkb BK117.out hb); replace HB := Aside0.mk (bst HB.out hb); clear hb hbox hg; have hnb66 := NB126_116.out; have hnc66 := NB116_126.out; have hnb67 := NB126_117.out; have hnc67 := NB117_126.out; have hcz68_0 := cz4 BK126.out; have hfz68_0 := blk_frozen BK126.out; have hcz69_0 := cz6 BK116.out; have hfz69_0 := blk_frozen BK116.out; have hcz70_0 := cz3 BK117.out; have hfz70_0 := blk_frozen BK117.out) | ((with_reducible refine gate_callee (f := 38) rfl ?_); refine gsl (some 51) Try.func38 #[.agg #[.int .i64 a0_0, .int .i64 a0_1, .int .i64 a0_2, .int .i64 a0_3], .agg #[.int .i64 a1_0, .int .i64 a1_1, .int .i64 a1_2]] ?_; (with_reducible refine (door_Rest.calls a0_0 a0_1 a0_2 a0_3 a1_0 a1_1 a1_2 t127 t128 t129 _ A31.out).mono ?_); rintro e w71 ⟨rfl, hb⟩; refine ⟨_, rfl, ?_⟩; replace BK116 := Aside0.mk (bkb BK116.out hb); replace BK117 := Aside0.mk (bkb BK117.out hb); replace BK126 := Aside0.mk (blk_below (g := gb126) (o := .cells #[.int .i64 t121, .int .i64 t122, .int .i64 t123, .int .i64 t124] 37 (0, 0)) (bkt BK126.out) hb); replace HB := Aside0.mk (bst HB.out hb); (try clear hb); (try clear hb2); (try clear hk); (try clear hi); have hcz72_0 := cz6 BK116.out; have hfz72_0 := blk_frozen BK116.out; have hcz73_0 := cz4 BK126.out; have hfz73_0 := blk_frozen BK126.out))
           go_ret
           exact bfin (bel HB.out)
        ·rw [if_neg c32] at H
         have c32b0 : (a0_4 == 0) = false := beq_eq_false_iff_ne.mpr c32
         have c32b1 : (a0_4 != 0) = true := bne_iff_ne.mpr c32
         by_cases c74 : t128 > (wrap64 (t118 - a0_4))
         ·rw [if_pos c74] at H
          have c74b0 : decide ((wrap64 (t118 - a0_4)) < t128) = true := decide_eq_true c74
          clear c74
          obtain rfl := Option.some.inj H
          have hnb75 := NB116_117.out
          have hnc75 := NB117_116.out
          have hcz76_0 := cz6 BK116.out
          have hfz76_0 := blk_frozen BK116.out
          have hcz77_0 := cz3 BK117.out
          have hfz77_0 := blk_frozen BK117.out
          go_wp2_with (first | ((with_reducible refine gate_callee (f := 37) rfl ?_); refine gsl (some 44) Try.func37 #[.agg #[.int .i64 0, .int .i64 0, .int .i64 0, .int .i64 0], .agg #[.int .i64 a1_0, .int .i64 a1_1, .int .i64 a1_2]] ?_; (with_reducible refine (door_Open.calls kj16 0 0 0 0 a1_0 a1_1 a1_2 t121 t122 t123 t124 t125 _ A30.out).mono ?_); rintro e w78 ⟨rfl, hb⟩; refine ⟨_, rfl, ?_⟩; replace BK116 := Aside0.mk (bkb BK116.out hb); replace BK117 := Aside0.mk (bkb BK117.out hb); replace HB := Aside0.mk (bst HB.out hb); (try clear hb); (try clear hb2); (try clear hk); (try clear hi)) | ((with_reducible refine gate_dst (N := 7) rfl ?_); refine bxe (cs := #[.int .i64 0, .int .i64 0, .int .i64 0, .int .i64 0]) (t := 37) ?_; intro gb126 hg w79 hbox hb; have BK126 := Aside0.mk (hbox); have GW126 := Aside0.mk (bge hg HB.out); have GE126 := Aside0.mk (bge hg HB.out); have NB116_126 := Aside0.mk ((bkl hg BK116.out)); have NB126_116 := Aside0.mk ((bkg hg BK116.out)); have NB117_126 := Aside0.mk ((bkl hg BK117.out)); have NB126_117 := Aside0.mk ((bkg hg BK117.out)); replace BK116 := Aside0.mk (bkb BK116.out hb); replace BK117 := Aside0.mk (bkb BK117.out hb); replace HB := Aside0.mk (bst HB.out hb); clear hb hbox hg; have hnb80 := NB126_116.out; have hnc80 := NB116_126.out; have hnb81 := NB126_117.out; have hnc81 := NB117_126.out; have hcz82_0 := cz4 BK126.out; have hfz82_0 := blk_frozen BK126.out; have hcz83_0 := cz6 BK116.out; have hfz83_0 := blk_frozen BK116.out; have hcz84_0 := cz3 BK117.out; have hfz84_0 := blk_frozen BK117.out) | ((with_reducible refine gate_callee (f := 38) rfl ?_); refine gsl (some 51) Try.func38 #[.agg #[.int .i64 a0_0, .int .i64 a0_1, .int .i64 a0_2, .int .i64 a0_3], .agg #[.int .i64 a1_0, .int .i64 a1_1, .int .i64 a1_2]] ?_; (with_reducible refine (door_Rest.calls a0_0 a0_1 a0_2 a0_3 a1_0 a1_1 a1_2 t127 t128 t129 _ A31.out).mono ?_); rintro e w85 ⟨rfl, hb⟩; refine ⟨_, rfl, ?_⟩; replace BK116 := Aside0.mk (bkb BK116.out hb); replace BK117 := Aside0.mk (bkb BK117.out hb); replace BK126 := Aside0.mk (blk_below (g := gb126) (o := .cells #[.int .i64 t121, .int .i64 t122, .int .i64 t123, .int .i64 t124] 37 (0, 0)) (bkt BK126.out) hb); replace HB := Aside0.mk (bst HB.out hb); (try clear hb); (try clear hb2); (try clear hk); (try clear hi); have hcz86_0 := cz6 BK116.out; have hfz86_0 := blk_frozen BK116.out))
          go_ret
          exact bfin (bel HB.out)
         ·rw [if_neg c74] at H
          have c74b0 : decide ((wrap64 (t118 - a0_4)) < t128) = false := decide_eq_false c74
          clear c74
          obtain rfl := Option.some.inj H
          have hnb87 := NB116_117.out
          have hnc87 := NB117_116.out
          have hcz88_0 := cz6 BK116.out
          have hfz88_0 := blk_frozen BK116.out
          have hcz89_0 := cz3 BK117.out
          have hfz89_0 := blk_frozen BK117.out
          go_wp2_with (first | ((with_reducible refine gate_callee (f := 37) rfl ?_); refine gsl (some 44) Try.func37 #[.agg #[.int .i64 0, .int .i64 0, .int .i64 0, .int .i64 0], .agg #[.int .i64 a1_0, .int .i64 a1_1, .int .i64 a1_2]] ?_; (with_reducible refine (door_Open.calls kj16 0 0 0 0 a1_0 a1_1 a1_2 t121 t122 t123 t124 t125 _ A30.out).mono ?_); rintro e w90 ⟨rfl, hb⟩; refine ⟨_, rfl, ?_⟩; replace BK116 := Aside0.mk (bkb BK116.out hb); replace BK117 := Aside0.mk (bkb BK117.out hb); replace HB := Aside0.mk (bst HB.out hb); (try clear hb); (try clear hb2); (try clear hk); (try clear hi)) | ((with_reducible refine gate_dst (N := 7) rfl ?_); refine bxe (cs := #[.int .i64 0, .int .i64 0, .int .i64 0, .int .i64 0]) (t := 37) ?_; intro gb126 hg w91 hbox hb; have BK126 := Aside0.mk (hbox); have GW126 := Aside0.mk (bge hg HB.out); have GE126 := Aside0.mk (bge hg HB.out); have NB116_126 := Aside0.mk ((bkl hg BK116.out)); have NB126_116 := Aside0.mk ((bkg hg BK116.out)); have NB117_126 := Aside0.mk ((bkl hg BK117.out)); have NB126_117 := Aside0.mk ((bkg hg BK117.out)); replace BK116 := Aside0.mk (bkb BK116.out hb); replace BK117 := Aside0.mk (bkb BK117.out hb); replace HB := Aside0.mk (bst HB.out hb); clear hb hbox hg; have hnb92 := NB126_116.out; have hnc92 := NB116_126.out; have hnb93 := NB126_117.out; have hnc93 := NB117_126.out; have hcz94_0 := cz4 BK126.out; have hfz94_0 := blk_frozen BK126.out; have hcz95_0 := cz6 BK116.out; have hfz95_0 := blk_frozen BK116.out; have hcz96_0 := cz3 BK117.out; have hfz96_0 := blk_frozen BK117.out) | ((with_reducible refine gate_callee (f := 38) rfl ?_); refine gsl (some 51) Try.func38 #[.agg #[.int .i64 a0_0, .int .i64 a0_1, .int .i64 a0_2, .int .i64 a0_3], .agg #[.int .i64 a1_0, .int .i64 a1_1, .int .i64 a1_2]] ?_; (with_reducible refine (door_Rest.calls a0_0 a0_1 a0_2 a0_3 a1_0 a1_1 a1_2 t127 t128 t129 _ A31.out).mono ?_); rintro e w97 ⟨rfl, hb⟩; refine ⟨_, rfl, ?_⟩; replace BK116 := Aside0.mk (bkb BK116.out hb); replace BK117 := Aside0.mk (bkb BK117.out hb); replace BK126 := Aside0.mk (blk_below (g := gb126) (o := .cells #[.int .i64 t121, .int .i64 t122, .int .i64 t123, .int .i64 t124] 37 (0, 0)) (bkt BK126.out) hb); replace HB := Aside0.mk (bst HB.out hb); (try clear hb); (try clear hb2); (try clear hk); (try clear hi); have hcz98_0 := cz6 BK116.out; have hfz98_0 := blk_frozen BK116.out))
          go_ret
          exact bfin (bel HB.out)
   ·rw [if_neg c16] at H
    have c16b0 : (x6_3 == 0) = false := beq_eq_false_iff_ne.mpr c16
    have c16b1 : (x6_3 != 0) = true := bne_iff_ne.mpr c16
    obtain rfl := Option.some.inj H
    go_wp2
    go_ret
    exact bfin (bel HB.out)

/-! ### cycle_Panels: function 11 -/
def cycle_Panels.f (a0_0 : Int) (a0_1 : Int) (a0_2 : Int) (l1 : List Bool) : Option (List Int × Int) := (cycle_panels.f a0_0 a0_1 a0_2 l1 0 false).bind fun bt171 => (some (bt171.1, bt171.2))
set_option maxHeartbeats 8000000 in
set_option maxRecDepth 100000 in
theorem cycle_Panels.calls (a0_0 : Int) (a0_1 : Int) (a0_2 : Int) (A1 : Option Addr) (c1 : Nat) (l1 : List Bool) (r1 : List Int) (r2 : Int) (w : World) (hr1 : Kd.C Kd.bool w A1 l1.length l1) (hc1 : l1.length ≤ c1) (h : cycle_Panels.f a0_0 a0_1 a0_2 l1 = some (r1, r2)) :
  Calls Try.prog 11 #[.agg #[.int .i64 a0_0, .int .i64 a0_1, .int .i64 a0_2], .slice A1 l1.length c1] w fun e w' => ∃ v0_ : Value, e = .returned (.tuple #[v0_, .int .i64 r2]) ∧ Kd.R (Kd.int .i64) 3 w' w.heap.size (fun _ => True) v0_ r1 ∧ Below w.heap.size w w' := by
 have hu23 := Try.underlying23
 have HR1 := Aside0.mk hr1
 have HC1 := Aside0.mk hc1
 clear hr1 hc1
 have HB := Aside0.mk (Below.refl w.heap.size w)
 have H : ((cycle_panels.f a0_0 a0_1 a0_2 l1 0 false).bind fun bt171 => (some (bt171.1, bt171.2))) = some (r1, r2) := h
 clear h
 replace H := Option.bind_eq_some_iff.mp H
 obtain ⟨⟨t171, t174⟩, A30, H⟩ := H
 replace H : (some (t171, t174)) = some (r1, r2) := H
 have A3 := Aside0.mk A30
 clear A30
 simp only [Option.some.injEq, Prod.mk.injEq] at H
 obtain ⟨rfl, rfl⟩ := H
 go_enter Try.func11, Try.ntmps11
 go_wp2_with (first | ((with_reducible refine gate_dst (N := 2) rfl ?_); refine bxe (cs := #[.int .i64 a0_0, .int .i64 a0_1, .int .i64 a0_2]) (t := 23) ?_; intro gb170 hg w4 hbox hb; have BK170 := Aside0.mk (hbox); have GW170 := Aside0.mk (bge hg HB.out); have GE170 := Aside0.mk (bge hg HB.out); replace HB := Aside0.mk (bst HB.out hb); clear hb hbox hg; have hcz5_0 := cz3 BK170.out; have hfz5_0 := blk_frozen BK170.out) | ((with_reducible refine gate_callee (f := 32) rfl ?_); refine gsl (some 8) Try.func32 #[.agg #[.int .i64 a0_0, .int .i64 a0_1, .int .i64 a0_2], .slice A1 l1.length c1, .int .i64 0, .bool false] ?_; (with_reducible refine (cycle_panels.calls a0_0 a0_1 a0_2 _ _ l1 0 false t171 t174 _ ?side1 ?side2 A3.out).mono ?_); (case side1 => repeat (first | exact (Kd.C_below HR1.out HB.out) | (with_reducible refine Kd.C_alloc ?_ _) | (with_reducible refine Kd.C_drewN ?_ _) | (with_reducible refine Kd.C_drew ?_))); (case side2 => exact HC1.out); rintro e w6 ⟨v172, rfl, ho0, hb⟩; refine ⟨_, rfl, ?_⟩; have HO173 := Aside0.mk (Kd.R_lower ho0 (bsz HB.out)); replace BK170 := Aside0.mk (bkb BK170.out hb); replace HB := Aside0.mk (bst HB.out hb); (try clear hb); (try clear hb2); (try clear hk); (try clear hi); (try clear ho0)))
 go_ret2
 exact ⟨_, by first | rfl | (simp [errW_none, errW_some] <;> rfl) | (simp [*, errW_none, errW_some] <;> rfl), by (with_reducible repeat (first | apply Kd.R_alloc | apply Kd.R_drewN | apply Kd.R_drew)); exact HO173.out, bel HB.out⟩

/-! ### cycle_Forced: function 13 -/
def cycle_Forced.f (a0_0 : Int) (a0_1 : Int) (a0_2 : Int) (l1 : List Bool) (a2 : Int) : Option (List Int × Int) := (cycle_panels.f a0_0 a0_1 a0_2 l1 a2 true).bind fun bt192 => (some (bt192.1, bt192.2))
set_option maxHeartbeats 8000000 in
set_option maxRecDepth 100000 in
theorem cycle_Forced.calls (a0_0 : Int) (a0_1 : Int) (a0_2 : Int) (A1 : Option Addr) (c1 : Nat) (l1 : List Bool) (a2 : Int) (r1 : List Int) (r2 : Int) (w : World) (hr1 : Kd.C Kd.bool w A1 l1.length l1) (hc1 : l1.length ≤ c1) (h : cycle_Forced.f a0_0 a0_1 a0_2 l1 a2 = some (r1, r2)) :
  Calls Try.prog 13 #[.agg #[.int .i64 a0_0, .int .i64 a0_1, .int .i64 a0_2], .slice A1 l1.length c1, .int .i64 a2] w fun e w' => ∃ v0_ : Value, e = .returned (.tuple #[v0_, .int .i64 r2]) ∧ Kd.R (Kd.int .i64) 3 w' w.heap.size (fun _ => True) v0_ r1 ∧ Below w.heap.size w w' := by
 have hu23 := Try.underlying23
 have HR1 := Aside0.mk hr1
 have HC1 := Aside0.mk hc1
 clear hr1 hc1
 have HB := Aside0.mk (Below.refl w.heap.size w)
 have H : ((cycle_panels.f a0_0 a0_1 a0_2 l1 a2 true).bind fun bt192 => (some (bt192.1, bt192.2))) = some (r1, r2) := h
 clear h
 replace H := Option.bind_eq_some_iff.mp H
 obtain ⟨⟨t192, t195⟩, A40, H⟩ := H
 replace H : (some (t192, t195)) = some (r1, r2) := H
 have A4 := Aside0.mk A40
 clear A40
 simp only [Option.some.injEq, Prod.mk.injEq] at H
 obtain ⟨rfl, rfl⟩ := H
 go_enter Try.func13, Try.ntmps13
 go_wp2_with (first | ((with_reducible refine gate_dst (N := 3) rfl ?_); refine bxe (cs := #[.int .i64 a0_0, .int .i64 a0_1, .int .i64 a0_2]) (t := 23) ?_; intro gb191 hg w5 hbox hb; have BK191 := Aside0.mk (hbox); have GW191 := Aside0.mk (bge hg HB.out); have GE191 := Aside0.mk (bge hg HB.out); replace HB := Aside0.mk (bst HB.out hb); clear hb hbox hg; have hcz6_0 := cz3 BK191.out; have hfz6_0 := blk_frozen BK191.out) | ((with_reducible refine gate_callee (f := 32) rfl ?_); refine gsl (some 11) Try.func32 #[.agg #[.int .i64 a0_0, .int .i64 a0_1, .int .i64 a0_2], .slice A1 l1.length c1, .int .i64 a2, .bool true] ?_; (with_reducible refine (cycle_panels.calls a0_0 a0_1 a0_2 _ _ l1 a2 true t192 t195 _ ?side1 ?side2 A4.out).mono ?_); (case side1 => repeat (first | exact (Kd.C_below HR1.out HB.out) | (with_reducible refine Kd.C_alloc ?_ _) | (with_reducible refine Kd.C_drewN ?_ _) | (with_reducible refine Kd.C_drew ?_))); (case side2 => exact HC1.out); rintro e w7 ⟨v193, rfl, ho0, hb⟩; refine ⟨_, rfl, ?_⟩; have HO194 := Aside0.mk (Kd.R_lower ho0 (bsz HB.out)); replace BK191 := Aside0.mk (bkb BK191.out hb); replace HB := Aside0.mk (bst HB.out hb); (try clear hb); (try clear hb2); (try clear hk); (try clear hi); (try clear ho0)))
 go_ret2
 exact ⟨_, by first | rfl | (simp [errW_none, errW_some] <;> rfl) | (simp [*, errW_none, errW_some] <;> rfl), by (with_reducible repeat (first | apply Kd.R_alloc | apply Kd.R_drewN | apply Kd.R_drew)); exact HO194.out, bel HB.out⟩

end Go.Proofs.Ytmjmdnpenpdmhaa.P
