-- Printed by wip/myprint.py of this repo (over the kit's printer). Not trusted: Lean checks it.
import Derived.Test.YtckaofgkepcibaaP0
import Derived.Test.YtckaofgkepcibaaP0drive
namespace Go.Proofs.Ytckaofgkepcibaa.P
open Go.RowKit Go.Proofs.YtckaofgkepcibaaW.PrintWords Go.Proofs.YtckaofgkepcibaaW.PrintLast Go.Proofs.YtckaofgkepcibaaW.PrintMore
attribute [local go_sem] cell_same1 cell_some1
attribute [local go_sem] max2_int min2_int max_two min_two max_three min_three max_four min_four   -- for this text's walks alone
set_option linter.unusedVariables false
set_option linter.unusedSimpArgs false

/-! ### drive_rule_checked: function 50 -/
def drive_rule_checked.j0 : Nat → Bool → Int → Int → Int → Int → Int → Int → Int → Option (Int)
 | 0, _, _, _, _, _, _, _, _ => none
 | k + 1, x14, x128000, x128001, x129000, x129001, x129002, x129003, x129004 => if x14 = true then (some 2) else (if x129002 > x128000 then (some 3) else (if x129004 > x128001 then (some 3) else (some 0)))
def drive_rule_checked.f (k : Nat) (a0_0 : Int) (a0_1 : Int) (a1_0 : Int) (a1_1 : Int) (a1_2 : Int) (a1_3 : Int) (a1_4 : Int) (a2 : Int) : Option (Int) := (drive_Check.f k a1_0 a1_1 a1_2 a1_3 a1_4).bind fun t129 => (if t129 = 0 then ((drive_rule_valid.f a0_0 a0_1).bind fun t130 => (if t130 = true then (if a2 < 0 then (drive_rule_checked.j0 k true a0_0 a0_1 a1_0 a1_1 a1_2 a1_3 a1_4) else (drive_rule_checked.j0 k (decide (a2 > 200000)) a0_0 a0_1 a1_0 a1_1 a1_2 a1_3 a1_4)) else (drive_rule_checked.j0 k true a0_0 a0_1 a1_0 a1_1 a1_2 a1_3 a1_4))) else (some t129))
theorem drive_rule_checked.mono_l : ∀ k, (∀ y0 y1 y2 y3 y4 y5 y6 y7, LeO (drive_rule_checked.j0 k y0 y1 y2 y3 y4 y5 y6 y7) (drive_rule_checked.j0 (k + 1) y0 y1 y2 y3 y4 y5 y6 y7))
 | 0 => fun _ _ _ _ _ _ _ _ r h => by simp [drive_rule_checked.j0] at h
 | k + 1 => by
  have ih0 := drive_rule_checked.mono_l k
  ·intro y0 y1 y2 y3 y4 y5 y6 y7
   unfold drive_rule_checked.j0
   repeat' first
   | (with_reducible exact ih0 _ _ _ _ _ _ _ _)
   | (with_reducible exact drive_Check.mono _ _ _ _ _ _)
   | (with_reducible exact LeO.refl _)
   | (with_reducible exact LeO.none _)
   | (with_reducible refine LeO.ite ?_ ?_)
   | (with_reducible refine LeO.bind ?_ (fun _ => ?_))
   | exact ih0 _ _ _ _ _ _ _ _
   | exact drive_Check.mono _ _ _ _ _ _
   | exact LeO.none _
   | refine LeO.ite ?_ ?_
   | refine LeO.bind ?_ (fun _ => ?_)
theorem drive_rule_checked.mono : ∀ a0 a1 a2 a3 a4 a5 a6 a7 k, LeO (drive_rule_checked.f k a0 a1 a2 a3 a4 a5 a6 a7) (drive_rule_checked.f (k + 1) a0 a1 a2 a3 a4 a5 a6 a7) := by
 intro a0 a1 a2 a3 a4 a5 a6 a7 k
 have ih0 := drive_rule_checked.mono_l k
 unfold drive_rule_checked.f
 repeat' first
   | (with_reducible exact ih0 _ _ _ _ _ _ _ _)
   | (with_reducible exact drive_Check.mono _ _ _ _ _ _)
   | (with_reducible exact LeO.refl _)
   | (with_reducible exact LeO.none _)
   | (with_reducible refine LeO.ite ?_ ?_)
   | (with_reducible refine LeO.bind ?_ (fun _ => ?_))
   | exact ih0 _ _ _ _ _ _ _ _
   | exact drive_Check.mono _ _ _ _ _ _
   | exact LeO.none _
   | refine LeO.ite ?_ ?_
   | refine LeO.bind ?_ (fun _ => ?_)
set_option maxHeartbeats 8000000 in
set_option maxRecDepth 100000 in
theorem drive_rule_checked.calls (k : Nat) (a0_0 : Int) (a0_1 : Int) (a1_0 : Int) (a1_1 : Int) (a1_2 : Int) (a1_3 : Int) (a1_4 : Int) (a2 : Int) (r : Int) (w : World) (h : drive_rule_checked.f k a0_0 a0_1 a1_0 a1_1 a1_2 a1_3 a1_4 a2 = some r) :
  Calls Try.prog 50 #[.agg #[.int .i64 a0_0, .int .i64 a0_1], .agg #[.int .i64 a1_0, .int .i64 a1_1, .int .i64 a1_2, .int .i64 a1_3, .int .i64 a1_4], .int .i64 a2] w fun e w' => e = .returned (.int .i64 r) ∧ Below w.heap.size w w' := by
 have hu85 := Try.underlying85
 have hu33 := Try.underlying33
 have HB := Aside0.mk (Below.refl w.heap.size w)
 have H : ((drive_Check.f k a1_0 a1_1 a1_2 a1_3 a1_4).bind fun t129 => (if t129 = 0 then ((drive_rule_valid.f a0_0 a0_1).bind fun t130 => (if t130 = true then (if a2 < 0 then (drive_rule_checked.j0 k true a0_0 a0_1 a1_0 a1_1 a1_2 a1_3 a1_4) else (drive_rule_checked.j0 k (decide (a2 > 200000)) a0_0 a0_1 a1_0 a1_1 a1_2 a1_3 a1_4)) else (drive_rule_checked.j0 k true a0_0 a0_1 a1_0 a1_1 a1_2 a1_3 a1_4))) else (some t129))) = some r := h
 clear h
 replace H := Option.bind_eq_some_iff.mp H
 obtain ⟨t129, A40, H⟩ := H
 replace H : (if t129 = 0 then ((drive_rule_valid.f a0_0 a0_1).bind fun t130 => (if t130 = true then (if a2 < 0 then (drive_rule_checked.j0 k true a0_0 a0_1 a1_0 a1_1 a1_2 a1_3 a1_4) else (drive_rule_checked.j0 k (decide (a2 > 200000)) a0_0 a0_1 a1_0 a1_1 a1_2 a1_3 a1_4)) else (drive_rule_checked.j0 k true a0_0 a0_1 a1_0 a1_1 a1_2 a1_3 a1_4))) else (some t129)) = some r := H
 have A4 := Aside0.mk A40
 clear A40
 by_cases c5 : t129 = 0
 ·rw [if_pos c5] at H
  have c5b0 : (t129 == 0) = true := beq_iff_eq.mpr c5
  have c5b1 : (t129 != 0) = false := bne_eq_false_iff_eq.mpr c5
  clear c5
  have HC6 := Aside0.mk H
  clear H
  go_enter Try.func50, Try.ntmps50
  go_upto_region 4 with (first | ((with_reducible refine gate_dst (N := 3) rfl ?_); refine bxe (cs := #[.int .i64 a0_0, .int .i64 a0_1]) (t := 85) ?_; intro gb127 hg w7 hbox hb; have BK127 := Aside0.mk (hbox); have GW127 := Aside0.mk (bge hg HB.out); have GE127 := Aside0.mk (bge hg HB.out); replace HB := Aside0.mk (bst HB.out hb); clear hb hbox hg) | ((with_reducible refine gate_dst (N := 4) rfl ?_); refine bxe (cs := #[.int .i64 a1_0, .int .i64 a1_1, .int .i64 a1_2, .int .i64 a1_3, .int .i64 a1_4]) (t := 33) ?_; intro gb128 hg w8 hbox hb; have BK128 := Aside0.mk (hbox); have GW128 := Aside0.mk (bge hg HB.out); have GE128 := Aside0.mk (bge hg HB.out); have NB127_128 := Aside0.mk ((bkl hg BK127.out)); have NB128_127 := Aside0.mk ((bkg hg BK127.out)); replace BK127 := Aside0.mk (bkb BK127.out hb); replace HB := Aside0.mk (bst HB.out hb); clear hb hbox hg; have hnb9 := NB128_127.out; have hnc9 := NB127_128.out; have hcz10_0 := cz5 BK128.out; have hfz10_0 := blk_frozen BK128.out) | ((with_reducible refine gate_callee (f := 45) rfl ?_); refine gsl (some 9) Try.func45 #[.agg #[.int .i64 a1_0, .int .i64 a1_1, .int .i64 a1_2, .int .i64 a1_3, .int .i64 a1_4]] ?_; (with_reducible refine (drive_Check.calls k a1_0 a1_1 a1_2 a1_3 a1_4 t129 _ A4.out).mono ?_); rintro e w11 ⟨rfl, hb⟩; refine ⟨_, rfl, ?_⟩; replace BK127 := Aside0.mk (bkb BK127.out hb); replace BK128 := Aside0.mk (bkb BK128.out hb); replace HB := Aside0.mk (bst HB.out hb); (try clear hb); (try clear hb2); (try clear hk); (try clear hi)))
  (try simp only [Act.put, List.setIfInBounds_toArray, List.set_cons_zero, List.set_cons_succ])
  go_cut [14] (fun v14 wc => ∃ (kq : Nat) (x14_5 : Bool), v14 = .bool x14_5 ∧ Aside0 (drive_rule_checked.j0 kq x14_5 a0_0 a0_1 a1_0 a1_1 a1_2 a1_3 a1_4 = some r) ∧ Aside0 (kq ≤ k) ∧ Aside0 (wc.heap[gb127]? = some (.cells #[.int .i64 a0_0, .int .i64 a0_1] 85 (0, 0))) ∧ Aside0 (wc.heap[gb128]? = some (.cells #[.int .i64 a1_0, .int .i64 a1_1, .int .i64 a1_2, .int .i64 a1_3, .int .i64 a1_4] 33 (0, 0))) ∧ Aside0 (Below w.heap.size w wc))
  case first =>
   have H := HC6.out
   clear HC6
   replace H := Option.bind_eq_some_iff.mp H
   obtain ⟨t130, A120, H⟩ := H
   replace H : (if t130 = true then (if a2 < 0 then (drive_rule_checked.j0 k true a0_0 a0_1 a1_0 a1_1 a1_2 a1_3 a1_4) else (drive_rule_checked.j0 k (decide (a2 > 200000)) a0_0 a0_1 a1_0 a1_1 a1_2 a1_3 a1_4)) else (drive_rule_checked.j0 k true a0_0 a0_1 a1_0 a1_1 a1_2 a1_3 a1_4)) = some r := H
   have A12 := Aside0.mk A120
   clear A120
   by_cases c13 : t130 = true
   ·subst c13
    have H1 : (if a2 < 0 then (drive_rule_checked.j0 k true a0_0 a0_1 a1_0 a1_1 a1_2 a1_3 a1_4) else (drive_rule_checked.j0 k (decide (a2 > 200000)) a0_0 a0_1 a1_0 a1_1 a1_2 a1_3 a1_4)) = some r := by rw [if_pos rfl] at H; exact H
    clear H
    have H := H1
    clear H1
    by_cases c14 : a2 < 0
    ·rw [if_pos c14] at H
     have c14b0 : decide (a2 < 0) = true := decide_eq_true c14
     clear c14
     (first | rw [c14b0] | (simp only [i64_w, i32_w]; rw [c14b0]) | skip)
     have H' := Aside0.mk H
     clear H
     have hnb15 := NB127_128.out
     have hnc15 := NB128_127.out
     have hcz16_0 := cz2 BK127.out
     have hfz16_0 := blk_frozen BK127.out
     go_wp2_with (first | ((with_reducible refine gate_callee (f := 59) rfl ?_); refine gsl (some 16) Try.func59 #[.agg #[.int .i64 a0_0, .int .i64 a0_1]] ?_; (with_reducible refine (drive_rule_valid.calls a0_0 a0_1 true _ A12.out).mono ?_); rintro e w17 ⟨rfl, hb⟩; refine ⟨_, rfl, ?_⟩; replace BK127 := Aside0.mk (bkb BK127.out hb); replace BK128 := Aside0.mk (bkb BK128.out hb); replace HB := Aside0.mk (bst HB.out hb); (try clear hb); (try clear hb2); (try clear hk); (try clear hi)))
     go_meet
     case rel => exact ⟨_, (true), (by first | rfl | (simp; done) | (simp [*]; done)), H', ⟨by first | omega | exact Nat.le_refl _⟩, ⟨bkt BK127.out⟩, ⟨bkt BK128.out⟩, ⟨bel HB.out⟩⟩
    ·rw [if_neg c14] at H
     have c14b0 : decide (a2 < 0) = false := decide_eq_false c14
     clear c14
     (first | rw [c14b0] | (simp only [i64_w, i32_w]; rw [c14b0]) | skip)
     have H' := Aside0.mk H
     clear H
     have hnb18 := NB127_128.out
     have hnc18 := NB128_127.out
     have hcz19_0 := cz2 BK127.out
     have hfz19_0 := blk_frozen BK127.out
     go_wp2_with (first | ((with_reducible refine gate_callee (f := 59) rfl ?_); refine gsl (some 16) Try.func59 #[.agg #[.int .i64 a0_0, .int .i64 a0_1]] ?_; (with_reducible refine (drive_rule_valid.calls a0_0 a0_1 true _ A12.out).mono ?_); rintro e w20 ⟨rfl, hb⟩; refine ⟨_, rfl, ?_⟩; replace BK127 := Aside0.mk (bkb BK127.out hb); replace BK128 := Aside0.mk (bkb BK128.out hb); replace HB := Aside0.mk (bst HB.out hb); (try clear hb); (try clear hb2); (try clear hk); (try clear hi)))
     go_meet
     case rel => exact ⟨_, (decide (a2 > 200000)), (by first | rfl | (simp; done) | (simp [*]; done)), H', ⟨by first | omega | exact Nat.le_refl _⟩, ⟨bkt BK127.out⟩, ⟨bkt BK128.out⟩, ⟨bel HB.out⟩⟩
   ·replace c13 := Bool.eq_false_iff.mpr c13
    subst c13
    have H1 : (drive_rule_checked.j0 k true a0_0 a0_1 a1_0 a1_1 a1_2 a1_3 a1_4) = some r := by rw [if_neg (show ¬ (false = true) by decide)] at H; exact H
    clear H
    have H := H1
    clear H1
    have H' := Aside0.mk H
    clear H
    have hnb21 := NB127_128.out
    have hnc21 := NB128_127.out
    have hcz22_0 := cz2 BK127.out
    have hfz22_0 := blk_frozen BK127.out
    go_wp2_with (first | ((with_reducible refine gate_callee (f := 59) rfl ?_); refine gsl (some 16) Try.func59 #[.agg #[.int .i64 a0_0, .int .i64 a0_1]] ?_; (with_reducible refine (drive_rule_valid.calls a0_0 a0_1 false _ A12.out).mono ?_); rintro e w23 ⟨rfl, hb⟩; refine ⟨_, rfl, ?_⟩; replace BK127 := Aside0.mk (bkb BK127.out hb); replace BK128 := Aside0.mk (bkb BK128.out hb); replace HB := Aside0.mk (bst HB.out hb); (try clear hb); (try clear hb2); (try clear hk); (try clear hi)))
    go_meet
    case rel => exact ⟨_, (true), (by first | rfl | (simp; done) | (simp [*]; done)), H', ⟨by first | omega | exact Nat.le_refl _⟩, ⟨bkt BK127.out⟩, ⟨bkt BK128.out⟩, ⟨bel HB.out⟩⟩
  case rest =>
   clear HC6
   try clear c1
   try clear c2
   try clear p2
   try clear c4
   try clear c5
   try clear c5b0
   try clear c5b1
   try clear c9
   try clear c13
   try clear c14
   try clear c14b0
   try clear c15
   try clear c18
   try clear c21
   try clear hcz10_0
   try clear hcz16_0
   try clear hcz19_0
   try clear hcz22_0
   try clear hfz10_0
   try clear hfz16_0
   try clear hfz19_0
   try clear hfz22_0
   obtain ⟨kq, x14_5, rfl, HA, HJ5, BK127, BK128, HB⟩ := hcut
   cases kq with
   | zero => exact absurd HA.out (by simp [drive_rule_checked.j0])
   | succ kj5 =>
    have H := HA.out
    clear HA
    simp only [drive_rule_checked.j0] at H
    by_cases c24 : x14_5 = true
    ·subst c24
     have H1 : (some 2) = some r := by rw [if_pos rfl] at H; exact H
     clear H
     have H := H1
     clear H1
     obtain rfl := Option.some.inj H
     go_wp2
     go_ret
     exact bfin (bel HB.out)
    ·replace c24 := Bool.eq_false_iff.mpr c24
     subst c24
     have H1 : (if a1_2 > a0_0 then (some 3) else (if a1_4 > a0_1 then (some 3) else (some 0))) = some r := by rw [if_neg (show ¬ (false = true) by decide)] at H; exact H
     clear H
     have H := H1
     clear H1
     by_cases c25 : a1_2 > a0_0
     ·rw [if_pos c25] at H
      have c25b0 : decide (a0_0 < a1_2) = true := decide_eq_true c25
      clear c25
      obtain rfl := Option.some.inj H
      have hnb26 := NB128_127.out
      have hnc26 := NB127_128.out
      have hcz27_0 := cz5 BK128.out
      have hfz27_0 := blk_frozen BK128.out
      have hcz28_0 := cz2 BK127.out
      have hfz28_0 := blk_frozen BK127.out
      go_wp2
      go_ret
      exact bfin (bel HB.out)
     ·rw [if_neg c25] at H
      have c25b0 : decide (a0_0 < a1_2) = false := decide_eq_false c25
      clear c25
      by_cases c29 : a1_4 > a0_1
      ·rw [if_pos c29] at H
       have c29b0 : decide (a0_1 < a1_4) = true := decide_eq_true c29
       clear c29
       obtain rfl := Option.some.inj H
       have hnb30 := NB128_127.out
       have hnc30 := NB127_128.out
       have hcz31_0 := cz5 BK128.out
       have hfz31_0 := blk_frozen BK128.out
       have hcz32_0 := cz2 BK127.out
       have hfz32_0 := blk_frozen BK127.out
       go_wp2
       go_ret
       exact bfin (bel HB.out)
      ·rw [if_neg c29] at H
       have c29b0 : decide (a0_1 < a1_4) = false := decide_eq_false c29
       clear c29
       obtain rfl := Option.some.inj H
       have hnb33 := NB128_127.out
       have hnc33 := NB127_128.out
       have hcz34_0 := cz5 BK128.out
       have hfz34_0 := blk_frozen BK128.out
       have hcz35_0 := cz2 BK127.out
       have hfz35_0 := blk_frozen BK127.out
       go_wp2
       go_ret
       exact bfin (bel HB.out)
 ·rw [if_neg c5] at H
  have c5b0 : (t129 == 0) = false := beq_eq_false_iff_ne.mpr c5
  have c5b1 : (t129 != 0) = true := bne_iff_ne.mpr c5
  obtain rfl := Option.some.inj H
  go_enter Try.func50, Try.ntmps50
  go_wp2_with (first | ((with_reducible refine gate_dst (N := 3) rfl ?_); refine bxe (cs := #[.int .i64 a0_0, .int .i64 a0_1]) (t := 85) ?_; intro gb127 hg w36 hbox hb; have BK127 := Aside0.mk (hbox); have GW127 := Aside0.mk (bge hg HB.out); have GE127 := Aside0.mk (bge hg HB.out); replace HB := Aside0.mk (bst HB.out hb); clear hb hbox hg) | ((with_reducible refine gate_dst (N := 4) rfl ?_); refine bxe (cs := #[.int .i64 a1_0, .int .i64 a1_1, .int .i64 a1_2, .int .i64 a1_3, .int .i64 a1_4]) (t := 33) ?_; intro gb128 hg w37 hbox hb; have BK128 := Aside0.mk (hbox); have GW128 := Aside0.mk (bge hg HB.out); have GE128 := Aside0.mk (bge hg HB.out); have NB127_128 := Aside0.mk ((bkl hg BK127.out)); have NB128_127 := Aside0.mk ((bkg hg BK127.out)); replace BK127 := Aside0.mk (bkb BK127.out hb); replace HB := Aside0.mk (bst HB.out hb); clear hb hbox hg; have hnb38 := NB128_127.out; have hnc38 := NB127_128.out; have hcz39_0 := cz5 BK128.out; have hfz39_0 := blk_frozen BK128.out) | ((with_reducible refine gate_callee (f := 45) rfl ?_); refine gsl (some 9) Try.func45 #[.agg #[.int .i64 a1_0, .int .i64 a1_1, .int .i64 a1_2, .int .i64 a1_3, .int .i64 a1_4]] ?_; (with_reducible refine (drive_Check.calls k a1_0 a1_1 a1_2 a1_3 a1_4 t129 _ A4.out).mono ?_); rintro e w40 ⟨rfl, hb⟩; refine ⟨_, rfl, ?_⟩; replace BK127 := Aside0.mk (bkb BK127.out hb); replace BK128 := Aside0.mk (bkb BK128.out hb); replace HB := Aside0.mk (bst HB.out hb); (try clear hb); (try clear hb2); (try clear hk); (try clear hi)))
  go_ret
  exact bfin (bel HB.out)

-- NOT PRINTED: function 60 (drive_rule_ticks)

/-! ### drive_goes: function 47 -/
def drive_goes.f (a0_0 : Int) (a0_1 : Int) (a0_2 : Int) (a0_3 : Int) (a0_4 : Int) (a1 : Int) (a2 : Int) : Option (Int × Int × Int × Int × Int) := if a1 = a0_0 then (some (a0_0, a0_1, a0_2, a0_3, a0_4)) else (if a2 = 0 then (some (a0_0, a1, a0_2, 2, a2)) else (some (a0_0, a1, a0_2, 1, a2)))
set_option maxHeartbeats 8000000 in
set_option maxRecDepth 100000 in
theorem drive_goes.calls (a0_0 : Int) (a0_1 : Int) (a0_2 : Int) (a0_3 : Int) (a0_4 : Int) (a1 : Int) (a2 : Int) (r1 : Int) (r2 : Int) (r3 : Int) (r4 : Int) (r5 : Int) (w : World) (h : drive_goes.f a0_0 a0_1 a0_2 a0_3 a0_4 a1 a2 = some (r1, r2, r3, r4, r5)) :
  Calls Try.prog 47 #[.agg #[.int .i64 a0_0, .int .i64 a0_1, .int .i64 a0_2, .int .i64 a0_3, .int .i64 a0_4], .int .i64 a1, .int .i64 a2] w fun e w' => e = .returned (.agg #[.int .i64 r1, .int .i64 r2, .int .i64 r3, .int .i64 r4, .int .i64 r5]) ∧ Below w.heap.size w w' := by
 have hu33 := Try.underlying33
 have HB := Aside0.mk (Below.refl w.heap.size w)
 have H : (if a1 = a0_0 then (some (a0_0, a0_1, a0_2, a0_3, a0_4)) else (if a2 = 0 then (some (a0_0, a1, a0_2, 2, a2)) else (some (a0_0, a1, a0_2, 1, a2)))) = some (r1, r2, r3, r4, r5) := h
 clear h
 by_cases c4 : a1 = a0_0
 ·rw [if_pos c4] at H
  have c4b0 : (a1 == a0_0) = true := beq_iff_eq.mpr c4
  have c4b1 : (a1 != a0_0) = false := bne_eq_false_iff_eq.mpr c4
  clear c4
  simp only [Option.some.injEq, Prod.mk.injEq] at H
  obtain ⟨rfl, rfl, rfl, rfl, rfl⟩ := H
  go_enter Try.func47, Try.ntmps47
  go_wp2_with (first | ((with_reducible refine gate_dst (N := 3) rfl ?_); refine bxe (cs := #[.int .i64 a0_0, .int .i64 a0_1, .int .i64 a0_2, .int .i64 a0_3, .int .i64 a0_4]) (t := 33) ?_; intro gb135 hg w5 hbox hb; have BK135 := Aside0.mk (hbox); have GW135 := Aside0.mk (bge hg HB.out); have GE135 := Aside0.mk (bge hg HB.out); replace HB := Aside0.mk (bst HB.out hb); clear hb hbox hg) | ((with_reducible refine gate_dst (N := 6) rfl ?_); refine bxe (cs := #[.int .i64 0, .int .i64 0, .int .i64 0, .int .i64 0, .int .i64 0]) (t := 33) ?_; intro gb136 hg w6 hbox hb; have BK136 := Aside0.mk (hbox); have GW136 := Aside0.mk (bge hg HB.out); have GE136 := Aside0.mk (bge hg HB.out); have NB135_136 := Aside0.mk ((bkl hg BK135.out)); have NB136_135 := Aside0.mk ((bkg hg BK135.out)); replace BK135 := Aside0.mk (bkb BK135.out hb); replace HB := Aside0.mk (bst HB.out hb); clear hb hbox hg; have hnb7 := NB135_136.out; have hnc7 := NB136_135.out; have hcz8_0 := cz5 BK135.out; have hfz8_0 := blk_frozen BK135.out; have hcz9_0 := cz5 BK136.out; have hfz9_0 := blk_frozen BK136.out))
  refine bodyPost_ret (results_cell_row rfl _ _ gb136 33 #[.int .i64 a0_0, .int .i64 a0_1, .int .i64 a0_2, .int .i64 a0_3, .int .i64 a0_4] (0, 0) _ rfl (bkt BK136.out) Try.underlying33 rfl (by kernel_rfl)) rfl ?_
  exact bfin (bel HB.out)
 ·rw [if_neg c4] at H
  have c4b0 : (a1 == a0_0) = false := beq_eq_false_iff_ne.mpr c4
  have c4b1 : (a1 != a0_0) = true := bne_iff_ne.mpr c4
  by_cases c10 : a2 = 0
  ·rw [if_pos c10] at H
   have c10b0 : (a2 == 0) = true := beq_iff_eq.mpr c10
   have c10b1 : (a2 != 0) = false := bne_eq_false_iff_eq.mpr c10
   clear c10
   simp only [Option.some.injEq, Prod.mk.injEq] at H
   obtain ⟨rfl, rfl, rfl, rfl, rfl⟩ := H
   go_enter Try.func47, Try.ntmps47
   go_wp2_with (first | ((with_reducible refine gate_dst (N := 3) rfl ?_); refine bxe (cs := #[.int .i64 a0_0, .int .i64 a0_1, .int .i64 a0_2, .int .i64 a0_3, .int .i64 a0_4]) (t := 33) ?_; intro gb135 hg w11 hbox hb; have BK135 := Aside0.mk (hbox); have GW135 := Aside0.mk (bge hg HB.out); have GE135 := Aside0.mk (bge hg HB.out); replace HB := Aside0.mk (bst HB.out hb); clear hb hbox hg) | ((with_reducible refine gate_dst (N := 6) rfl ?_); refine bxe (cs := #[.int .i64 0, .int .i64 0, .int .i64 0, .int .i64 0, .int .i64 0]) (t := 33) ?_; intro gb136 hg w12 hbox hb; have BK136 := Aside0.mk (hbox); have GW136 := Aside0.mk (bge hg HB.out); have GE136 := Aside0.mk (bge hg HB.out); have NB135_136 := Aside0.mk ((bkl hg BK135.out)); have NB136_135 := Aside0.mk ((bkg hg BK135.out)); replace BK135 := Aside0.mk (bkb BK135.out hb); replace HB := Aside0.mk (bst HB.out hb); clear hb hbox hg; have hnb13 := NB135_136.out; have hnc13 := NB136_135.out; have hcz14_0 := cz5 BK135.out; have hfz14_0 := blk_frozen BK135.out; have hcz15_0 := cz5 BK136.out; have hfz15_0 := blk_frozen BK136.out))
   refine bodyPost_ret (results_cell_row rfl _ _ gb136 33 #[.int .i64 a0_0, .int .i64 a1, .int .i64 a0_2, .int .i64 2, .int .i64 a2] (0, 0) _ rfl (bkt BK136.out) Try.underlying33 rfl (by kernel_rfl)) rfl ?_
   exact bfin (bel HB.out)
  ·rw [if_neg c10] at H
   have c10b0 : (a2 == 0) = false := beq_eq_false_iff_ne.mpr c10
   have c10b1 : (a2 != 0) = true := bne_iff_ne.mpr c10
   simp only [Option.some.injEq, Prod.mk.injEq] at H
   obtain ⟨rfl, rfl, rfl, rfl, rfl⟩ := H
   go_enter Try.func47, Try.ntmps47
   go_wp2_with (first | ((with_reducible refine gate_dst (N := 3) rfl ?_); refine bxe (cs := #[.int .i64 a0_0, .int .i64 a0_1, .int .i64 a0_2, .int .i64 a0_3, .int .i64 a0_4]) (t := 33) ?_; intro gb135 hg w16 hbox hb; have BK135 := Aside0.mk (hbox); have GW135 := Aside0.mk (bge hg HB.out); have GE135 := Aside0.mk (bge hg HB.out); replace HB := Aside0.mk (bst HB.out hb); clear hb hbox hg) | ((with_reducible refine gate_dst (N := 6) rfl ?_); refine bxe (cs := #[.int .i64 0, .int .i64 0, .int .i64 0, .int .i64 0, .int .i64 0]) (t := 33) ?_; intro gb136 hg w17 hbox hb; have BK136 := Aside0.mk (hbox); have GW136 := Aside0.mk (bge hg HB.out); have GE136 := Aside0.mk (bge hg HB.out); have NB135_136 := Aside0.mk ((bkl hg BK135.out)); have NB136_135 := Aside0.mk ((bkg hg BK135.out)); replace BK135 := Aside0.mk (bkb BK135.out hb); replace HB := Aside0.mk (bst HB.out hb); clear hb hbox hg; have hnb18 := NB135_136.out; have hnc18 := NB136_135.out; have hcz19_0 := cz5 BK135.out; have hfz19_0 := blk_frozen BK135.out; have hcz20_0 := cz5 BK136.out; have hfz20_0 := blk_frozen BK136.out))
   refine bodyPost_ret (results_cell_row rfl _ _ gb136 33 #[.int .i64 a0_0, .int .i64 a1, .int .i64 a0_2, .int .i64 1, .int .i64 a2] (0, 0) _ rfl (bkt BK136.out) Try.underlying33 rfl (by kernel_rfl)) rfl ?_
   exact bfin (bel HB.out)

/-! ### drive_Go: function 30 -/
def drive_Go.j0 : Nat → Int → Int → Bool → Int → Int → Int → Int → Int → Option (Int × Int × Int × Int × Int × Int)
 | 0, _, _, _, _, _, _, _, _ => none
 | k + 1, x1, x2, x16, x138000, x138001, x138002, x138003, x138004 => if x16 = true then (some (0, 0, 0, 0, 0, 2)) else (if x138003 = 0 then ((drive_goes.f x138000 x138001 x138002 x138003 x138004 x1 x2).bind fun bt141 => (some (bt141.1, bt141.2.1, bt141.2.2.1, bt141.2.2.2.1, bt141.2.2.2.2, 0))) else (some (0, 0, 0, 0, 0, 9)))
def drive_Go.f (k : Nat) (a0_0 : Int) (a0_1 : Int) (a0_2 : Int) (a0_3 : Int) (a0_4 : Int) (a1 : Int) (a2 : Int) : Option (Int × Int × Int × Int × Int × Int) := (drive_Check.f k a0_0 a0_1 a0_2 a0_3 a0_4).bind fun t139 => (if t139 = 0 then ((drive_at.f a1).bind fun t140 => (if t140 = true then (if a2 < 0 then (drive_Go.j0 k a1 a2 true a0_0 a0_1 a0_2 a0_3 a0_4) else (drive_Go.j0 k a1 a2 (decide (a2 > 5)) a0_0 a0_1 a0_2 a0_3 a0_4)) else (drive_Go.j0 k a1 a2 true a0_0 a0_1 a0_2 a0_3 a0_4))) else (some (0, 0, 0, 0, 0, t139)))
theorem drive_Go.mono_l : ∀ k, (∀ y0 y1 y2 y3 y4 y5 y6 y7, LeO (drive_Go.j0 k y0 y1 y2 y3 y4 y5 y6 y7) (drive_Go.j0 (k + 1) y0 y1 y2 y3 y4 y5 y6 y7))
 | 0 => fun _ _ _ _ _ _ _ _ r h => by simp [drive_Go.j0] at h
 | k + 1 => by
  have ih0 := drive_Go.mono_l k
  ·intro y0 y1 y2 y3 y4 y5 y6 y7
   unfold drive_Go.j0
   repeat' first
   | (with_reducible exact ih0 _ _ _ _ _ _ _ _)
   | (with_reducible exact drive_Check.mono _ _ _ _ _ _)
   | (with_reducible exact LeO.refl _)
   | (with_reducible exact LeO.none _)
   | (with_reducible refine LeO.ite ?_ ?_)
   | (with_reducible refine LeO.bind ?_ (fun _ => ?_))
   | exact ih0 _ _ _ _ _ _ _ _
   | exact drive_Check.mono _ _ _ _ _ _
   | exact LeO.none _
   | refine LeO.ite ?_ ?_
   | refine LeO.bind ?_ (fun _ => ?_)
theorem drive_Go.mono : ∀ a0 a1 a2 a3 a4 a5 a6 k, LeO (drive_Go.f k a0 a1 a2 a3 a4 a5 a6) (drive_Go.f (k + 1) a0 a1 a2 a3 a4 a5 a6) := by
 intro a0 a1 a2 a3 a4 a5 a6 k
 have ih0 := drive_Go.mono_l k
 unfold drive_Go.f
 repeat' first
   | (with_reducible exact ih0 _ _ _ _ _ _ _ _)
   | (with_reducible exact drive_Check.mono _ _ _ _ _ _)
   | (with_reducible exact LeO.refl _)
   | (with_reducible exact LeO.none _)
   | (with_reducible refine LeO.ite ?_ ?_)
   | (with_reducible refine LeO.bind ?_ (fun _ => ?_))
   | exact ih0 _ _ _ _ _ _ _ _
   | exact drive_Check.mono _ _ _ _ _ _
   | exact LeO.none _
   | refine LeO.ite ?_ ?_
   | refine LeO.bind ?_ (fun _ => ?_)
set_option maxHeartbeats 8000000 in
set_option maxRecDepth 100000 in
theorem drive_Go.calls (k : Nat) (a0_0 : Int) (a0_1 : Int) (a0_2 : Int) (a0_3 : Int) (a0_4 : Int) (a1 : Int) (a2 : Int) (r1 : Int) (r2 : Int) (r3 : Int) (r4 : Int) (r5 : Int) (r6 : Int) (w : World) (h : drive_Go.f k a0_0 a0_1 a0_2 a0_3 a0_4 a1 a2 = some (r1, r2, r3, r4, r5, r6)) :
  Calls Try.prog 30 #[.agg #[.int .i64 a0_0, .int .i64 a0_1, .int .i64 a0_2, .int .i64 a0_3, .int .i64 a0_4], .int .i64 a1, .int .i64 a2] w fun e w' => e = .returned (.tuple #[.agg #[.int .i64 r1, .int .i64 r2, .int .i64 r3, .int .i64 r4, .int .i64 r5], .int .i64 r6]) ∧ Below w.heap.size w w' := by
 have hu33 := Try.underlying33
 have HB := Aside0.mk (Below.refl w.heap.size w)
 have H : ((drive_Check.f k a0_0 a0_1 a0_2 a0_3 a0_4).bind fun t139 => (if t139 = 0 then ((drive_at.f a1).bind fun t140 => (if t140 = true then (if a2 < 0 then (drive_Go.j0 k a1 a2 true a0_0 a0_1 a0_2 a0_3 a0_4) else (drive_Go.j0 k a1 a2 (decide (a2 > 5)) a0_0 a0_1 a0_2 a0_3 a0_4)) else (drive_Go.j0 k a1 a2 true a0_0 a0_1 a0_2 a0_3 a0_4))) else (some (0, 0, 0, 0, 0, t139)))) = some (r1, r2, r3, r4, r5, r6) := h
 clear h
 replace H := Option.bind_eq_some_iff.mp H
 obtain ⟨t139, A40, H⟩ := H
 replace H : (if t139 = 0 then ((drive_at.f a1).bind fun t140 => (if t140 = true then (if a2 < 0 then (drive_Go.j0 k a1 a2 true a0_0 a0_1 a0_2 a0_3 a0_4) else (drive_Go.j0 k a1 a2 (decide (a2 > 5)) a0_0 a0_1 a0_2 a0_3 a0_4)) else (drive_Go.j0 k a1 a2 true a0_0 a0_1 a0_2 a0_3 a0_4))) else (some (0, 0, 0, 0, 0, t139))) = some (r1, r2, r3, r4, r5, r6) := H
 have A4 := Aside0.mk A40
 clear A40
 by_cases c5 : t139 = 0
 ·rw [if_pos c5] at H
  have c5b0 : (t139 == 0) = true := beq_iff_eq.mpr c5
  have c5b1 : (t139 != 0) = false := bne_eq_false_iff_eq.mpr c5
  clear c5
  have HC6 := Aside0.mk H
  clear H
  go_enter Try.func30, Try.ntmps30
  go_upto_region 4 with (first | ((with_reducible refine gate_dst (N := 3) rfl ?_); refine bxe (cs := #[.int .i64 a0_0, .int .i64 a0_1, .int .i64 a0_2, .int .i64 a0_3, .int .i64 a0_4]) (t := 33) ?_; intro gb137 hg w7 hbox hb; have BK137 := Aside0.mk (hbox); have GW137 := Aside0.mk (bge hg HB.out); have GE137 := Aside0.mk (bge hg HB.out); replace HB := Aside0.mk (bst HB.out hb); clear hb hbox hg) | ((with_reducible refine gate_dst (N := 6) rfl ?_); refine bxe (cs := #[.int .i64 0, .int .i64 0, .int .i64 0, .int .i64 0, .int .i64 0]) (t := 33) ?_; intro gb138 hg w8 hbox hb; have BK138 := Aside0.mk (hbox); have GW138 := Aside0.mk (bge hg HB.out); have GE138 := Aside0.mk (bge hg HB.out); have NB137_138 := Aside0.mk ((bkl hg BK137.out)); have NB138_137 := Aside0.mk ((bkg hg BK137.out)); replace BK137 := Aside0.mk (bkb BK137.out hb); replace HB := Aside0.mk (bst HB.out hb); clear hb hbox hg; have hnb9 := NB137_138.out; have hnc9 := NB138_137.out; have hcz10_0 := cz5 BK137.out; have hfz10_0 := blk_frozen BK137.out) | ((with_reducible refine gate_callee (f := 45) rfl ?_); refine gsl (some 10) Try.func45 #[.agg #[.int .i64 a0_0, .int .i64 a0_1, .int .i64 a0_2, .int .i64 a0_3, .int .i64 a0_4]] ?_; (with_reducible refine (drive_Check.calls k a0_0 a0_1 a0_2 a0_3 a0_4 t139 _ A4.out).mono ?_); rintro e w11 ⟨rfl, hb⟩; refine ⟨_, rfl, ?_⟩; replace BK137 := Aside0.mk (bkb BK137.out hb); replace BK138 := Aside0.mk (bkb BK138.out hb); replace HB := Aside0.mk (bst HB.out hb); (try clear hb); (try clear hb2); (try clear hk); (try clear hi)))
  (try simp only [Act.put, List.setIfInBounds_toArray, List.set_cons_zero, List.set_cons_succ])
  go_cut [16] (fun v16 wc => ∃ (kq : Nat) (x16_5 : Bool), v16 = .bool x16_5 ∧ Aside0 (drive_Go.j0 kq a1 a2 x16_5 a0_0 a0_1 a0_2 a0_3 a0_4 = some (r1, r2, r3, r4, r5, r6)) ∧ Aside0 (kq ≤ k) ∧ Aside0 (wc.heap[gb137]? = some (.cells #[.int .i64 a0_0, .int .i64 a0_1, .int .i64 a0_2, .int .i64 a0_3, .int .i64 a0_4] 33 (0, 0))) ∧ Aside0 (wc.heap[gb138]? = some (.cells #[.int .i64 0, .int .i64 0, .int .i64 0, .int .i64 0, .int .i64 0] 33 (0, 0))) ∧ Aside0 (Below w.heap.size w wc))
  case first =>
   have H := HC6.out
   clear HC6
   replace H := Option.bind_eq_some_iff.mp H
   obtain ⟨t140, A120, H⟩ := H
   replace H : (if t140 = true then (if a2 < 0 then (drive_Go.j0 k a1 a2 true a0_0 a0_1 a0_2 a0_3 a0_4) else (drive_Go.j0 k a1 a2 (decide (a2 > 5)) a0_0 a0_1 a0_2 a0_3 a0_4)) else (drive_Go.j0 k a1 a2 true a0_0 a0_1 a0_2 a0_3 a0_4)) = some (r1, r2, r3, r4, r5, r6) := H
   have A12 := Aside0.mk A120
   clear A120
   by_cases c13 : t140 = true
   ·subst c13
    have H1 : (if a2 < 0 then (drive_Go.j0 k a1 a2 true a0_0 a0_1 a0_2 a0_3 a0_4) else (drive_Go.j0 k a1 a2 (decide (a2 > 5)) a0_0 a0_1 a0_2 a0_3 a0_4)) = some (r1, r2, r3, r4, r5, r6) := by rw [if_pos rfl] at H; exact H
    clear H
    have H := H1
    clear H1
    by_cases c14 : a2 < 0
    ·rw [if_pos c14] at H
     have c14b0 : decide (a2 < 0) = true := decide_eq_true c14
     clear c14
     (first | rw [c14b0] | (simp only [i64_w, i32_w]; rw [c14b0]) | skip)
     have H' := Aside0.mk H
     clear H
     go_wp2_with (first | ((with_reducible refine gate_callee (f := 46) rfl ?_); refine gsl (some 18) Try.func46 #[.int .i64 a1] ?_; (with_reducible refine (drive_at.calls a1 true _ A12.out).mono ?_); rintro e w' ⟨rfl, ⟨nd, rfl⟩⟩; refine ⟨_, rfl, ?_⟩))
     go_meet
     case rel => exact ⟨_, (true), (by first | rfl | (simp; done) | (simp [*]; done)), H', ⟨by first | omega | exact Nat.le_refl _⟩, ⟨bkt BK137.out⟩, ⟨bkt BK138.out⟩, ⟨bel HB.out⟩⟩
    ·rw [if_neg c14] at H
     have c14b0 : decide (a2 < 0) = false := decide_eq_false c14
     clear c14
     (first | rw [c14b0] | (simp only [i64_w, i32_w]; rw [c14b0]) | skip)
     have H' := Aside0.mk H
     clear H
     go_wp2_with (first | ((with_reducible refine gate_callee (f := 46) rfl ?_); refine gsl (some 18) Try.func46 #[.int .i64 a1] ?_; (with_reducible refine (drive_at.calls a1 true _ A12.out).mono ?_); rintro e w' ⟨rfl, ⟨nd, rfl⟩⟩; refine ⟨_, rfl, ?_⟩))
     go_meet
     case rel => exact ⟨_, (decide (a2 > 5)), (by first | rfl | (simp; done) | (simp [*]; done)), H', ⟨by first | omega | exact Nat.le_refl _⟩, ⟨bkt BK137.out⟩, ⟨bkt BK138.out⟩, ⟨bel HB.out⟩⟩
   ·replace c13 := Bool.eq_false_iff.mpr c13
    subst c13
    have H1 : (drive_Go.j0 k a1 a2 true a0_0 a0_1 a0_2 a0_3 a0_4) = some (r1, r2, r3, r4, r5, r6) := by rw [if_neg (show ¬ (false = true) by decide)] at H; exact H
    clear H
    have H := H1
    clear H1
    have H' := Aside0.mk H
    clear H
    go_wp2_with (first | ((with_reducible refine gate_callee (f := 46) rfl ?_); refine gsl (some 18) Try.func46 #[.int .i64 a1] ?_; (with_reducible refine (drive_at.calls a1 false _ A12.out).mono ?_); rintro e w' ⟨rfl, ⟨nd, rfl⟩⟩; refine ⟨_, rfl, ?_⟩))
    go_meet
    case rel => exact ⟨_, (true), (by first | rfl | (simp; done) | (simp [*]; done)), H', ⟨by first | omega | exact Nat.le_refl _⟩, ⟨bkt BK137.out⟩, ⟨bkt BK138.out⟩, ⟨bel HB.out⟩⟩
  case rest =>
   clear HC6
   try clear c1
   try clear p2
   try clear c3
   try clear c4
   try clear c5
   try clear c5b0
   try clear c5b1
   try clear c9
   try clear c13
   try clear c14
   try clear c14b0
   try clear hcz10_0
   try clear hfz10_0
   obtain ⟨kq, x16_5, rfl, HA, HJ5, BK137, BK138, HB⟩ := hcut
   cases kq with
   | zero => exact absurd HA.out (by simp [drive_Go.j0])
   | succ kj5 =>
    have H := HA.out
    clear HA
    simp only [drive_Go.j0] at H
    by_cases c15 : x16_5 = true
    ·subst c15
     have H1 : (some (0, 0, 0, 0, 0, 2)) = some (r1, r2, r3, r4, r5, r6) := by rw [if_pos rfl] at H; exact H
     clear H
     have H := H1
     clear H1
     simp only [Option.some.injEq, Prod.mk.injEq] at H
     obtain ⟨rfl, rfl, rfl, rfl, rfl, rfl⟩ := H
     have hnb16 := NB138_137.out
     have hnc16 := NB137_138.out
     have hcz17_0 := cz5 BK138.out
     have hfz17_0 := blk_frozen BK138.out
     go_wp2
     refine bodyPost_ret (results_ct rfl _ _ gb138 33 #[.int .i64 0, .int .i64 0, .int .i64 0, .int .i64 0, .int .i64 0] (0, 0) _ rfl (bkt BK138.out) Try.underlying33 rfl (by kernel_rfl)) rfl ?_
     exact bfin (bel HB.out)
    ·replace c15 := Bool.eq_false_iff.mpr c15
     subst c15
     have H1 : (if a0_3 = 0 then ((drive_goes.f a0_0 a0_1 a0_2 a0_3 a0_4 a1 a2).bind fun bt141 => (some (bt141.1, bt141.2.1, bt141.2.2.1, bt141.2.2.2.1, bt141.2.2.2.2, 0))) else (some (0, 0, 0, 0, 0, 9))) = some (r1, r2, r3, r4, r5, r6) := by rw [if_neg (show ¬ (false = true) by decide)] at H; exact H
     clear H
     have H := H1
     clear H1
     by_cases c18 : a0_3 = 0
     ·rw [if_pos c18] at H
      have c18b0 : (a0_3 == 0) = true := beq_iff_eq.mpr c18
      have c18b1 : (a0_3 != 0) = false := bne_eq_false_iff_eq.mpr c18
      clear c18
      replace H := Option.bind_eq_some_iff.mp H
      obtain ⟨⟨t141, t142, t143, t144, t145⟩, A190, H⟩ := H
      replace H : (some (t141, t142, t143, t144, t145, 0)) = some (r1, r2, r3, r4, r5, r6) := H
      have A19 := Aside0.mk A190
      clear A190
      simp only [Option.some.injEq, Prod.mk.injEq] at H
      obtain ⟨rfl, rfl, rfl, rfl, rfl, rfl⟩ := H
      have hnb20 := NB137_138.out
      have hnc20 := NB138_137.out
      have hcz21_0 := cz5 BK137.out
      have hfz21_0 := blk_frozen BK137.out
      go_wp2_with (first | ((with_reducible refine gate_callee (f := 47) rfl ?_); refine gsl (some 37) Try.func47 #[.agg #[.int .i64 a0_0, .int .i64 a0_1, .int .i64 a0_2, .int .i64 a0_3, .int .i64 a0_4], .int .i64 a1, .int .i64 a2] ?_; (with_reducible refine (drive_goes.calls a0_0 a0_1 a0_2 a0_3 a0_4 a1 a2 t141 t142 t143 t144 t145 _ A19.out).mono ?_); rintro e w22 ⟨rfl, hb⟩; refine ⟨_, rfl, ?_⟩; replace BK137 := Aside0.mk (bkb BK137.out hb); replace BK138 := Aside0.mk (bkb BK138.out hb); replace HB := Aside0.mk (bst HB.out hb); (try clear hb); (try clear hb2); (try clear hk); (try clear hi); have hcz23_0 := cz5 BK138.out; have hfz23_0 := blk_frozen BK138.out))
      refine bodyPost_ret (results_ct rfl _ _ gb138 33 #[.int .i64 t141, .int .i64 t142, .int .i64 t143, .int .i64 t144, .int .i64 t145] (0, 0) _ rfl (bkt BK138.out) Try.underlying33 rfl (by kernel_rfl)) rfl ?_
      exact bfin (bel HB.out)
     ·rw [if_neg c18] at H
      have c18b0 : (a0_3 == 0) = false := beq_eq_false_iff_ne.mpr c18
      have c18b1 : (a0_3 != 0) = true := bne_iff_ne.mpr c18
      simp only [Option.some.injEq, Prod.mk.injEq] at H
      obtain ⟨rfl, rfl, rfl, rfl, rfl, rfl⟩ := H
      have hnb24 := NB137_138.out
      have hnc24 := NB138_137.out
      have hcz25_0 := cz5 BK137.out
      have hfz25_0 := blk_frozen BK137.out
      have hcz26_0 := cz5 BK138.out
      have hfz26_0 := blk_frozen BK138.out
      go_wp2
      refine bodyPost_ret (results_ct rfl _ _ gb138 33 #[.int .i64 0, .int .i64 0, .int .i64 0, .int .i64 0, .int .i64 0] (0, 0) _ rfl (bkt BK138.out) Try.underlying33 rfl (by kernel_rfl)) rfl ?_
      exact bfin (bel HB.out)
 ·rw [if_neg c5] at H
  have c5b0 : (t139 == 0) = false := beq_eq_false_iff_ne.mpr c5
  have c5b1 : (t139 != 0) = true := bne_iff_ne.mpr c5
  simp only [Option.some.injEq, Prod.mk.injEq] at H
  obtain ⟨rfl, rfl, rfl, rfl, rfl, rfl⟩ := H
  go_enter Try.func30, Try.ntmps30
  go_wp2_with (first | ((with_reducible refine gate_dst (N := 3) rfl ?_); refine bxe (cs := #[.int .i64 a0_0, .int .i64 a0_1, .int .i64 a0_2, .int .i64 a0_3, .int .i64 a0_4]) (t := 33) ?_; intro gb137 hg w27 hbox hb; have BK137 := Aside0.mk (hbox); have GW137 := Aside0.mk (bge hg HB.out); have GE137 := Aside0.mk (bge hg HB.out); replace HB := Aside0.mk (bst HB.out hb); clear hb hbox hg) | ((with_reducible refine gate_dst (N := 6) rfl ?_); refine bxe (cs := #[.int .i64 0, .int .i64 0, .int .i64 0, .int .i64 0, .int .i64 0]) (t := 33) ?_; intro gb138 hg w28 hbox hb; have BK138 := Aside0.mk (hbox); have GW138 := Aside0.mk (bge hg HB.out); have GE138 := Aside0.mk (bge hg HB.out); have NB137_138 := Aside0.mk ((bkl hg BK137.out)); have NB138_137 := Aside0.mk ((bkg hg BK137.out)); replace BK137 := Aside0.mk (bkb BK137.out hb); replace HB := Aside0.mk (bst HB.out hb); clear hb hbox hg; have hnb29 := NB137_138.out; have hnc29 := NB138_137.out; have hcz30_0 := cz5 BK137.out; have hfz30_0 := blk_frozen BK137.out) | ((with_reducible refine gate_callee (f := 45) rfl ?_); refine gsl (some 10) Try.func45 #[.agg #[.int .i64 a0_0, .int .i64 a0_1, .int .i64 a0_2, .int .i64 a0_3, .int .i64 a0_4]] ?_; (with_reducible refine (drive_Check.calls k a0_0 a0_1 a0_2 a0_3 a0_4 t139 _ A4.out).mono ?_); rintro e w31 ⟨rfl, hb⟩; refine ⟨_, rfl, ?_⟩; replace BK137 := Aside0.mk (bkb BK137.out hb); replace BK138 := Aside0.mk (bkb BK138.out hb); replace HB := Aside0.mk (bst HB.out hb); (try clear hb); (try clear hb2); (try clear hk); (try clear hi); have hcz32_0 := cz5 BK138.out; have hfz32_0 := blk_frozen BK138.out))
  refine bodyPost_ret (results_ct rfl _ _ gb138 33 #[.int .i64 0, .int .i64 0, .int .i64 0, .int .i64 0, .int .i64 0] (0, 0) _ rfl (bkt BK138.out) Try.underlying33 rfl (by kernel_rfl)) rfl ?_
  exact bfin (bel HB.out)

/-! ### drive_At: function 32 -/
def drive_At.f (a0 : Int) : Option (Int × Int × Int × Int × Int × Int) := (drive_at.f a0).bind fun t159 => (if t159 = true then (some (a0, a0, 0, 0, 0, 0)) else (some (0, 0, 0, 0, 0, 2)))
set_option maxHeartbeats 8000000 in
set_option maxRecDepth 100000 in
theorem drive_At.calls (a0 : Int) (r1 : Int) (r2 : Int) (r3 : Int) (r4 : Int) (r5 : Int) (r6 : Int) (w : World) (h : drive_At.f a0 = some (r1, r2, r3, r4, r5, r6)) :
  Calls Try.prog 32 #[.int .i64 a0] w fun e w' => e = .returned (.tuple #[.agg #[.int .i64 r1, .int .i64 r2, .int .i64 r3, .int .i64 r4, .int .i64 r5], .int .i64 r6]) ∧ Below w.heap.size w w' := by
 have hu33 := Try.underlying33
 have HB := Aside0.mk (Below.refl w.heap.size w)
 have H : ((drive_at.f a0).bind fun t159 => (if t159 = true then (some (a0, a0, 0, 0, 0, 0)) else (some (0, 0, 0, 0, 0, 2)))) = some (r1, r2, r3, r4, r5, r6) := h
 clear h
 replace H := Option.bind_eq_some_iff.mp H
 obtain ⟨t159, A20, H⟩ := H
 replace H : (if t159 = true then (some (a0, a0, 0, 0, 0, 0)) else (some (0, 0, 0, 0, 0, 2))) = some (r1, r2, r3, r4, r5, r6) := H
 have A2 := Aside0.mk A20
 clear A20
 by_cases c3 : t159 = true
 ·subst c3
  have H1 : (some (a0, a0, 0, 0, 0, 0)) = some (r1, r2, r3, r4, r5, r6) := by rw [if_pos rfl] at H; exact H
  clear H
  have H := H1
  clear H1
  simp only [Option.some.injEq, Prod.mk.injEq] at H
  obtain ⟨rfl, rfl, rfl, rfl, rfl, rfl⟩ := H
  go_enter Try.func32, Try.ntmps32
  go_wp2_with (first | ((with_reducible refine gate_dst (N := 2) rfl ?_); refine bxe (cs := #[.int .i64 0, .int .i64 0, .int .i64 0, .int .i64 0, .int .i64 0]) (t := 33) ?_; intro gb158 hg w4 hbox hb; have BK158 := Aside0.mk (hbox); have GW158 := Aside0.mk (bge hg HB.out); have GE158 := Aside0.mk (bge hg HB.out); replace HB := Aside0.mk (bst HB.out hb); clear hb hbox hg) | ((with_reducible refine gate_callee (f := 46) rfl ?_); refine gsl (some 5) Try.func46 #[.int .i64 a0] ?_; (with_reducible refine (drive_at.calls a0 true _ A2.out).mono ?_); rintro e w' ⟨rfl, ⟨nd, rfl⟩⟩; refine ⟨_, rfl, ?_⟩; (try (rw [drewN_self w4]; generalize hq_ : World.drewN w4 _ = w4; have n0_ : Aside0 (w4.heap[gb158]? = some (.cells #[.int .i64 0, .int .i64 0, .int .i64 0, .int .i64 0, .int .i64 0] 33 (0, 0))) := ⟨by rw [← hq_]; exact (bkt BK158.out)⟩; have n1_ : Aside0 (Below w.heap.size w w4) := ⟨by rw [← hq_]; exact (bel HB.out)⟩; clear BK158 HB hq_; have BK158 := n0_; have HB := n1_; clear n0_ n1_)); have hcz5_0 := cz5 BK158.out; have hfz5_0 := blk_frozen BK158.out))
  refine bodyPost_ret (results_ct rfl _ _ gb158 33 #[.int .i64 a0, .int .i64 a0, .int .i64 0, .int .i64 0, .int .i64 0] (0, 0) _ rfl (bkt BK158.out) Try.underlying33 rfl (by kernel_rfl)) rfl ?_
  exact bfin (bel HB.out)
 ·replace c3 := Bool.eq_false_iff.mpr c3
  subst c3
  have H1 : (some (0, 0, 0, 0, 0, 2)) = some (r1, r2, r3, r4, r5, r6) := by rw [if_neg (show ¬ (false = true) by decide)] at H; exact H
  clear H
  have H := H1
  clear H1
  simp only [Option.some.injEq, Prod.mk.injEq] at H
  obtain ⟨rfl, rfl, rfl, rfl, rfl, rfl⟩ := H
  go_enter Try.func32, Try.ntmps32
  go_wp2_with (first | ((with_reducible refine gate_dst (N := 2) rfl ?_); refine bxe (cs := #[.int .i64 0, .int .i64 0, .int .i64 0, .int .i64 0, .int .i64 0]) (t := 33) ?_; intro gb158 hg w6 hbox hb; have BK158 := Aside0.mk (hbox); have GW158 := Aside0.mk (bge hg HB.out); have GE158 := Aside0.mk (bge hg HB.out); replace HB := Aside0.mk (bst HB.out hb); clear hb hbox hg) | ((with_reducible refine gate_callee (f := 46) rfl ?_); refine gsl (some 5) Try.func46 #[.int .i64 a0] ?_; (with_reducible refine (drive_at.calls a0 false _ A2.out).mono ?_); rintro e w' ⟨rfl, ⟨nd, rfl⟩⟩; refine ⟨_, rfl, ?_⟩; (try (rw [drewN_self w6]; generalize hq_ : World.drewN w6 _ = w6; have n0_ : Aside0 (w6.heap[gb158]? = some (.cells #[.int .i64 0, .int .i64 0, .int .i64 0, .int .i64 0, .int .i64 0] 33 (0, 0))) := ⟨by rw [← hq_]; exact (bkt BK158.out)⟩; have n1_ : Aside0 (Below w.heap.size w w6) := ⟨by rw [← hq_]; exact (bel HB.out)⟩; clear BK158 HB hq_; have BK158 := n0_; have HB := n1_; clear n0_ n1_)); have hcz7_0 := cz5 BK158.out; have hfz7_0 := blk_frozen BK158.out))
  refine bodyPost_ret (results_ct rfl _ _ gb158 33 #[.int .i64 0, .int .i64 0, .int .i64 0, .int .i64 0, .int .i64 0] (0, 0) _ rfl (bkt BK158.out) Try.underlying33 rfl (by kernel_rfl)) rfl ?_
  exact bfin (bel HB.out)

end Go.Proofs.Ytckaofgkepcibaa.P
