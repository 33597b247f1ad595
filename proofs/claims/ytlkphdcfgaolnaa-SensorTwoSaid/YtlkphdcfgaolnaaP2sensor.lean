-- Printed by wip/myprint.py of this repo (over the kit's printer). Not trusted: Lean checks it.
import Derived.Test.YtlkphdcfgaolnaaP0
import Derived.Test.YtlkphdcfgaolnaaP0sensor
import Derived.Test.YtlkphdcfgaolnaaP2shaft
namespace Go.Proofs.Ytlkphdcfgaolnaa.P
open Go.RowKit Go.Proofs.YtlkphdcfgaolnaaW.PrintWords Go.Proofs.YtlkphdcfgaolnaaW.PrintLast Go.Proofs.YtlkphdcfgaolnaaW.PrintMore
attribute [local go_sem] cell_same1 cell_some1
attribute [local go_sem] max2_int min2_int max_two min_two max_three min_three max_four min_four   -- for this text's walks alone
set_option linter.unusedVariables false
set_option linter.unusedSimpArgs false

/-! ### sensor_Read: function 12 -/
def sensor_Read.j0 : Nat → List Int → Int → Bool → Int → Option (Bool × Int × Int × Int)
  | 0, _, _, _, _ => none
  | k + 1, x0, x1, x3, x10 => if x3 = true then ((shaft_Height.f x0).bind fun bt156 => (if x1 > (wrap64 (Int.tdiv bt156.1 2)) then (some (true, x10, 1, 0)) else (some (true, x10, 0, 0)))) else ((sensor_failed.f).bind fun bt158 => (some (bt158.1, bt158.2.1, bt158.2.2, 0)))
def sensor_Read.f (k : Nat) (l0 : List Int) (a1 : Int) (a2 : Int) (a3 : Bool) : Option (Bool × Int × Int × Int) := (shaft_At.f k l0 a1 a2).bind fun bt153 => (if bt153.2 = 6 then (sensor_Read.j0 k l0 a1 a3 (-1)) else (if bt153.2 = 0 then (sensor_Read.j0 k l0 a1 a3 bt153.1) else (some (false, 0, 0, bt153.2))))
theorem sensor_Read.mono_l : ∀ k, (∀ y0 y1 y2 y3, LeO (sensor_Read.j0 k y0 y1 y2 y3) (sensor_Read.j0 (k + 1) y0 y1 y2 y3))
  | 0 => fun _ _ _ _ r h => by simp [sensor_Read.j0] at h
  | k + 1 => by
    have ih0 := sensor_Read.mono_l k
    · intro y0 y1 y2 y3
      unfold sensor_Read.j0
      repeat' first
      | (with_reducible exact ih0 _ _ _ _)
      | (with_reducible exact shaft_At.mono _ _ _ _)
      | (with_reducible exact LeO.refl _)
      | (with_reducible exact LeO.none _)
      | (with_reducible refine LeO.ite ?_ ?_)
      | (with_reducible refine LeO.bind ?_ (fun _ => ?_))
      | exact ih0 _ _ _ _
      | exact shaft_At.mono _ _ _ _
      | exact LeO.none _
      | refine LeO.ite ?_ ?_
      | refine LeO.bind ?_ (fun _ => ?_)
theorem sensor_Read.mono : ∀ a0 a1 a2 a3 k, LeO (sensor_Read.f k a0 a1 a2 a3) (sensor_Read.f (k + 1) a0 a1 a2 a3) := by
  intro a0 a1 a2 a3 k
  have ih0 := sensor_Read.mono_l k
  unfold sensor_Read.f
  repeat' first
      | (with_reducible exact ih0 _ _ _ _)
      | (with_reducible exact shaft_At.mono _ _ _ _)
      | (with_reducible exact LeO.refl _)
      | (with_reducible exact LeO.none _)
      | (with_reducible refine LeO.ite ?_ ?_)
      | (with_reducible refine LeO.bind ?_ (fun _ => ?_))
      | exact ih0 _ _ _ _
      | exact shaft_At.mono _ _ _ _
      | exact LeO.none _
      | refine LeO.ite ?_ ?_
      | refine LeO.bind ?_ (fun _ => ?_)
set_option maxHeartbeats 8000000 in
set_option maxRecDepth 100000 in
theorem sensor_Read.calls (k : Nat) (A0 : Option Addr) (c0 : Nat) (l0 : List Int) (a1 : Int) (a2 : Int) (a3 : Bool) (r1 : Bool) (r2 : Int) (r3 : Int) (r4 : Int) (w : World) (hr0 : Kd.C (Kd.int .i64) w A0 l0.length l0) (hc0 : l0.length ≤ c0) (h : sensor_Read.f k l0 a1 a2 a3 = some (r1, r2, r3, r4)) :
    Calls Try.prog 12 #[.slice A0 l0.length c0, .int .i64 a1, .int .i64 a2, .bool a3] w fun e w' => e = .returned (.tuple #[.agg #[.bool r1, .int .i64 r2, .int .i64 r3], .int .i64 r4]) ∧ Below w.heap.size w w' := by
  have hu23 := Try.underlying23
  have HR0 := Aside0.mk hr0
  have HC0 := Aside0.mk hc0
  clear hr0 hc0
  have HB := Aside0.mk (Below.refl w.heap.size w)
  have H : ((shaft_At.f k l0 a1 a2).bind fun bt153 => (if bt153.2 = 6 then (sensor_Read.j0 k l0 a1 a3 (-1)) else (if bt153.2 = 0 then (sensor_Read.j0 k l0 a1 a3 bt153.1) else (some (false, 0, 0, bt153.2))))) = some (r1, r2, r3, r4) := h
  clear h
  replace H := Option.bind_eq_some_iff.mp H
  obtain ⟨⟨t153, t154⟩, A50, H⟩ := H
  replace H : (if t154 = 6 then (sensor_Read.j0 k l0 a1 a3 (-1)) else (if t154 = 0 then (sensor_Read.j0 k l0 a1 a3 t153) else (some (false, 0, 0, t154)))) = some (r1, r2, r3, r4) := H
  have A5 := Aside0.mk A50
  clear A50
  have HC6 := Aside0.mk H
  clear H
  go_enter Try.func12, Try.ntmps12
  go_upto_block 0 with (first | ((with_reducible refine gate_dst (N := 8) rfl ?_); refine bxe (cs := #[.bool false, .int .i64 0, .int .i64 0]) (t := 23) ?_; intro gb152 hg w7 hbox hb; have BK152 := Aside0.mk (hbox); have GW152 := Aside0.mk (bge hg HB.out); have GE152 := Aside0.mk (bge hg HB.out); replace HB := Aside0.mk (bst HB.out hb); clear hb hbox hg) | ((with_reducible refine gate_callee (f := 37) rfl ?_); refine gsl (some 19) Try.func37 #[.slice A0 l0.length c0, .int .i64 a1, .int .i64 a2] ?_; (with_reducible refine (shaft_At.calls k _ _ l0 a1 a2 t153 t154 _ ?side1 ?side2 A5.out).mono ?_); (case side1 => repeat (first | exact (Kd.C_below HR0.out HB.out) | (with_reducible refine Kd.C_alloc ?_ _) | (with_reducible refine Kd.C_drewN ?_ _) | (with_reducible refine Kd.C_drew ?_))); (case side2 => exact HC0.out); rintro e w8 ⟨rfl, hb⟩; refine ⟨_, rfl, ?_⟩; replace BK152 := Aside0.mk (bkb BK152.out hb); replace HB := Aside0.mk (bst HB.out hb); (try clear hb); (try clear hb2); (try clear hk); (try clear hi)))
  (try simp only [Act.put, List.setIfInBounds_toArray, List.set_cons_zero, List.set_cons_succ])
  go_cut [10] (fun v10 wc => ∃ (kq : Nat) (x10_5 : Int) (x153000_5 : Bool) (x153001_5 : Int) (x153002_5 : Int), v10 = .int .i64 x10_5 ∧ Aside0 (sensor_Read.j0 kq l0 a1 a3 x10_5 = some (r1, r2, r3, r4)) ∧ Aside0 (kq ≤ k) ∧ Aside0 (wc.heap[gb152]? = some (.cells #[.bool x153000_5, .int .i64 x153001_5, .int .i64 x153002_5] 23 (0, 0))) ∧ Aside0 (Below w.heap.size w wc))
  case first =>
    have H := HC6.out
    clear HC6
    by_cases c9 : t154 = 6
    · rw [if_pos c9] at H
      have c9b0 : (t154 == 6) = true := beq_iff_eq.mpr c9
      have c9b1 : (t154 != 6) = false := bne_eq_false_iff_eq.mpr c9
      clear c9
      (first | rw [c9b0] | (simp only [i64_w, i32_w]; rw [c9b0]) | skip)
      have H' := Aside0.mk H
      clear H
      go_wp2
      go_meet
      case rel => exact ⟨_, ((-1)), (false), (0), (0), (by first | rfl | (simp; done) | (simp [*]; done)), H', ⟨by first | omega | exact Nat.le_refl _⟩, ⟨bkt BK152.out⟩, ⟨bel HB.out⟩⟩
    · rw [if_neg c9] at H
      have c9b0 : (t154 == 6) = false := beq_eq_false_iff_ne.mpr c9
      have c9b1 : (t154 != 6) = true := bne_iff_ne.mpr c9
      (first | rw [c9b0] | (simp only [i64_w, i32_w]; rw [c9b0]) | skip)
      by_cases c10 : t154 = 0
      · rw [if_pos c10] at H
        have c10b0 : (t154 == 0) = true := beq_iff_eq.mpr c10
        have c10b1 : (t154 != 0) = false := bne_eq_false_iff_eq.mpr c10
        clear c10
        have H' := Aside0.mk H
        clear H
        go_wp2
        go_meet
        case rel => exact ⟨_, (t153), (false), (0), (0), (by first | rfl | (simp; done) | (simp [*]; done)), H', ⟨by first | omega | exact Nat.le_refl _⟩, ⟨bkt BK152.out⟩, ⟨bel HB.out⟩⟩
      · rw [if_neg c10] at H
        have c10b0 : (t154 == 0) = false := beq_eq_false_iff_ne.mpr c10
        have c10b1 : (t154 != 0) = true := bne_iff_ne.mpr c10
        simp only [Option.some.injEq, Prod.mk.injEq] at H
        obtain ⟨rfl, rfl, rfl, rfl⟩ := H
        have hcz11_0 := cz3 BK152.out
        have hfz11_0 := blk_frozen BK152.out
        go_wp2
        refine bodyPost_ret (results_ct rfl _ _ gb152 23 #[.bool false, .int .i64 0, .int .i64 0] (0, 0) _ rfl (bkt BK152.out) Try.underlying23 rfl (by kernel_rfl)) rfl ?_
        exact bfin (bel HB.out)
  case rest =>
    clear HC6
    try clear c1
    try clear p2
    try clear c3
    try clear c9
    try clear c9b0
    try clear c9b1
    try clear c10
    try clear c10b0
    try clear c10b1
    try clear hcz11_0
    try clear hfz11_0
    obtain ⟨kq, x10_5, x153000_5, x153001_5, x153002_5, rfl, HA, HJ5, BK152, HB⟩ := hcut
    cases kq with
    | zero => exact absurd HA.out (by simp [sensor_Read.j0])
    | succ kj5 =>
      have H := HA.out
      clear HA
      simp only [sensor_Read.j0] at H
      by_cases c12 : a3 = true
      · subst c12
        have H1 : ((shaft_Height.f l0).bind fun bt156 => (if a1 > (wrap64 (Int.tdiv bt156.1 2)) then (some (true, x10_5, 1, 0)) else (some (true, x10_5, 0, 0)))) = some (r1, r2, r3, r4) := by rw [if_pos rfl] at H; exact H
        clear H
        have H := H1
        clear H1
        replace H := Option.bind_eq_some_iff.mp H
        obtain ⟨⟨t156, t157⟩, A130, H⟩ := H
        replace H : (if a1 > (wrap64 (Int.tdiv t156 2)) then (some (true, x10_5, 1, 0)) else (some (true, x10_5, 0, 0))) = some (r1, r2, r3, r4) := H
        have A13 := Aside0.mk A130
        clear A130
        by_cases c14 : a1 > (wrap64 (Int.tdiv t156 2))
        · rw [if_pos c14] at H
          have c14b0 : decide ((wrap64 (Int.tdiv t156 2)) < a1) = true := decide_eq_true c14
          clear c14
          simp only [Option.some.injEq, Prod.mk.injEq] at H
          obtain ⟨rfl, rfl, rfl, rfl⟩ := H
          go_wp2_with (first | ((with_reducible refine gate_dst (N := 12) rfl ?_); refine bxe (cs := #[.bool false, .int .i64 0, .int .i64 0]) (t := 23) ?_; intro gb155 hg w15 hbox hb; have BK155 := Aside0.mk (hbox); have GW155 := Aside0.mk (bge hg HB.out); have GE155 := Aside0.mk (bge hg HB.out); have NB152_155 := Aside0.mk ((bkl hg BK152.out)); have NB155_152 := Aside0.mk ((bkg hg BK152.out)); replace BK152 := Aside0.mk (bkb BK152.out hb); replace HB := Aside0.mk (bst HB.out hb); clear hb hbox hg; have hnb16 := NB155_152.out; have hnc16 := NB152_155.out; have hcz17_0 := cz3 BK155.out; have hfz17_0 := blk_frozen BK155.out) | ((with_reducible refine gate_callee (f := 39) rfl ?_); refine gsl (some 37) Try.func39 #[.slice A0 l0.length c0] ?_; (with_reducible refine (shaft_Height.calls _ _ l0 t156 t157 _ ?side1 ?side2 A13.out).mono ?_); (case side1 => exact Kd.C_below HR0.out (bel HB.out)); (case side2 => exact HC0.out); rintro e w18 ⟨rfl, hb⟩; refine ⟨_, rfl, ?_⟩; replace BK152 := Aside0.mk (bkb BK152.out hb); replace BK155 := Aside0.mk (blk_below (g := gb155) (o := .cells #[.bool true, .int .i64 x10_5, .int .i64 0] 23 (0, 0)) (bkt BK155.out) hb); replace HB := Aside0.mk (bst HB.out hb); (try clear hb); (try clear hb2); (try clear hk); (try clear hi); have hcz19_0 := cz3 BK155.out; have hfz19_0 := blk_frozen BK155.out; have hcz20_0 := cz3 BK152.out; have hfz20_0 := blk_frozen BK152.out))
          refine bodyPost_ret (results_ct rfl _ _ gb152 23 #[.bool true, .int .i64 x10_5, .int .i64 1] (0, 0) _ rfl (bkt BK152.out) Try.underlying23 rfl (by kernel_rfl)) rfl ?_
          exact bfin (bel HB.out)
        · rw [if_neg c14] at H
          have c14b0 : decide ((wrap64 (Int.tdiv t156 2)) < a1) = false := decide_eq_false c14
          clear c14
          simp only [Option.some.injEq, Prod.mk.injEq] at H
          obtain ⟨rfl, rfl, rfl, rfl⟩ := H
          go_wp2_with (first | ((with_reducible refine gate_dst (N := 12) rfl ?_); refine bxe (cs := #[.bool false, .int .i64 0, .int .i64 0]) (t := 23) ?_; intro gb155 hg w21 hbox hb; have BK155 := Aside0.mk (hbox); have GW155 := Aside0.mk (bge hg HB.out); have GE155 := Aside0.mk (bge hg HB.out); have NB152_155 := Aside0.mk ((bkl hg BK152.out)); have NB155_152 := Aside0.mk ((bkg hg BK152.out)); replace BK152 := Aside0.mk (bkb BK152.out hb); replace HB := Aside0.mk (bst HB.out hb); clear hb hbox hg; have hnb22 := NB155_152.out; have hnc22 := NB152_155.out; have hcz23_0 := cz3 BK155.out; have hfz23_0 := blk_frozen BK155.out) | ((with_reducible refine gate_callee (f := 39) rfl ?_); refine gsl (some 37) Try.func39 #[.slice A0 l0.length c0] ?_; (with_reducible refine (shaft_Height.calls _ _ l0 t156 t157 _ ?side1 ?side2 A13.out).mono ?_); (case side1 => exact Kd.C_below HR0.out (bel HB.out)); (case side2 => exact HC0.out); rintro e w24 ⟨rfl, hb⟩; refine ⟨_, rfl, ?_⟩; replace BK152 := Aside0.mk (bkb BK152.out hb); replace BK155 := Aside0.mk (blk_below (g := gb155) (o := .cells #[.bool true, .int .i64 x10_5, .int .i64 0] 23 (0, 0)) (bkt BK155.out) hb); replace HB := Aside0.mk (bst HB.out hb); (try clear hb); (try clear hb2); (try clear hk); (try clear hi); have hcz25_0 := cz3 BK155.out; have hfz25_0 := blk_frozen BK155.out; have hcz26_0 := cz3 BK152.out; have hfz26_0 := blk_frozen BK152.out))
          refine bodyPost_ret (results_ct rfl _ _ gb152 23 #[.bool true, .int .i64 x10_5, .int .i64 0] (0, 0) _ rfl (bkt BK152.out) Try.underlying23 rfl (by kernel_rfl)) rfl ?_
          exact bfin (bel HB.out)
      · replace c12 := Bool.eq_false_iff.mpr c12
        subst c12
        have H1 : ((sensor_failed.f).bind fun bt158 => (some (bt158.1, bt158.2.1, bt158.2.2, 0))) = some (r1, r2, r3, r4) := by rw [if_neg (show ¬ (false = true) by decide)] at H; exact H
        clear H
        have H := H1
        clear H1
        replace H := Option.bind_eq_some_iff.mp H
        obtain ⟨⟨t158, t159, t160⟩, A270, H⟩ := H
        replace H : (some (t158, t159, t160, 0)) = some (r1, r2, r3, r4) := H
        have A27 := Aside0.mk A270
        clear A270
        simp only [Option.some.injEq, Prod.mk.injEq] at H
        obtain ⟨rfl, rfl, rfl, rfl⟩ := H
        go_wp2_with (first | ((with_reducible refine gate_callee (f := 38) rfl ?_); refine gsl (some 32) Try.func38 #[] ?_; (with_reducible refine (sensor_failed.calls  t158 t159 t160 _ A27.out).mono ?_); rintro e w28 ⟨rfl, hb⟩; refine ⟨_, rfl, ?_⟩; replace BK152 := Aside0.mk (bkb BK152.out hb); replace HB := Aside0.mk (bst HB.out hb); (try clear hb); (try clear hb2); (try clear hk); (try clear hi); have hcz29_0 := cz3 BK152.out; have hfz29_0 := blk_frozen BK152.out))
        refine bodyPost_ret (results_ct rfl _ _ gb152 23 #[.bool t158, .int .i64 t159, .int .i64 t160] (0, 0) _ rfl (bkt BK152.out) Try.underlying23 rfl (by kernel_rfl)) rfl ?_
        exact bfin (bel HB.out)

end Go.Proofs.Ytlkphdcfgaolnaa.P
