-- Printed by wip/myprint.py of this repo (over the kit's printer). Not trusted: Lean checks it.
import Derived.Test.YtlkphdcfgaolnaaP0
import Derived.Test.YtlkphdcfgaolnaaE23
import Derived.Test.YtlkphdcfgaolnaaP0tipstaffref07
namespace Go.Proofs.Ytlkphdcfgaolnaa.P
open Go.RowKit Go.Proofs.YtlkphdcfgaolnaaW.PrintWords Go.Proofs.YtlkphdcfgaolnaaW.PrintLast Go.Proofs.YtlkphdcfgaolnaaW.PrintMore
attribute [local go_sem] cell_same1 cell_some1
attribute [local go_sem] max2_int min2_int max_two min_two max_three min_three max_four min_four   -- for this text's walks alone
set_option linter.unusedVariables false
set_option linter.unusedSimpArgs false

attribute [local go_sem high] eqA23
/-! ### ref_failed: function 41 -/
def ref_failed.f  : Option (Bool × Int × Int) := some (false, (-1), 0)
set_option maxHeartbeats 8000000 in
set_option maxRecDepth 100000 in
theorem ref_failed.calls  (r1 : Bool) (r2 : Int) (r3 : Int) (w : World) (h : ref_failed.f  = some (r1, r2, r3)) :
  Calls Try.prog 41 #[] w fun e w' => e = .returned (.agg #[.bool r1, .int .i64 r2, .int .i64 r3]) ∧ Below w.heap.size w w' := by
 have hu23 := Try.underlying23
 have HB := Aside0.mk (Below.refl w.heap.size w)
 have H : (some (false, (-1), 0)) = some (r1, r2, r3) := h
 clear h
 simp only [Option.some.injEq, Prod.mk.injEq] at H
 obtain ⟨rfl, rfl, rfl⟩ := H
 go_enter Try.func41, Try.ntmps41
 go_wp2_with (first | ((with_reducible refine gate_dst (N := 0) rfl ?_); refine bxe (cs := #[.bool false, .int .i64 0, .int .i64 0]) (t := 23) ?_; intro gb266 hg w1 hbox hb; have BK266 := Aside0.mk (hbox); have GW266 := Aside0.mk (bge hg HB.out); have GE266 := Aside0.mk (bge hg HB.out); replace HB := Aside0.mk (bst HB.out hb); clear hb hbox hg; have hcz2_0 := cz3 BK266.out; have hfz2_0 := blk_frozen BK266.out))
 refine bodyPost_ret (results_cell_row rfl _ _ gb266 23 #[.bool false, .int .i64 (-1), .int .i64 0] (0, 0) _ rfl (bkt BK266.out) Try.underlying23 rfl (by kernel_rfl)) rfl ?_
 exact bfin (bel HB.out)

/-! ### ref_Read: function 13 -/
def ref_Read.j0 : Nat → List Int → Int → Bool → Int → Int → Bool → Option (Bool × Int × Int × Int)
 | 0, _, _, _, _, _, _ => none
 | k + 1, x0, x1, x3, x10, x11, x27 => if x27 = true then (some (false, 0, 0, x11)) else (if x3 = true then (if x11 = 6 then ((r07_Height.f k x0).bind fun bt274 => (if x1 > (wrap64 (Int.tdiv bt274.1 2)) then (some (true, (-1), 1, 0)) else (some (true, (-1), 0, 0)))) else ((r07_Height.f k x0).bind fun bt276 => (if x1 > (wrap64 (Int.tdiv bt276.1 2)) then (some (true, x10, 1, 0)) else (some (true, x10, 0, 0))))) else ((ref_failed.f).bind fun bt270 => (some (bt270.1, bt270.2.1, bt270.2.2, 0))))
def ref_Read.f (k : Nat) (l0 : List Int) (a1 : Int) (a2 : Int) (a3 : Bool) : Option (Bool × Int × Int × Int) := (r07_At.f k l0 a1 a2).bind fun bt268 => (if bt268.2 = 0 then (ref_Read.j0 k l0 a1 a3 bt268.1 bt268.2 false) else (ref_Read.j0 k l0 a1 a3 bt268.1 bt268.2 (bt268.2 != 6)))
theorem ref_Read.mono_l : ∀ k, (∀ y0 y1 y2 y3 y4 y5, LeO (ref_Read.j0 k y0 y1 y2 y3 y4 y5) (ref_Read.j0 (k + 1) y0 y1 y2 y3 y4 y5))
 | 0 => fun _ _ _ _ _ _ r h => by simp [ref_Read.j0] at h
 | k + 1 => by
  have ih0 := ref_Read.mono_l k
  ·intro y0 y1 y2 y3 y4 y5
   unfold ref_Read.j0
   repeat' first
   | (with_reducible exact ih0 _ _ _ _ _ _)
   | (with_reducible exact r07_At.mono _ _ _ _)
   | (with_reducible exact r07_Height.mono _ _)
   | (with_reducible exact LeO.refl _)
   | (with_reducible exact LeO.none _)
   | (with_reducible refine LeO.ite ?_ ?_)
   | (with_reducible refine LeO.bind ?_ (fun _ => ?_))
   | exact ih0 _ _ _ _ _ _
   | exact r07_At.mono _ _ _ _
   | exact r07_Height.mono _ _
   | exact LeO.none _
   | refine LeO.ite ?_ ?_
   | refine LeO.bind ?_ (fun _ => ?_)
theorem ref_Read.mono : ∀ a0 a1 a2 a3 k, LeO (ref_Read.f k a0 a1 a2 a3) (ref_Read.f (k + 1) a0 a1 a2 a3) := by
 intro a0 a1 a2 a3 k
 have ih0 := ref_Read.mono_l k
 unfold ref_Read.f
 repeat' first
   | (with_reducible exact ih0 _ _ _ _ _ _)
   | (with_reducible exact r07_At.mono _ _ _ _)
   | (with_reducible exact r07_Height.mono _ _)
   | (with_reducible exact LeO.refl _)
   | (with_reducible exact LeO.none _)
   | (with_reducible refine LeO.ite ?_ ?_)
   | (with_reducible refine LeO.bind ?_ (fun _ => ?_))
   | exact ih0 _ _ _ _ _ _
   | exact r07_At.mono _ _ _ _
   | exact r07_Height.mono _ _
   | exact LeO.none _
   | refine LeO.ite ?_ ?_
   | refine LeO.bind ?_ (fun _ => ?_)
set_option maxHeartbeats 8000000 in
set_option maxRecDepth 100000 in
theorem ref_Read.calls (k : Nat) (A0 : Option Addr) (c0 : Nat) (l0 : List Int) (a1 : Int) (a2 : Int) (a3 : Bool) (r1 : Bool) (r2 : Int) (r3 : Int) (r4 : Int) (w : World) (hr0 : Kd.C (Kd.int .i64) w A0 l0.length l0) (hc0 : l0.length ≤ c0) (h : ref_Read.f k l0 a1 a2 a3 = some (r1, r2, r3, r4)) :
  Calls Try.prog 13 #[.slice A0 l0.length c0, .int .i64 a1, .int .i64 a2, .bool a3] w fun e w' => e = .returned (.tuple #[.agg #[.bool r1, .int .i64 r2, .int .i64 r3], .int .i64 r4]) ∧ Below w.heap.size w w' := by
 have hu23 := Try.underlying23
 have HR0 := Aside0.mk hr0
 have HC0 := Aside0.mk hc0
 clear hr0 hc0
 have HB := Aside0.mk (Below.refl w.heap.size w)
 have H : ((r07_At.f k l0 a1 a2).bind fun bt268 => (if bt268.2 = 0 then (ref_Read.j0 k l0 a1 a3 bt268.1 bt268.2 false) else (ref_Read.j0 k l0 a1 a3 bt268.1 bt268.2 (bt268.2 != 6)))) = some (r1, r2, r3, r4) := h
 clear h
 replace H := Option.bind_eq_some_iff.mp H
 obtain ⟨⟨t268, t269⟩, A50, H⟩ := H
 replace H : (if t269 = 0 then (ref_Read.j0 k l0 a1 a3 t268 t269 false) else (ref_Read.j0 k l0 a1 a3 t268 t269 (t269 != 6))) = some (r1, r2, r3, r4) := H
 have A5 := Aside0.mk A50
 clear A50
 have HC6 := Aside0.mk H
 clear H
 go_enter Try.func13, Try.ntmps13
 go_upto_region 2 with (first | ((with_reducible refine gate_dst (N := 8) rfl ?_); refine bxe (cs := #[.bool false, .int .i64 0, .int .i64 0]) (t := 23) ?_; intro gb267 hg w7 hbox hb; have BK267 := Aside0.mk (hbox); have GW267 := Aside0.mk (bge hg HB.out); have GE267 := Aside0.mk (bge hg HB.out); replace HB := Aside0.mk (bst HB.out hb); clear hb hbox hg) | ((with_reducible refine gate_callee (f := 40) rfl ?_); refine gsl (some 19) Try.func40 #[.slice A0 l0.length c0, .int .i64 a1, .int .i64 a2] ?_; (with_reducible refine (r07_At.calls k _ _ l0 a1 a2 t268 t269 _ ?side1 ?side2 A5.out).mono ?_); (case side1 => repeat (first | exact (Kd.C_below HR0.out HB.out) | (with_reducible refine Kd.C_alloc ?_ _) | (with_reducible refine Kd.C_drewN ?_ _) | (with_reducible refine Kd.C_drew ?_))); (case side2 => exact HC0.out); rintro e w8 ⟨rfl, hb⟩; refine ⟨_, rfl, ?_⟩; replace BK267 := Aside0.mk (bkb BK267.out hb); replace HB := Aside0.mk (bst HB.out hb); (try clear hb); (try clear hb2); (try clear hk); (try clear hi)))
 (try simp only [Act.put, List.setIfInBounds_toArray, List.set_cons_zero, List.set_cons_succ])
 go_cut [27] (fun v27 wc => ∃ (kq : Nat) (x27_5 : Bool), v27 = .bool x27_5 ∧ Aside0 (ref_Read.j0 kq l0 a1 a3 t268 t269 x27_5 = some (r1, r2, r3, r4)) ∧ Aside0 (kq ≤ k) ∧ Aside0 (wc.heap[gb267]? = some (.cells #[.bool false, .int .i64 0, .int .i64 0] 23 (0, 0))) ∧ Aside0 (Below w.heap.size w wc))
 case first =>
  have H := HC6.out
  clear HC6
  by_cases c9 : t269 = 0
  ·rw [if_pos c9] at H
   have c9b0 : (t269 == 0) = true := beq_iff_eq.mpr c9
   have c9b1 : (t269 != 0) = false := bne_eq_false_iff_eq.mpr c9
   clear c9
   (first | rw [c9b0] | (simp only [i64_w, i32_w]; rw [c9b0]) | skip)
   have H' := Aside0.mk H
   clear H
   go_wp2
   go_meet
   case rel => exact ⟨_, (false), (by first | rfl | (simp; done) | (simp [*]; done)), H', ⟨by first | omega | exact Nat.le_refl _⟩, ⟨bkt BK267.out⟩, ⟨bel HB.out⟩⟩
  ·rw [if_neg c9] at H
   have c9b0 : (t269 == 0) = false := beq_eq_false_iff_ne.mpr c9
   have c9b1 : (t269 != 0) = true := bne_iff_ne.mpr c9
   (first | rw [c9b0] | (simp only [i64_w, i32_w]; rw [c9b0]) | skip)
   have H' := Aside0.mk H
   clear H
   go_wp2
   go_meet
   case rel => exact ⟨_, ((t269 != 6)), (by first | rfl | (simp; done) | (simp [*]; done)), H', ⟨by first | omega | exact Nat.le_refl _⟩, ⟨bkt BK267.out⟩, ⟨bel HB.out⟩⟩
 case rest =>
  clear HC6
  try clear c1
  try clear p2
  try clear c4
  try clear c9
  try clear c9b0
  try clear c9b1
  obtain ⟨kq, x27_5, rfl, HA, HJ5, BK267, HB⟩ := hcut
  cases kq with
  | zero => exact absurd HA.out (by simp [ref_Read.j0])
  | succ kj5 =>
   have H := HA.out
   clear HA
   simp only [ref_Read.j0] at H
   by_cases c10 : x27_5 = true
   ·subst c10
    have H1 : (some (false, 0, 0, t269)) = some (r1, r2, r3, r4) := by rw [if_pos rfl] at H; exact H
    clear H
    have H := H1
    clear H1
    simp only [Option.some.injEq, Prod.mk.injEq] at H
    obtain ⟨rfl, rfl, rfl, rfl⟩ := H
    have hcz11_0 := cz3 BK267.out
    have hfz11_0 := blk_frozen BK267.out
    go_wp2
    refine bodyPost_ret (results_ct rfl _ _ gb267 23 #[.bool false, .int .i64 0, .int .i64 0] (0, 0) _ rfl (bkt BK267.out) Try.underlying23 rfl (by kernel_rfl)) rfl ?_
    exact bfin (bel HB.out)
   ·replace c10 := Bool.eq_false_iff.mpr c10
    subst c10
    have H1 : (if a3 = true then (if t269 = 6 then ((r07_Height.f kj5 l0).bind fun bt274 => (if a1 > (wrap64 (Int.tdiv bt274.1 2)) then (some (true, (-1), 1, 0)) else (some (true, (-1), 0, 0)))) else ((r07_Height.f kj5 l0).bind fun bt276 => (if a1 > (wrap64 (Int.tdiv bt276.1 2)) then (some (true, t268, 1, 0)) else (some (true, t268, 0, 0))))) else ((ref_failed.f).bind fun bt270 => (some (bt270.1, bt270.2.1, bt270.2.2, 0)))) = some (r1, r2, r3, r4) := by rw [if_neg (show ¬ (false = true) by decide)] at H; exact H
    clear H
    have H := H1
    clear H1
    by_cases c12 : a3 = true
    ·subst c12
     have H1 : (if t269 = 6 then ((r07_Height.f kj5 l0).bind fun bt274 => (if a1 > (wrap64 (Int.tdiv bt274.1 2)) then (some (true, (-1), 1, 0)) else (some (true, (-1), 0, 0)))) else ((r07_Height.f kj5 l0).bind fun bt276 => (if a1 > (wrap64 (Int.tdiv bt276.1 2)) then (some (true, t268, 1, 0)) else (some (true, t268, 0, 0))))) = some (r1, r2, r3, r4) := by rw [if_pos rfl] at H; exact H
     clear H
     have H := H1
     clear H1
     by_cases c13 : t269 = 6
     ·rw [if_pos c13] at H
      have c13b0 : (t269 == 6) = true := beq_iff_eq.mpr c13
      have c13b1 : (t269 != 6) = false := bne_eq_false_iff_eq.mpr c13
      clear c13
      replace H := Option.bind_eq_some_iff.mp H
      obtain ⟨⟨t274, t275⟩, A140, H⟩ := H
      replace H : (if a1 > (wrap64 (Int.tdiv t274 2)) then (some (true, (-1), 1, 0)) else (some (true, (-1), 0, 0))) = some (r1, r2, r3, r4) := H
      have A14 := Aside0.mk A140
      clear A140
      by_cases c15 : a1 > (wrap64 (Int.tdiv t274 2))
      ·rw [if_pos c15] at H
       have c15b0 : decide ((wrap64 (Int.tdiv t274 2)) < a1) = true := decide_eq_true c15
       clear c15
       simp only [Option.some.injEq, Prod.mk.injEq] at H
       obtain ⟨rfl, rfl, rfl, rfl⟩ := H
       go_wp2_with (first | ((with_reducible refine gate_dst (N := 12) rfl ?_); refine bxe (cs := #[.bool false, .int .i64 0, .int .i64 0]) (t := 23) ?_; intro gb273 hg w16 hbox hb; have BK273 := Aside0.mk (hbox); have GW273 := Aside0.mk (bge hg HB.out); have GE273 := Aside0.mk (bge hg HB.out); have NB267_273 := Aside0.mk ((bkl hg BK267.out)); have NB273_267 := Aside0.mk ((bkg hg BK267.out)); replace BK267 := Aside0.mk (bkb BK267.out hb); replace HB := Aside0.mk (bst HB.out hb); clear hb hbox hg; have hnb17 := NB273_267.out; have hnc17 := NB267_273.out; have hcz18_0 := cz3 BK273.out; have hfz18_0 := blk_frozen BK273.out) | ((with_reducible refine gate_callee (f := 42) rfl ?_); refine gsl (some 40) Try.func42 #[.slice A0 l0.length c0] ?_; (with_reducible refine (r07_Height.calls kj5 _ _ l0 t274 t275 _ ?side1 ?side2 A14.out).mono ?_); (case side1 => exact Kd.C_below HR0.out (bel HB.out)); (case side2 => exact HC0.out); rintro e w19 ⟨rfl, hb⟩; refine ⟨_, rfl, ?_⟩; replace BK267 := Aside0.mk (bkb BK267.out hb); replace BK273 := Aside0.mk (blk_below (g := gb273) (o := .cells #[.bool true, .int .i64 (-1), .int .i64 0] 23 (0, 0)) (bkt BK273.out) hb); replace HB := Aside0.mk (bst HB.out hb); (try clear hb); (try clear hb2); (try clear hk); (try clear hi); have hcz20_0 := cz3 BK273.out; have hfz20_0 := blk_frozen BK273.out; have hcz21_0 := cz3 BK267.out; have hfz21_0 := blk_frozen BK267.out))
       refine bodyPost_ret (results_ct rfl _ _ gb267 23 #[.bool true, .int .i64 (-1), .int .i64 1] (0, 0) _ rfl (bkt BK267.out) Try.underlying23 rfl (by kernel_rfl)) rfl ?_
       exact bfin (bel HB.out)
      ·rw [if_neg c15] at H
       have c15b0 : decide ((wrap64 (Int.tdiv t274 2)) < a1) = false := decide_eq_false c15
       clear c15
       simp only [Option.some.injEq, Prod.mk.injEq] at H
       obtain ⟨rfl, rfl, rfl, rfl⟩ := H
       go_wp2_with (first | ((with_reducible refine gate_dst (N := 12) rfl ?_); refine bxe (cs := #[.bool false, .int .i64 0, .int .i64 0]) (t := 23) ?_; intro gb273 hg w22 hbox hb; have BK273 := Aside0.mk (hbox); have GW273 := Aside0.mk (bge hg HB.out); have GE273 := Aside0.mk (bge hg HB.out); have NB267_273 := Aside0.mk ((bkl hg BK267.out)); have NB273_267 := Aside0.mk ((bkg hg BK267.out)); replace BK267 := Aside0.mk (bkb BK267.out hb); replace HB := Aside0.mk (bst HB.out hb); clear hb hbox hg; have hnb23 := NB273_267.out; have hnc23 := NB267_273.out; have hcz24_0 := cz3 BK273.out; have hfz24_0 := blk_frozen BK273.out) | ((with_reducible refine gate_callee (f := 42) rfl ?_); refine gsl (some 40) Try.func42 #[.slice A0 l0.length c0] ?_; (with_reducible refine (r07_Height.calls kj5 _ _ l0 t274 t275 _ ?side1 ?side2 A14.out).mono ?_); (case side1 => exact Kd.C_below HR0.out (bel HB.out)); (case side2 => exact HC0.out); rintro e w25 ⟨rfl, hb⟩; refine ⟨_, rfl, ?_⟩; replace BK267 := Aside0.mk (bkb BK267.out hb); replace BK273 := Aside0.mk (blk_below (g := gb273) (o := .cells #[.bool true, .int .i64 (-1), .int .i64 0] 23 (0, 0)) (bkt BK273.out) hb); replace HB := Aside0.mk (bst HB.out hb); (try clear hb); (try clear hb2); (try clear hk); (try clear hi); have hcz26_0 := cz3 BK273.out; have hfz26_0 := blk_frozen BK273.out; have hcz27_0 := cz3 BK267.out; have hfz27_0 := blk_frozen BK267.out))
       refine bodyPost_ret (results_ct rfl _ _ gb267 23 #[.bool true, .int .i64 (-1), .int .i64 0] (0, 0) _ rfl (bkt BK267.out) Try.underlying23 rfl (by kernel_rfl)) rfl ?_
       exact bfin (bel HB.out)
     ·rw [if_neg c13] at H
      have c13b0 : (t269 == 6) = false := beq_eq_false_iff_ne.mpr c13
      have c13b1 : (t269 != 6) = true := bne_iff_ne.mpr c13
      replace H := Option.bind_eq_some_iff.mp H
      obtain ⟨⟨t276, t277⟩, A280, H⟩ := H
      replace H : (if a1 > (wrap64 (Int.tdiv t276 2)) then (some (true, t268, 1, 0)) else (some (true, t268, 0, 0))) = some (r1, r2, r3, r4) := H
      have A28 := Aside0.mk A280
      clear A280
      by_cases c29 : a1 > (wrap64 (Int.tdiv t276 2))
      ·rw [if_pos c29] at H
       have c29b0 : decide ((wrap64 (Int.tdiv t276 2)) < a1) = true := decide_eq_true c29
       clear c29
       simp only [Option.some.injEq, Prod.mk.injEq] at H
       obtain ⟨rfl, rfl, rfl, rfl⟩ := H
       go_wp2_with (first | ((with_reducible refine gate_dst (N := 12) rfl ?_); refine bxe (cs := #[.bool false, .int .i64 0, .int .i64 0]) (t := 23) ?_; intro gb273 hg w30 hbox hb; have BK273 := Aside0.mk (hbox); have GW273 := Aside0.mk (bge hg HB.out); have GE273 := Aside0.mk (bge hg HB.out); have NB267_273 := Aside0.mk ((bkl hg BK267.out)); have NB273_267 := Aside0.mk ((bkg hg BK267.out)); replace BK267 := Aside0.mk (bkb BK267.out hb); replace HB := Aside0.mk (bst HB.out hb); clear hb hbox hg; have hnb31 := NB273_267.out; have hnc31 := NB267_273.out; have hcz32_0 := cz3 BK273.out; have hfz32_0 := blk_frozen BK273.out) | ((with_reducible refine gate_callee (f := 42) rfl ?_); refine gsl (some 40) Try.func42 #[.slice A0 l0.length c0] ?_; (with_reducible refine (r07_Height.calls kj5 _ _ l0 t276 t277 _ ?side1 ?side2 A28.out).mono ?_); (case side1 => exact Kd.C_below HR0.out (bel HB.out)); (case side2 => exact HC0.out); rintro e w33 ⟨rfl, hb⟩; refine ⟨_, rfl, ?_⟩; replace BK267 := Aside0.mk (bkb BK267.out hb); replace BK273 := Aside0.mk (blk_below (g := gb273) (o := .cells #[.bool true, .int .i64 t268, .int .i64 0] 23 (0, 0)) (bkt BK273.out) hb); replace HB := Aside0.mk (bst HB.out hb); (try clear hb); (try clear hb2); (try clear hk); (try clear hi); have hcz34_0 := cz3 BK273.out; have hfz34_0 := blk_frozen BK273.out; have hcz35_0 := cz3 BK267.out; have hfz35_0 := blk_frozen BK267.out))
       refine bodyPost_ret (results_ct rfl _ _ gb267 23 #[.bool true, .int .i64 t268, .int .i64 1] (0, 0) _ rfl (bkt BK267.out) Try.underlying23 rfl (by kernel_rfl)) rfl ?_
       exact bfin (bel HB.out)
      ·rw [if_neg c29] at H
       have c29b0 : decide ((wrap64 (Int.tdiv t276 2)) < a1) = false := decide_eq_false c29
       clear c29
       simp only [Option.some.injEq, Prod.mk.injEq] at H
       obtain ⟨rfl, rfl, rfl, rfl⟩ := H
       go_wp2_with (first | ((with_reducible refine gate_dst (N := 12) rfl ?_); refine bxe (cs := #[.bool false, .int .i64 0, .int .i64 0]) (t := 23) ?_; intro gb273 hg w36 hbox hb; have BK273 := Aside0.mk (hbox); have GW273 := Aside0.mk (bge hg HB.out); have GE273 := Aside0.mk (bge hg HB.out); have NB267_273 := Aside0.mk ((bkl hg BK267.out)); have NB273_267 := Aside0.mk ((bkg hg BK267.out)); replace BK267 := Aside0.mk (bkb BK267.out hb); replace HB := Aside0.mk (bst HB.out hb); clear hb hbox hg; have hnb37 := NB273_267.out; have hnc37 := NB267_273.out; have hcz38_0 := cz3 BK273.out; have hfz38_0 := blk_frozen BK273.out) | ((with_reducible refine gate_callee (f := 42) rfl ?_); refine gsl (some 40) Try.func42 #[.slice A0 l0.length c0] ?_; (with_reducible refine (r07_Height.calls kj5 _ _ l0 t276 t277 _ ?side1 ?side2 A28.out).mono ?_); (case side1 => exact Kd.C_below HR0.out (bel HB.out)); (case side2 => exact HC0.out); rintro e w39 ⟨rfl, hb⟩; refine ⟨_, rfl, ?_⟩; replace BK267 := Aside0.mk (bkb BK267.out hb); replace BK273 := Aside0.mk (blk_below (g := gb273) (o := .cells #[.bool true, .int .i64 t268, .int .i64 0] 23 (0, 0)) (bkt BK273.out) hb); replace HB := Aside0.mk (bst HB.out hb); (try clear hb); (try clear hb2); (try clear hk); (try clear hi); have hcz40_0 := cz3 BK273.out; have hfz40_0 := blk_frozen BK273.out; have hcz41_0 := cz3 BK267.out; have hfz41_0 := blk_frozen BK267.out))
       refine bodyPost_ret (results_ct rfl _ _ gb267 23 #[.bool true, .int .i64 t268, .int .i64 0] (0, 0) _ rfl (bkt BK267.out) Try.underlying23 rfl (by kernel_rfl)) rfl ?_
       exact bfin (bel HB.out)
    ·replace c12 := Bool.eq_false_iff.mpr c12
     subst c12
     have H1 : ((ref_failed.f).bind fun bt270 => (some (bt270.1, bt270.2.1, bt270.2.2, 0))) = some (r1, r2, r3, r4) := by rw [if_neg (show ¬ (false = true) by decide)] at H; exact H
     clear H
     have H := H1
     clear H1
     replace H := Option.bind_eq_some_iff.mp H
     obtain ⟨⟨t270, t271, t272⟩, A420, H⟩ := H
     replace H : (some (t270, t271, t272, 0)) = some (r1, r2, r3, r4) := H
     have A42 := Aside0.mk A420
     clear A420
     simp only [Option.some.injEq, Prod.mk.injEq] at H
     obtain ⟨rfl, rfl, rfl, rfl⟩ := H
     go_wp2_with (first | ((with_reducible refine gate_callee (f := 41) rfl ?_); refine gsl (some 32) Try.func41 #[] ?_; (with_reducible refine (ref_failed.calls  t270 t271 t272 _ A42.out).mono ?_); rintro e w43 ⟨rfl, hb⟩; refine ⟨_, rfl, ?_⟩; replace BK267 := Aside0.mk (bkb BK267.out hb); replace HB := Aside0.mk (bst HB.out hb); (try clear hb); (try clear hb2); (try clear hk); (try clear hi); have hcz44_0 := cz3 BK267.out; have hfz44_0 := blk_frozen BK267.out))
     refine bodyPost_ret (results_ct rfl _ _ gb267 23 #[.bool t270, .int .i64 t271, .int .i64 t272] (0, 0) _ rfl (bkt BK267.out) Try.underlying23 rfl (by kernel_rfl)) rfl ?_
     exact bfin (bel HB.out)

/-! ### ref_Check: function 15 -/
def ref_Check.j0 : Nat → Bool → Bool → Int → Int → Option (Int)
 | 0, _, _, _, _ => none
 | k + 1, x20, x279000, x279001, x279002 => if x20 = true then (some 2) else (if x279000 = true then (some 0) else ((ref_failed.f).bind fun bt279 => (if (!(x279000 == bt279.1) || (!(x279001 == bt279.2.1) || (!(x279002 == bt279.2.2)))) = true then (some 3) else (some 0))))
def ref_Check.f (k : Nat) (a0_0 : Bool) (a0_1 : Int) (a0_2 : Int) : Option (Int) := if a0_1 < (-1) then (ref_Check.j0 k true a0_0 a0_1 a0_2) else (if a0_1 ≥ 64 then (ref_Check.j0 k true a0_0 a0_1 a0_2) else (if a0_2 < 0 then (ref_Check.j0 k true a0_0 a0_1 a0_2) else (ref_Check.j0 k (decide (a0_2 > 1)) a0_0 a0_1 a0_2)))
theorem ref_Check.mono_l : ∀ k, (∀ y0 y1 y2 y3, LeO (ref_Check.j0 k y0 y1 y2 y3) (ref_Check.j0 (k + 1) y0 y1 y2 y3))
 | 0 => fun _ _ _ _ r h => by simp [ref_Check.j0] at h
 | k + 1 => by
  have ih0 := ref_Check.mono_l k
  ·intro y0 y1 y2 y3
   unfold ref_Check.j0
   repeat' first
   | (with_reducible exact ih0 _ _ _ _)
   | (with_reducible exact LeO.refl _)
   | (with_reducible exact LeO.none _)
   | (with_reducible refine LeO.ite ?_ ?_)
   | (with_reducible refine LeO.bind ?_ (fun _ => ?_))
   | exact ih0 _ _ _ _
   | exact LeO.none _
   | refine LeO.ite ?_ ?_
   | refine LeO.bind ?_ (fun _ => ?_)
theorem ref_Check.mono : ∀ a0 a1 a2 k, LeO (ref_Check.f k a0 a1 a2) (ref_Check.f (k + 1) a0 a1 a2) := by
 intro a0 a1 a2 k
 have ih0 := ref_Check.mono_l k
 unfold ref_Check.f
 repeat' first
   | (with_reducible exact ih0 _ _ _ _)
   | (with_reducible exact LeO.refl _)
   | (with_reducible exact LeO.none _)
   | (with_reducible refine LeO.ite ?_ ?_)
   | (with_reducible refine LeO.bind ?_ (fun _ => ?_))
   | exact ih0 _ _ _ _
   | exact LeO.none _
   | refine LeO.ite ?_ ?_
   | refine LeO.bind ?_ (fun _ => ?_)
def ref_Check.T3 : Bool × List (List Nat × List Nat) := (true, [([], []), ([0], [0]), ([1], [1]), ([2], [2]), ([3], [3]), ([3, 3], [3]), ([4, 5, 3], [3, 4, 5]), ([3, 6], [3, 6])])
def ref_Check.B3 : List Nat := [0, 1, 3, 7, 15, 15, 63, 127]
theorem ref_Check.tab3 : rtab .any (opsOf Try.f15 3) = ref_Check.T3 := by kernel_rfl
theorem ref_Check.bits3 : waitsOk ref_Check.T3.2 ref_Check.B3 = true := by kernel_rfl
set_option maxHeartbeats 8000000 in
set_option maxRecDepth 100000 in
theorem ref_Check.calls (k : Nat) (a0_0 : Bool) (a0_1 : Int) (a0_2 : Int) (r : Int) (w : World) (h : ref_Check.f k a0_0 a0_1 a0_2 = some r) :
  Calls Try.prog 15 #[.agg #[.bool a0_0, .int .i64 a0_1, .int .i64 a0_2]] w fun e w' => e = .returned (.int .i64 r) ∧ Below w.heap.size w w' := by
 have hu23 := Try.underlying23
 have HB := Aside0.mk (Below.refl w.heap.size w)
 have H : (if a0_1 < (-1) then (ref_Check.j0 k true a0_0 a0_1 a0_2) else (if a0_1 ≥ 64 then (ref_Check.j0 k true a0_0 a0_1 a0_2) else (if a0_2 < 0 then (ref_Check.j0 k true a0_0 a0_1 a0_2) else (ref_Check.j0 k (decide (a0_2 > 1)) a0_0 a0_1 a0_2)))) = some r := h
 clear h
 have HC2 := Aside0.mk H
 clear H
 go_enter Try.func15, Try.ntmps15
 go_upto_region 1 with (first | ((with_reducible refine gate_dst (N := 1) rfl ?_); refine bxe (cs := #[.bool a0_0, .int .i64 a0_1, .int .i64 a0_2]) (t := 23) ?_; intro gb278 hg w3 hbox hb; have BK278 := Aside0.mk (hbox); have GW278 := Aside0.mk (bge hg HB.out); have GE278 := Aside0.mk (bge hg HB.out); replace HB := Aside0.mk (bst HB.out hb); clear hb hbox hg))
 (try simp only [Act.put, List.setIfInBounds_toArray, List.set_cons_zero, List.set_cons_succ])
 go_cut [20] (fun v20 wc => ∃ (kq : Nat) (x20_1 : Bool), v20 = .bool x20_1 ∧ Aside0 (ref_Check.j0 kq x20_1 a0_0 a0_1 a0_2 = some r) ∧ Aside0 (kq ≤ k) ∧ Aside0 (wc.heap[gb278]? = some (.cells #[.bool a0_0, .int .i64 a0_1, .int .i64 a0_2] 23 (0, 0))) ∧ Aside0 (Below w.heap.size w wc))
 case first =>
  have H := HC2.out
  clear HC2
  by_cases c4 : a0_1 < (-1)
  ·rw [if_pos c4] at H
   have c4b0 : decide (a0_1 < (-1)) = true := decide_eq_true c4
   clear c4
   (first | rw [c4b0] | (simp only [i64_w, i32_w]; rw [c4b0]) | skip)
   have H' := Aside0.mk H
   clear H
   have hcz5_0 := cz3 BK278.out
   have hfz5_0 := blk_frozen BK278.out
   go_wp2
   go_meet
   case rel => exact ⟨_, (true), (by first | rfl | (simp; done) | (simp [*]; done)), H', ⟨by first | omega | exact Nat.le_refl _⟩, ⟨bkt BK278.out⟩, ⟨bel HB.out⟩⟩
  ·rw [if_neg c4] at H
   have c4b0 : decide (a0_1 < (-1)) = false := decide_eq_false c4
   clear c4
   (first | rw [c4b0] | (simp only [i64_w, i32_w]; rw [c4b0]) | skip)
   by_cases c6 : a0_1 ≥ 64
   ·rw [if_pos c6] at H
    have c6b0 : decide (64 ≤ a0_1) = true := decide_eq_true c6
    clear c6
    have H' := Aside0.mk H
    clear H
    have hcz7_0 := cz3 BK278.out
    have hfz7_0 := blk_frozen BK278.out
    go_wp2
    go_meet
    case rel => exact ⟨_, (true), (by first | rfl | (simp; done) | (simp [*]; done)), H', ⟨by first | omega | exact Nat.le_refl _⟩, ⟨bkt BK278.out⟩, ⟨bel HB.out⟩⟩
   ·rw [if_neg c6] at H
    have c6b0 : decide (64 ≤ a0_1) = false := decide_eq_false c6
    clear c6
    by_cases c8 : a0_2 < 0
    ·rw [if_pos c8] at H
     have c8b0 : decide (a0_2 < 0) = true := decide_eq_true c8
     clear c8
     have H' := Aside0.mk H
     clear H
     have hcz9_0 := cz3 BK278.out
     have hfz9_0 := blk_frozen BK278.out
     go_wp2
     go_meet
     case rel => exact ⟨_, (true), (by first | rfl | (simp; done) | (simp [*]; done)), H', ⟨by first | omega | exact Nat.le_refl _⟩, ⟨bkt BK278.out⟩, ⟨bel HB.out⟩⟩
    ·rw [if_neg c8] at H
     have c8b0 : decide (a0_2 < 0) = false := decide_eq_false c8
     clear c8
     have H' := Aside0.mk H
     clear H
     have hcz10_0 := cz3 BK278.out
     have hfz10_0 := blk_frozen BK278.out
     go_wp2
     go_meet
     case rel => exact ⟨_, (decide (a0_2 > 1)), (by first | rfl | (simp; done) | (simp [*]; done)), H', ⟨by first | omega | exact Nat.le_refl _⟩, ⟨bkt BK278.out⟩, ⟨bel HB.out⟩⟩
 case rest =>
  clear HC2
  try clear c1
  try clear p2
  try clear c4
  try clear c4b0
  try clear c6
  try clear c6b0
  try clear c8
  try clear c8b0
  try clear hcz10_0
  try clear hcz5_0
  try clear hcz7_0
  try clear hcz9_0
  try clear hfz10_0
  try clear hfz5_0
  try clear hfz7_0
  try clear hfz9_0
  obtain ⟨kq, x20_1, rfl, HA, HJ1, BK278, HB⟩ := hcut
  cases kq with
  | zero => exact absurd HA.out (by simp [ref_Check.j0])
  | succ kj1 =>
   have H := HA.out
   clear HA
   simp only [ref_Check.j0] at H
   by_cases c11 : x20_1 = true
   ·subst c11
    have H1 : (some 2) = some r := by rw [if_pos rfl] at H; exact H
    clear H
    have H := H1
    clear H1
    obtain rfl := Option.some.inj H
    go_wp2
    go_ret
    exact bfin (bel HB.out)
   ·replace c11 := Bool.eq_false_iff.mpr c11
    subst c11
    have H1 : (if a0_0 = true then (some 0) else ((ref_failed.f).bind fun bt279 => (if (!(a0_0 == bt279.1) || (!(a0_1 == bt279.2.1) || (!(a0_2 == bt279.2.2)))) = true then (some 3) else (some 0)))) = some r := by rw [if_neg (show ¬ (false = true) by decide)] at H; exact H
    clear H
    have H := H1
    clear H1
    by_cases c12 : a0_0 = true
    ·subst c12
     have H1 : (some 0) = some r := by rw [if_pos rfl] at H; exact H
     clear H
     have H := H1
     clear H1
     obtain rfl := Option.some.inj H
     try go_wp2
     have n0_ := Aside0.mk (blk_drew BK278.out)
     have n1_ := Aside0.mk (below_drew1 HB.out)
     clear BK278
     clear HB
     have BK278 := n0_
     have HB := n1_
     clear n0_ n1_
     refine start_ (n := 8) (S := fun w' => w'.cell? ⟨gb278, 0, none⟩ = some (.bool true) ∧ w'.cell? ⟨gb278, 1, none⟩ = some (.int .i64 a0_1) ∧ w'.cell? ⟨gb278, 2, none⟩ = some (.int .i64 a0_2)) (ds := []) #[false, false, false, false, false, false, false, false] (by kernel_rfl) rfl rfl ⟨(blk_cell BK278.out 0).trans rfl, (blk_cell BK278.out 1).trans rfl, (blk_cell BK278.out 2).trans rfl⟩ (fun hHeld => ?_); refine with_tabW ref_Check.tab3 ref_Check.bits3 (fun HT_ HW_ => ?_)
     generalize wc.drew = w13 at BK278 HB hHeld ⊢
     refine pur 0 (some 21) #[true, false, false, false, false, false, false, false] HT_.out ?_
     refine tkp 1 (some 22) #[true, true, false, false, false, false, false, false] HT_.out HW_.out hHeld ?_
     refine pur 2 (some 23) #[true, true, true, false, false, false, false, false] HT_.out ?_
     refine pur 3 (some 24) #[true, true, true, true, false, false, false, false] HT_.out ?_
     refine purn 4 (some 25) #[true, true, true, true, true, false, false, false] HT_.out ?_
     refine purn 5 (some 26) #[true, true, true, true, true, true, false, false] HT_.out ?_
     refine purn 6 (some 27) #[true, true, true, true, true, true, true, false] HT_.out ?_
     refine pur 7 (some 28) #[true, true, true, true, true, true, true, true] HT_.out ?_
     refine done_ (done_of HT_.out (by kernel_rfl)) ?_
     try go_wp2
     go_ret
     exact bfin (bel HB.out)
    ·replace c12 := Bool.eq_false_iff.mpr c12
     subst c12
     have H1 : ((ref_failed.f).bind fun bt279 => (if (!(false == bt279.1) || (!(a0_1 == bt279.2.1) || (!(a0_2 == bt279.2.2)))) = true then (some 3) else (some 0))) = some r := by rw [if_neg (show ¬ (false = true) by decide)] at H; exact H
     clear H
     have H := H1
     clear H1
     replace H := Option.bind_eq_some_iff.mp H
     obtain ⟨⟨t279, t280, t281⟩, A140, H⟩ := H
     replace H : (if (!(false == t279) || (!(a0_1 == t280) || (!(a0_2 == t281)))) = true then (some 3) else (some 0)) = some r := H
     have A14 := Aside0.mk A140
     clear A140
     by_cases c15 : (!(false == t279) || (!(a0_1 == t280) || (!(a0_2 == t281)))) = true
     ·rw [if_pos c15] at H
      have c15b0 : (!(false == t279) || (!(a0_1 == t280) || (!(a0_2 == t281)))) = true := c15
      (try (have c15s0 := c15b0; simp only [Bool.false_beq, Bool.true_beq, Bool.not_not] at c15s0))
      clear c15
      obtain rfl := Option.some.inj H
      try go_wp2
      have n0_ := Aside0.mk (blk_drew BK278.out)
      have n1_ := Aside0.mk (below_drew1 HB.out)
      clear BK278
      clear HB
      have BK278 := n0_
      have HB := n1_
      clear n0_ n1_
      refine start_ (n := 8) (S := fun w' => w'.cell? ⟨gb278, 0, none⟩ = some (.bool false) ∧ w'.cell? ⟨gb278, 1, none⟩ = some (.int .i64 a0_1) ∧ w'.cell? ⟨gb278, 2, none⟩ = some (.int .i64 a0_2)) (ds := []) #[false, false, false, false, false, false, false, false] (by kernel_rfl) rfl rfl ⟨(blk_cell BK278.out 0).trans rfl, (blk_cell BK278.out 1).trans rfl, (blk_cell BK278.out 2).trans rfl⟩ (fun hHeld => ?_); refine with_tabW ref_Check.tab3 ref_Check.bits3 (fun HT_ HW_ => ?_)
      generalize wc.drew = w16 at BK278 HB hHeld ⊢
      refine pur 0 (some 21) #[true, false, false, false, false, false, false, false] HT_.out ?_
      refine tkp 1 (some 22) #[true, true, false, false, false, false, false, false] HT_.out HW_.out hHeld ?_
      refine pur 2 (some 23) #[true, true, true, false, false, false, false, false] HT_.out ?_
      refine pur 3 (some 24) #[true, true, true, true, false, false, false, false] HT_.out ?_
      refine tkp 4 (some 25) #[true, true, true, true, true, false, false, false] HT_.out HW_.out hHeld ?_
      refine one_ (i := 5) (N := some 26) #[true, true, true, true, true, true, false, false] rfl rfl (one_of HT_.out (by kernel_rfl)) (by decide) (fun K hK => ?_)
      refine goes_ Try.func41 (by kernel_rfl) rfl #[] (by rfl) rfl rfl (by (try simp only [List.map_toArray, List.map_cons, List.map_nil]); first | done | rfl | (simp only [List.length_drop, List.length_take]; rfl)) ?_
      with_reducible refine (ref_failed.calls  t279 t280 t281 _ A14.out).mono ?_
      rintro e w17 ⟨rfl, hb⟩
      refine ⟨_, rfl, ?_⟩
      have n0_ := Aside0.mk (bkb BK278.out hb)
      have n1_ := Aside0.mk (bst HB.out hb)
      clear BK278
      clear HB
      have BK278 := n0_
      have HB := n1_
      clear n0_ n1_
      (try clear hb)
      (try clear hb2)
      (try clear hk)
      (try clear hi)
      refine hK.out _ _ ⟨(blk_cell BK278.out 0).trans rfl, (blk_cell BK278.out 1).trans rfl, (blk_cell BK278.out 2).trans rfl⟩ (fun hHeld => ?_)
      clear hK K
      refine norm_ (a' := ?_) ?_ ?_
      rotate_left
      ·show Act.put _ (some 26) _ = _
       simp only [Act.put, List.setIfInBounds_toArray, List.set_cons_zero, List.set_cons_succ, i64_w, i32_w]
       rfl
      refine pur 6 (some 27) #[true, true, true, true, true, true, true, false] HT_.out ?_
      refine pur 7 (some 28) #[true, true, true, true, true, true, true, true] HT_.out ?_
      refine done_ (done_of HT_.out (by kernel_rfl)) ?_
      try go_wp2
      go_ret
      exact bfin (bel HB.out)
     ·rw [if_neg c15] at H
      have c15b0 : (!(false == t279) || (!(a0_1 == t280) || (!(a0_2 == t281)))) = false := by simpa using c15
      (try (have c15s0 := c15b0; simp only [Bool.false_beq, Bool.true_beq, Bool.not_not] at c15s0))
      clear c15
      obtain rfl := Option.some.inj H
      try go_wp2
      have n0_ := Aside0.mk (blk_drew BK278.out)
      have n1_ := Aside0.mk (below_drew1 HB.out)
      clear BK278
      clear HB
      have BK278 := n0_
      have HB := n1_
      clear n0_ n1_
      refine start_ (n := 8) (S := fun w' => w'.cell? ⟨gb278, 0, none⟩ = some (.bool false) ∧ w'.cell? ⟨gb278, 1, none⟩ = some (.int .i64 a0_1) ∧ w'.cell? ⟨gb278, 2, none⟩ = some (.int .i64 a0_2)) (ds := []) #[false, false, false, false, false, false, false, false] (by kernel_rfl) rfl rfl ⟨(blk_cell BK278.out 0).trans rfl, (blk_cell BK278.out 1).trans rfl, (blk_cell BK278.out 2).trans rfl⟩ (fun hHeld => ?_); refine with_tabW ref_Check.tab3 ref_Check.bits3 (fun HT_ HW_ => ?_)
      generalize wc.drew = w18 at BK278 HB hHeld ⊢
      refine pur 0 (some 21) #[true, false, false, false, false, false, false, false] HT_.out ?_
      refine tkp 1 (some 22) #[true, true, false, false, false, false, false, false] HT_.out HW_.out hHeld ?_
      refine pur 2 (some 23) #[true, true, true, false, false, false, false, false] HT_.out ?_
      refine pur 3 (some 24) #[true, true, true, true, false, false, false, false] HT_.out ?_
      refine tkp 4 (some 25) #[true, true, true, true, true, false, false, false] HT_.out HW_.out hHeld ?_
      refine one_ (i := 5) (N := some 26) #[true, true, true, true, true, true, false, false] rfl rfl (one_of HT_.out (by kernel_rfl)) (by decide) (fun K hK => ?_)
      refine goes_ Try.func41 (by kernel_rfl) rfl #[] (by rfl) rfl rfl (by (try simp only [List.map_toArray, List.map_cons, List.map_nil]); first | done | rfl | (simp only [List.length_drop, List.length_take]; rfl)) ?_
      with_reducible refine (ref_failed.calls  t279 t280 t281 _ A14.out).mono ?_
      rintro e w19 ⟨rfl, hb⟩
      refine ⟨_, rfl, ?_⟩
      have n0_ := Aside0.mk (bkb BK278.out hb)
      have n1_ := Aside0.mk (bst HB.out hb)
      clear BK278
      clear HB
      have BK278 := n0_
      have HB := n1_
      clear n0_ n1_
      (try clear hb)
      (try clear hb2)
      (try clear hk)
      (try clear hi)
      refine hK.out _ _ ⟨(blk_cell BK278.out 0).trans rfl, (blk_cell BK278.out 1).trans rfl, (blk_cell BK278.out 2).trans rfl⟩ (fun hHeld => ?_)
      clear hK K
      refine norm_ (a' := ?_) ?_ ?_
      rotate_left
      ·show Act.put _ (some 26) _ = _
       simp only [Act.put, List.setIfInBounds_toArray, List.set_cons_zero, List.set_cons_succ, i64_w, i32_w]
       rfl
      refine pur 6 (some 27) #[true, true, true, true, true, true, true, false] HT_.out ?_
      refine pur 7 (some 28) #[true, true, true, true, true, true, true, true] HT_.out ?_
      refine done_ (done_of HT_.out (by kernel_rfl)) ?_
      try go_wp2
      go_ret
      exact bfin (bel HB.out)

end Go.Proofs.Ytlkphdcfgaolnaa.P
