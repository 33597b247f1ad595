-- Printed by wip/myprint.py of this repo (over the kit's printer). Not trusted: Lean checks it.
import Derived.Test.YtckaofgkepcibaaP0
import Derived.Test.YtckaofgkepcibaaMa
import Derived.Test.YtckaofgkepcibaaP0drivea
import Derived.Test.YtckaofgkepcibaaP0move
import Derived.Test.YtckaofgkepcibaaP1profile
import Derived.Test.YtckaofgkepcibaaP2shaft
namespace Go.Proofs.Ytckaofgkepcibaa.P
open Go.RowKit Go.Proofs.YtckaofgkepcibaaW.PrintWords Go.Proofs.YtckaofgkepcibaaW.PrintLast Go.Proofs.YtckaofgkepcibaaW.PrintMore
attribute [local go_sem] cell_same1 cell_some1
attribute [local go_sem] max2_int min2_int max_two min_two max_three min_three max_four min_four   -- for this text's walks alone
set_option linter.unusedVariables false
set_option linter.unusedSimpArgs false

/-! ### move_Ticks: function 8 -/
def move_Ticks.f (l0 : List Int) (a1 : Int) (a2 : Int) : Option (Int × Int) := (shaft_Height.f l0).bind fun bt109 => (if bt109.2 = 0 then ((move_numbers.f a1 a2).bind fun t111 => (if t111 = 0 then ((profile_Travel.f bt109.1 a1).bind fun bt112 => (some (wrap64 (bt112.1 + (wrap64 (2 * a2))), bt112.2))) else (some (0, t111)))) else (some (0, bt109.2)))
set_option maxHeartbeats 8000000 in
set_option maxRecDepth 100000 in
theorem move_Ticks.calls (A0 : Option Addr) (c0 : Nat) (l0 : List Int) (a1 : Int) (a2 : Int) (r1 : Int) (r2 : Int) (w : World) (hr0 : Kd.C (Kd.int .i64) w A0 l0.length l0) (hc0 : l0.length ≤ c0) (h : move_Ticks.f l0 a1 a2 = some (r1, r2)) :
  Calls Try.prog 8 #[.slice A0 l0.length c0, .int .i64 a1, .int .i64 a2] w fun e w' => e = .returned (.tuple #[.int .i64 r1, .int .i64 r2]) ∧ Below w.heap.size w w' := by
 have HR0 := Aside0.mk hr0
 have HC0 := Aside0.mk hc0
 clear hr0 hc0
 have HB := Aside0.mk (Below.refl w.heap.size w)
 have H : ((shaft_Height.f l0).bind fun bt109 => (if bt109.2 = 0 then ((move_numbers.f a1 a2).bind fun t111 => (if t111 = 0 then ((profile_Travel.f bt109.1 a1).bind fun bt112 => (some (wrap64 (bt112.1 + (wrap64 (2 * a2))), bt112.2))) else (some (0, t111)))) else (some (0, bt109.2)))) = some (r1, r2) := h
 clear h
 replace H := Option.bind_eq_some_iff.mp H
 obtain ⟨⟨t109, t110⟩, A40, H⟩ := H
 replace H : (if t110 = 0 then ((move_numbers.f a1 a2).bind fun t111 => (if t111 = 0 then ((profile_Travel.f t109 a1).bind fun bt112 => (some (wrap64 (bt112.1 + (wrap64 (2 * a2))), bt112.2))) else (some (0, t111)))) else (some (0, t110))) = some (r1, r2) := H
 have A4 := Aside0.mk A40
 clear A40
 by_cases c5 : t110 = 0
 ·rw [if_pos c5] at H
  have c5b0 : (t110 == 0) = true := beq_iff_eq.mpr c5
  have c5b1 : (t110 != 0) = false := bne_eq_false_iff_eq.mpr c5
  clear c5
  replace H := Option.bind_eq_some_iff.mp H
  obtain ⟨t111, A60, H⟩ := H
  replace H : (if t111 = 0 then ((profile_Travel.f t109 a1).bind fun bt112 => (some (wrap64 (bt112.1 + (wrap64 (2 * a2))), bt112.2))) else (some (0, t111))) = some (r1, r2) := H
  have A6 := Aside0.mk A60
  clear A60
  by_cases c7 : t111 = 0
  ·rw [if_pos c7] at H
   have c7b0 : (t111 == 0) = true := beq_iff_eq.mpr c7
   have c7b1 : (t111 != 0) = false := bne_eq_false_iff_eq.mpr c7
   clear c7
   replace H := Option.bind_eq_some_iff.mp H
   obtain ⟨⟨t112, t113⟩, A80, H⟩ := H
   replace H : (some (wrap64 (t112 + (wrap64 (2 * a2))), t113)) = some (r1, r2) := H
   have A8 := Aside0.mk A80
   clear A80
   simp only [Option.some.injEq, Prod.mk.injEq] at H
   obtain ⟨rfl, rfl⟩ := H
   go_enter Try.func8, Try.ntmps8
   go_wp2_with (first | ((with_reducible refine gate_callee (f := 22) rfl ?_); refine gsl (some 13) Try.func22 #[.slice A0 l0.length c0] ?_; (with_reducible refine (shaft_Height.calls _ _ l0 t109 t110 _ ?side1 ?side2 A4.out).mono ?_); (case side1 => repeat (first | exact HR0.out | (with_reducible refine Kd.C_alloc ?_ _) | (with_reducible refine Kd.C_drewN ?_ _) | (with_reducible refine Kd.C_drew ?_))); (case side2 => exact HC0.out); rintro e w9 ⟨rfl, hb⟩; refine ⟨_, rfl, ?_⟩; replace HB := Aside0.mk (bst HB.out hb); (try clear hb); (try clear hb2); (try clear hk); (try clear hi)) | ((with_reducible refine gate_callee (f := 23) rfl ?_); refine gsl (some 20) Try.func23 #[.int .i64 a1, .int .i64 a2] ?_; (with_reducible refine (move_numbers.calls a1 a2 t111 _ A6.out).mono ?_); rintro e w' ⟨rfl, ⟨nd, rfl⟩⟩; refine ⟨_, rfl, ?_⟩) | ((with_reducible refine gate_callee (f := 13) rfl ?_); refine gsl (some 27) Try.func13 #[.int .i64 t109, .int .i64 a1] ?_; (with_reducible refine (profile_Travel.calls t109 a1 t112 t113 _ A8.out).mono ?_); rintro e w10 ⟨rfl, hb⟩; refine ⟨_, rfl, ?_⟩; replace HB := Aside0.mk (bst HB.out hb); (try clear hb); (try clear hb2); (try clear hk); (try clear hi)))
   go_ret2
   exact bfin (bel HB.out)
  ·rw [if_neg c7] at H
   have c7b0 : (t111 == 0) = false := beq_eq_false_iff_ne.mpr c7
   have c7b1 : (t111 != 0) = true := bne_iff_ne.mpr c7
   simp only [Option.some.injEq, Prod.mk.injEq] at H
   obtain ⟨rfl, rfl⟩ := H
   go_enter Try.func8, Try.ntmps8
   go_wp2_with (first | ((with_reducible refine gate_callee (f := 22) rfl ?_); refine gsl (some 13) Try.func22 #[.slice A0 l0.length c0] ?_; (with_reducible refine (shaft_Height.calls _ _ l0 t109 t110 _ ?side1 ?side2 A4.out).mono ?_); (case side1 => repeat (first | exact HR0.out | (with_reducible refine Kd.C_alloc ?_ _) | (with_reducible refine Kd.C_drewN ?_ _) | (with_reducible refine Kd.C_drew ?_))); (case side2 => exact HC0.out); rintro e w11 ⟨rfl, hb⟩; refine ⟨_, rfl, ?_⟩; replace HB := Aside0.mk (bst HB.out hb); (try clear hb); (try clear hb2); (try clear hk); (try clear hi)) | ((with_reducible refine gate_callee (f := 23) rfl ?_); refine gsl (some 20) Try.func23 #[.int .i64 a1, .int .i64 a2] ?_; (with_reducible refine (move_numbers.calls a1 a2 t111 _ A6.out).mono ?_); rintro e w' ⟨rfl, ⟨nd, rfl⟩⟩; refine ⟨_, rfl, ?_⟩))
   go_ret2
   exact bfin (bel HB.out)
 ·rw [if_neg c5] at H
  have c5b0 : (t110 == 0) = false := beq_eq_false_iff_ne.mpr c5
  have c5b1 : (t110 != 0) = true := bne_iff_ne.mpr c5
  simp only [Option.some.injEq, Prod.mk.injEq] at H
  obtain ⟨rfl, rfl⟩ := H
  go_enter Try.func8, Try.ntmps8
  go_wp2_with (first | ((with_reducible refine gate_callee (f := 22) rfl ?_); refine gsl (some 13) Try.func22 #[.slice A0 l0.length c0] ?_; (with_reducible refine (shaft_Height.calls _ _ l0 t109 t110 _ ?side1 ?side2 A4.out).mono ?_); (case side1 => repeat (first | exact HR0.out | (with_reducible refine Kd.C_alloc ?_ _) | (with_reducible refine Kd.C_drewN ?_ _) | (with_reducible refine Kd.C_drew ?_))); (case side2 => exact HC0.out); rintro e w12 ⟨rfl, hb⟩; refine ⟨_, rfl, ?_⟩; replace HB := Aside0.mk (bst HB.out hb); (try clear hb); (try clear hb2); (try clear hk); (try clear hi)))
  go_ret2
  exact bfin (bel HB.out)

/-! ### move_Begin: function 11 -/
mutual
def move_Begin.j0 : Nat → Int → Int → Int → Int → Int → Int → Int → Int → Int → Option (Int × Int × Int × Int × Int × Int × Int × Int)
 | 0, _, _, _, _, _, _, _, _, _ => none
 | k + 1, x2, x3, x4, x12, x147000, x147001, x147002, x147003, x147004 => if x12 = 0 then ((move_wrong.f x2).bind fun t155 => (move_Begin.j1 k x2 x3 x4 x12 t155 x147000 x147001 x147002 x147003 x147004)) else (move_Begin.j1 k x2 x3 x4 x12 false x147000 x147001 x147002 x147003 x147004)
def move_Begin.j1 : Nat → Int → Int → Int → Int → Bool → Int → Int → Int → Int → Int → Option (Int × Int × Int × Int × Int × Int × Int × Int)
 | 0, _, _, _, _, _, _, _, _, _, _ => none
 | k + 1, x2, x3, x4, x12, x32, x147000, x147001, x147002, x147003, x147004 => if x32 = true then (move_Begin.j2 k x2 x3 x4 2 x147000 x147001 x147002 x147003 x147004) else (move_Begin.j2 k x2 x3 x4 x12 x147000 x147001 x147002 x147003 x147004)
def move_Begin.j2 : Nat → Int → Int → Int → Int → Int → Int → Int → Int → Int → Option (Int × Int × Int × Int × Int × Int × Int × Int)
 | 0, _, _, _, _, _, _, _, _, _ => none
 | k + 1, x2, x3, x4, x12, x147000, x147001, x147002, x147003, x147004 => if x12 = 0 then ((move_Check.f x147000 x147001 x147002 x147003 x147004 x2 0 x3 x4).bind fun t157 => (if t157 = 0 then (some (x147000, x147001, x147002, x147003, x147004, x2, 0, 0)) else (some (0, 0, 0, 0, 0, 0, 0, t157)))) else (some (0, 0, 0, 0, 0, 0, 0, x12))
end
def move_Begin.f (k : Nat) (a0_0 : Int) (a0_1 : Int) (a0_2 : Int) (a0_3 : Int) (a0_4 : Int) (a1 : Int) (a2 : Int) (a3 : Int) (a4 : Int) : Option (Int × Int × Int × Int × Int × Int × Int × Int) := (move_sound.f k a0_0 a0_1 a0_2 a0_3 a0_4 a3 a4).bind fun t148 => (if t148 = 0 then ((drive_Go.f k a0_0 a0_1 a0_2 a0_3 a0_4 a1 a4).bind fun bt149 => (move_Begin.j0 k a2 a3 a4 bt149.2.2.2.2.2 bt149.1 bt149.2.1 bt149.2.2.1 bt149.2.2.2.1 bt149.2.2.2.2.1)) else (move_Begin.j0 k a2 a3 a4 t148 a0_0 a0_1 a0_2 a0_3 a0_4))
theorem move_Begin.mono_l : ∀ k, (∀ y0 y1 y2 y3 y4 y5 y6 y7 y8, LeO (move_Begin.j0 k y0 y1 y2 y3 y4 y5 y6 y7 y8) (move_Begin.j0 (k + 1) y0 y1 y2 y3 y4 y5 y6 y7 y8)) ∧ (∀ y0 y1 y2 y3 y4 y5 y6 y7 y8 y9, LeO (move_Begin.j1 k y0 y1 y2 y3 y4 y5 y6 y7 y8 y9) (move_Begin.j1 (k + 1) y0 y1 y2 y3 y4 y5 y6 y7 y8 y9)) ∧ (∀ y0 y1 y2 y3 y4 y5 y6 y7 y8, LeO (move_Begin.j2 k y0 y1 y2 y3 y4 y5 y6 y7 y8) (move_Begin.j2 (k + 1) y0 y1 y2 y3 y4 y5 y6 y7 y8))
 | 0 => ⟨fun _ _ _ _ _ _ _ _ _ r h => by simp [move_Begin.j0] at h, fun _ _ _ _ _ _ _ _ _ _ r h => by simp [move_Begin.j1] at h, fun _ _ _ _ _ _ _ _ _ r h => by simp [move_Begin.j2] at h⟩
 | k + 1 => by
  obtain ⟨ih0, ih1, ih2⟩ := move_Begin.mono_l k
  refine ⟨?_, ?_, ?_⟩
  ·intro y0 y1 y2 y3 y4 y5 y6 y7 y8
   unfold move_Begin.j0
   repeat' first
   | (with_reducible exact ih0 _ _ _ _ _ _ _ _ _)
   | (with_reducible exact ih1 _ _ _ _ _ _ _ _ _ _)
   | (with_reducible exact ih2 _ _ _ _ _ _ _ _ _)
   | (with_reducible exact drive_Go.mono _ _ _ _ _ _ _ _)
   | (with_reducible exact move_sound.mono _ _ _ _ _ _ _ _)
   | (with_reducible exact LeO.refl _)
   | (with_reducible exact LeO.none _)
   | (with_reducible refine LeO.ite ?_ ?_)
   | (with_reducible refine LeO.bind ?_ (fun _ => ?_))
   | exact ih0 _ _ _ _ _ _ _ _ _
   | exact ih1 _ _ _ _ _ _ _ _ _ _
   | exact ih2 _ _ _ _ _ _ _ _ _
   | exact drive_Go.mono _ _ _ _ _ _ _ _
   | exact move_sound.mono _ _ _ _ _ _ _ _
   | exact LeO.none _
   | refine LeO.ite ?_ ?_
   | refine LeO.bind ?_ (fun _ => ?_)
  ·intro y0 y1 y2 y3 y4 y5 y6 y7 y8 y9
   unfold move_Begin.j1
   repeat' first
   | (with_reducible exact ih0 _ _ _ _ _ _ _ _ _)
   | (with_reducible exact ih1 _ _ _ _ _ _ _ _ _ _)
   | (with_reducible exact ih2 _ _ _ _ _ _ _ _ _)
   | (with_reducible exact drive_Go.mono _ _ _ _ _ _ _ _)
   | (with_reducible exact move_sound.mono _ _ _ _ _ _ _ _)
   | (with_reducible exact LeO.refl _)
   | (with_reducible exact LeO.none _)
   | (with_reducible refine LeO.ite ?_ ?_)
   | (with_reducible refine LeO.bind ?_ (fun _ => ?_))
   | exact ih0 _ _ _ _ _ _ _ _ _
   | exact ih1 _ _ _ _ _ _ _ _ _ _
   | exact ih2 _ _ _ _ _ _ _ _ _
   | exact drive_Go.mono _ _ _ _ _ _ _ _
   | exact move_sound.mono _ _ _ _ _ _ _ _
   | exact LeO.none _
   | refine LeO.ite ?_ ?_
   | refine LeO.bind ?_ (fun _ => ?_)
  ·intro y0 y1 y2 y3 y4 y5 y6 y7 y8
   unfold move_Begin.j2
   repeat' first
   | (with_reducible exact ih0 _ _ _ _ _ _ _ _ _)
   | (with_reducible exact ih1 _ _ _ _ _ _ _ _ _ _)
   | (with_reducible exact ih2 _ _ _ _ _ _ _ _ _)
   | (with_reducible exact drive_Go.mono _ _ _ _ _ _ _ _)
   | (with_reducible exact move_sound.mono _ _ _ _ _ _ _ _)
   | (with_reducible exact LeO.refl _)
   | (with_reducible exact LeO.none _)
   | (with_reducible refine LeO.ite ?_ ?_)
   | (with_reducible refine LeO.bind ?_ (fun _ => ?_))
   | exact ih0 _ _ _ _ _ _ _ _ _
   | exact ih1 _ _ _ _ _ _ _ _ _ _
   | exact ih2 _ _ _ _ _ _ _ _ _
   | exact drive_Go.mono _ _ _ _ _ _ _ _
   | exact move_sound.mono _ _ _ _ _ _ _ _
   | exact LeO.none _
   | refine LeO.ite ?_ ?_
   | refine LeO.bind ?_ (fun _ => ?_)
theorem move_Begin.mono : ∀ a0 a1 a2 a3 a4 a5 a6 a7 a8 k, LeO (move_Begin.f k a0 a1 a2 a3 a4 a5 a6 a7 a8) (move_Begin.f (k + 1) a0 a1 a2 a3 a4 a5 a6 a7 a8) := by
 intro a0 a1 a2 a3 a4 a5 a6 a7 a8 k
 obtain ⟨ih0, ih1, ih2⟩ := move_Begin.mono_l k
 unfold move_Begin.f
 repeat' first
   | (with_reducible exact ih0 _ _ _ _ _ _ _ _ _)
   | (with_reducible exact ih1 _ _ _ _ _ _ _ _ _ _)
   | (with_reducible exact ih2 _ _ _ _ _ _ _ _ _)
   | (with_reducible exact drive_Go.mono _ _ _ _ _ _ _ _)
   | (with_reducible exact move_sound.mono _ _ _ _ _ _ _ _)
   | (with_reducible exact LeO.refl _)
   | (with_reducible exact LeO.none _)
   | (with_reducible refine LeO.ite ?_ ?_)
   | (with_reducible refine LeO.bind ?_ (fun _ => ?_))
   | exact ih0 _ _ _ _ _ _ _ _ _
   | exact ih1 _ _ _ _ _ _ _ _ _ _
   | exact ih2 _ _ _ _ _ _ _ _ _
   | exact drive_Go.mono _ _ _ _ _ _ _ _
   | exact move_sound.mono _ _ _ _ _ _ _ _
   | exact LeO.none _
   | refine LeO.ite ?_ ?_
   | refine LeO.bind ?_ (fun _ => ?_)
set_option maxHeartbeats 8000000 in
set_option maxRecDepth 100000 in
theorem move_Begin.calls (k : Nat) (a0_0 : Int) (a0_1 : Int) (a0_2 : Int) (a0_3 : Int) (a0_4 : Int) (a1 : Int) (a2 : Int) (a3 : Int) (a4 : Int) (r1 : Int) (r2 : Int) (r3 : Int) (r4 : Int) (r5 : Int) (r6 : Int) (r7 : Int) (r8 : Int) (w : World) (h : move_Begin.f k a0_0 a0_1 a0_2 a0_3 a0_4 a1 a2 a3 a4 = some (r1, r2, r3, r4, r5, r6, r7, r8)) :
  Calls Try.prog 11 #[.agg #[.int .i64 a0_0, .int .i64 a0_1, .int .i64 a0_2, .int .i64 a0_3, .int .i64 a0_4], .int .i64 a1, .int .i64 a2, .int .i64 a3, .int .i64 a4] w fun e w' => e = .returned (.tuple #[.agg #[.int .i64 r1, .int .i64 r2, .int .i64 r3, .int .i64 r4, .int .i64 r5, .int .i64 r6, .int .i64 r7], .int .i64 r8]) ∧ Below w.heap.size w w' := by
 have hu33 := Try.underlying33
 have hu35 := Try.underlying35
 have HB := Aside0.mk (Below.refl w.heap.size w)
 have H : ((move_sound.f k a0_0 a0_1 a0_2 a0_3 a0_4 a3 a4).bind fun t148 => (if t148 = 0 then ((drive_Go.f k a0_0 a0_1 a0_2 a0_3 a0_4 a1 a4).bind fun bt149 => (move_Begin.j0 k a2 a3 a4 bt149.2.2.2.2.2 bt149.1 bt149.2.1 bt149.2.2.1 bt149.2.2.2.1 bt149.2.2.2.2.1)) else (move_Begin.j0 k a2 a3 a4 t148 a0_0 a0_1 a0_2 a0_3 a0_4))) = some (r1, r2, r3, r4, r5, r6, r7, r8) := h
 clear h
 replace H := Option.bind_eq_some_iff.mp H
 obtain ⟨t148, A60, H⟩ := H
 replace H : (if t148 = 0 then ((drive_Go.f k a0_0 a0_1 a0_2 a0_3 a0_4 a1 a4).bind fun bt149 => (move_Begin.j0 k a2 a3 a4 bt149.2.2.2.2.2 bt149.1 bt149.2.1 bt149.2.2.1 bt149.2.2.2.1 bt149.2.2.2.2.1)) else (move_Begin.j0 k a2 a3 a4 t148 a0_0 a0_1 a0_2 a0_3 a0_4)) = some (r1, r2, r3, r4, r5, r6, r7, r8) := H
 have A6 := Aside0.mk A60
 clear A60
 have HC7 := Aside0.mk H
 clear H
 go_enter Try.func11, Try.ntmps11
 go_upto_if 19 with (first | ((with_reducible refine gate_dst (N := 5) rfl ?_); refine bxe (cs := #[.int .i64 a0_0, .int .i64 a0_1, .int .i64 a0_2, .int .i64 a0_3, .int .i64 a0_4]) (t := 33) ?_; intro gb146 hg w8 hbox hb; have BK146 := Aside0.mk (hbox); have GW146 := Aside0.mk (bge hg HB.out); have GE146 := Aside0.mk (bge hg HB.out); replace HB := Aside0.mk (bst HB.out hb); clear hb hbox hg) | ((with_reducible refine gate_dst (N := 10) rfl ?_); refine bxe (cs := #[.int .i64 0, .int .i64 0, .int .i64 0, .int .i64 0, .int .i64 0, .int .i64 0, .int .i64 0]) (t := 35) ?_; intro gb147 hg w9 hbox hb; have BK147 := Aside0.mk (hbox); have GW147 := Aside0.mk (bge hg HB.out); have GE147 := Aside0.mk (bge hg HB.out); have NB146_147 := Aside0.mk ((bkl hg BK146.out)); have NB147_146 := Aside0.mk ((bkg hg BK146.out)); replace BK146 := Aside0.mk (bkb BK146.out hb); replace HB := Aside0.mk (bst HB.out hb); clear hb hbox hg; have hnb10 := NB146_147.out; have hnc10 := NB147_146.out; have hcz11_0 := cz5 BK146.out; have hfz11_0 := blk_frozen BK146.out) | ((with_reducible refine gate_callee (f := 29) rfl ?_); refine gsl (some 17) Try.func29 #[.agg #[.int .i64 a0_0, .int .i64 a0_1, .int .i64 a0_2, .int .i64 a0_3, .int .i64 a0_4], .int .i64 a3, .int .i64 a4] ?_; (with_reducible refine (move_sound.calls k a0_0 a0_1 a0_2 a0_3 a0_4 a3 a4 t148 _ A6.out).mono ?_); rintro e w12 ⟨rfl, hb⟩; refine ⟨_, rfl, ?_⟩; replace BK146 := Aside0.mk (bkb BK146.out hb); replace BK147 := Aside0.mk (bkb BK147.out hb); replace HB := Aside0.mk (bst HB.out hb); (try clear hb); (try clear hb2); (try clear hk); (try clear hi)))
 (try simp only [Act.put, List.setIfInBounds_toArray, List.set_cons_zero, List.set_cons_succ])
 go_cut [12] (fun v12 wc => ∃ (kq : Nat) (x12_6 : Int) (x147000_6 : Int) (x147001_6 : Int) (x147002_6 : Int) (x147003_6 : Int) (x147004_6 : Int), v12 = .int .i64 x12_6 ∧ Aside0 (move_Begin.j0 kq a2 a3 a4 x12_6 x147000_6 x147001_6 x147002_6 x147003_6 x147004_6 = some (r1, r2, r3, r4, r5, r6, r7, r8)) ∧ Aside0 (kq ≤ k) ∧ Aside0 (wc.heap[gb146]? = some (.cells #[.int .i64 x147000_6, .int .i64 x147001_6, .int .i64 x147002_6, .int .i64 x147003_6, .int .i64 x147004_6] 33 (0, 0))) ∧ Aside0 (wc.heap[gb147]? = some (.cells #[.int .i64 0, .int .i64 0, .int .i64 0, .int .i64 0, .int .i64 0, .int .i64 0, .int .i64 0] 35 (0, 0))) ∧ Aside0 (Below w.heap.size w wc))
 case first =>
  have H := HC7.out
  clear HC7
  by_cases c13 : t148 = 0
  ·rw [if_pos c13] at H
   have c13b0 : (t148 == 0) = true := beq_iff_eq.mpr c13
   have c13b1 : (t148 != 0) = false := bne_eq_false_iff_eq.mpr c13
   clear c13
   (first | rw [c13b0] | (simp only [i64_w, i32_w]; rw [c13b0]) | skip)
   replace H := Option.bind_eq_some_iff.mp H
   obtain ⟨⟨t149, t150, t151, t152, t153, t154⟩, A140, H⟩ := H
   replace H : (move_Begin.j0 k a2 a3 a4 t154 t149 t150 t151 t152 t153) = some (r1, r2, r3, r4, r5, r6, r7, r8) := H
   have A14 := Aside0.mk A140
   clear A140
   have H' := Aside0.mk H
   clear H
   have hnb15 := NB146_147.out
   have hnc15 := NB147_146.out
   have hcz16_0 := cz5 BK146.out
   have hfz16_0 := blk_frozen BK146.out
   go_wp2_with (first | ((with_reducible refine gate_callee (f := 30) rfl ?_); refine gsl (some 24) Try.func30 #[.agg #[.int .i64 a0_0, .int .i64 a0_1, .int .i64 a0_2, .int .i64 a0_3, .int .i64 a0_4], .int .i64 a1, .int .i64 a4] ?_; (with_reducible refine (drive_Go.calls k a0_0 a0_1 a0_2 a0_3 a0_4 a1 a4 t149 t150 t151 t152 t153 t154 _ A14.out).mono ?_); rintro e w17 ⟨rfl, hb⟩; refine ⟨_, rfl, ?_⟩; replace BK146 := Aside0.mk (bkb BK146.out hb); replace BK147 := Aside0.mk (bkb BK147.out hb); replace HB := Aside0.mk (bst HB.out hb); (try clear hb); (try clear hb2); (try clear hk); (try clear hi); have hcz18_0 := cz5 BK146.out; have hfz18_0 := blk_frozen BK146.out))
   go_meet
   case rel => exact ⟨_, (t154), (t149), (t150), (t151), (t152), (t153), (by first | rfl | (simp; done) | (simp [*]; done)), H', ⟨by first | omega | exact Nat.le_refl _⟩, ⟨bkt BK146.out⟩, ⟨bkt BK147.out⟩, ⟨bel HB.out⟩⟩
  ·rw [if_neg c13] at H
   have c13b0 : (t148 == 0) = false := beq_eq_false_iff_ne.mpr c13
   have c13b1 : (t148 != 0) = true := bne_iff_ne.mpr c13
   (first | rw [c13b0] | (simp only [i64_w, i32_w]; rw [c13b0]) | skip)
   have H' := Aside0.mk H
   clear H
   go_wp2
   go_meet
   case rel => exact ⟨_, (t148), (a0_0), (a0_1), (a0_2), (a0_3), (a0_4), (by first | rfl | (simp; done) | (simp [*]; done)), H', ⟨by first | omega | exact Nat.le_refl _⟩, ⟨bkt BK146.out⟩, ⟨bkt BK147.out⟩, ⟨bel HB.out⟩⟩
 case rest =>
  clear HC7
  try clear c1
  try clear c2
  try clear p2
  try clear c3
  try clear c10
  try clear c11
  try clear c13
  try clear c13b0
  try clear c13b1
  try clear c15
  try clear hcz11_0
  try clear hcz16_0
  try clear hcz18_0
  try clear hfz11_0
  try clear hfz16_0
  try clear hfz18_0
  obtain ⟨kq, x12_6, x147000_6, x147001_6, x147002_6, x147003_6, x147004_6, rfl, HA, HJ6, BK146, BK147, HB⟩ := hcut
  cases kq with
  | zero => exact absurd HA.out (by simp [move_Begin.j0])
  | succ kj6 =>
   have H := HA.out
   clear HA
   simp only [move_Begin.j0] at H
   have HC19 := Aside0.mk H
   clear H
   go_upto_region 4 with (fail)
   go_cut [32] (fun v32 wc => ∃ (kq : Nat) (x32_18 : Bool), v32 = .bool x32_18 ∧ Aside0 (move_Begin.j1 kq a2 a3 a4 x12_6 x32_18 x147000_6 x147001_6 x147002_6 x147003_6 x147004_6 = some (r1, r2, r3, r4, r5, r6, r7, r8)) ∧ Aside0 (kq ≤ kj6) ∧ Aside0 (wc.heap[gb146]? = some (.cells #[.int .i64 x147000_6, .int .i64 x147001_6, .int .i64 x147002_6, .int .i64 x147003_6, .int .i64 x147004_6] 33 (0, 0))) ∧ Aside0 (wc.heap[gb147]? = some (.cells #[.int .i64 0, .int .i64 0, .int .i64 0, .int .i64 0, .int .i64 0, .int .i64 0, .int .i64 0] 35 (0, 0))) ∧ Aside0 (Below w.heap.size w wc))
   case first =>
    have H := HC19.out
    clear HC19
    by_cases c20 : x12_6 = 0
    ·rw [if_pos c20] at H
     have c20b0 : (x12_6 == 0) = true := beq_iff_eq.mpr c20
     have c20b1 : (x12_6 != 0) = false := bne_eq_false_iff_eq.mpr c20
     clear c20
     (first | rw [c20b0] | (simp only [i64_w, i32_w]; rw [c20b0]) | skip)
     replace H := Option.bind_eq_some_iff.mp H
     obtain ⟨t155, A210, H⟩ := H
     replace H : (move_Begin.j1 kj6 a2 a3 a4 x12_6 t155 x147000_6 x147001_6 x147002_6 x147003_6 x147004_6) = some (r1, r2, r3, r4, r5, r6, r7, r8) := H
     have A21 := Aside0.mk A210
     clear A210
     have H' := Aside0.mk H
     clear H
     go_wp2_with (first | (go_at_call 31; (with_reducible refine (move_wrong.calls a2 t155 _ A21.out).mono ?_); rintro e w' ⟨rfl, ⟨nd, rfl⟩⟩; (try clear A21)))
     go_meet
     case rel => exact ⟨_, (t155), (by first | rfl | (simp; done) | (simp [*]; done)), H', ⟨by have := HJ6.out; first | omega | exact Nat.le_refl _⟩, ⟨bkt BK146.out⟩, ⟨bkt BK147.out⟩, ⟨bel HB.out⟩⟩
    ·rw [if_neg c20] at H
     have c20b0 : (x12_6 == 0) = false := beq_eq_false_iff_ne.mpr c20
     have c20b1 : (x12_6 != 0) = true := bne_iff_ne.mpr c20
     (first | rw [c20b0] | (simp only [i64_w, i32_w]; rw [c20b0]) | skip)
     have H' := Aside0.mk H
     clear H
     go_wp2
     go_meet
     case rel => exact ⟨_, (false), (by first | rfl | (simp; done) | (simp [*]; done)), H', ⟨by have := HJ6.out; first | omega | exact Nat.le_refl _⟩, ⟨bkt BK146.out⟩, ⟨bkt BK147.out⟩, ⟨bel HB.out⟩⟩
   case rest =>
    clear HC19
    try clear c1
    try clear c2
    try clear p2
    try clear c3
    try clear c10
    try clear c11
    try clear c13
    try clear c13b0
    try clear c13b1
    try clear c15
    try clear c20
    try clear c20b0
    try clear c20b1
    try clear hcz11_0
    try clear hcz16_0
    try clear hcz18_0
    try clear hfz11_0
    try clear hfz16_0
    try clear hfz18_0
    try clear p2
    obtain ⟨kq, x32_18, rfl, HA, HJ18, BK146, BK147, HB⟩ := hcut
    cases kq with
    | zero => exact absurd HA.out (by simp [move_Begin.j1])
    | succ kj18 =>
     have H := HA.out
     clear HA
     simp only [move_Begin.j1] at H
     have HC22 := Aside0.mk H
     clear H
     go_upto_if 32 with (fail)
     go_cut [12] (fun v12 wc => ∃ (kq : Nat) (x12_21 : Int), v12 = .int .i64 x12_21 ∧ Aside0 (move_Begin.j2 kq a2 a3 a4 x12_21 x147000_6 x147001_6 x147002_6 x147003_6 x147004_6 = some (r1, r2, r3, r4, r5, r6, r7, r8)) ∧ Aside0 (kq ≤ kj18) ∧ Aside0 (wc.heap[gb146]? = some (.cells #[.int .i64 x147000_6, .int .i64 x147001_6, .int .i64 x147002_6, .int .i64 x147003_6, .int .i64 x147004_6] 33 (0, 0))) ∧ Aside0 (wc.heap[gb147]? = some (.cells #[.int .i64 0, .int .i64 0, .int .i64 0, .int .i64 0, .int .i64 0, .int .i64 0, .int .i64 0] 35 (0, 0))) ∧ Aside0 (Below w.heap.size w wc))
     case first =>
      have H := HC22.out
      clear HC22
      by_cases c23 : x32_18 = true
      ·subst c23
       have H1 : (move_Begin.j2 kj18 a2 a3 a4 2 x147000_6 x147001_6 x147002_6 x147003_6 x147004_6) = some (r1, r2, r3, r4, r5, r6, r7, r8) := by rw [if_pos rfl] at H; exact H
       clear H
       have H := H1
       clear H1
       have H' := Aside0.mk H
       clear H
       go_wp2
       go_meet
       case rel => exact ⟨_, (2), (by first | rfl | (simp; done) | (simp [*]; done)), H', ⟨by have := HJ6.out; have := HJ18.out; first | omega | exact Nat.le_refl _⟩, ⟨bkt BK146.out⟩, ⟨bkt BK147.out⟩, ⟨bel HB.out⟩⟩
      ·replace c23 := Bool.eq_false_iff.mpr c23
       subst c23
       have H1 : (move_Begin.j2 kj18 a2 a3 a4 x12_6 x147000_6 x147001_6 x147002_6 x147003_6 x147004_6) = some (r1, r2, r3, r4, r5, r6, r7, r8) := by rw [if_neg (show ¬ (false = true) by decide)] at H; exact H
       clear H
       have H := H1
       clear H1
       have H' := Aside0.mk H
       clear H
       go_wp2
       go_meet
       case rel => exact ⟨_, (x12_6), (by first | rfl | (simp; done) | (simp [*]; done)), H', ⟨by have := HJ6.out; have := HJ18.out; first | omega | exact Nat.le_refl _⟩, ⟨bkt BK146.out⟩, ⟨bkt BK147.out⟩, ⟨bel HB.out⟩⟩
     case rest =>
      clear HC22
      try clear c1
      try clear c2
      try clear p2
      try clear c3
      try clear c10
      try clear c11
      try clear c13
      try clear c13b0
      try clear c13b1
      try clear c15
      try clear c20
      try clear c20b0
      try clear c20b1
      try clear c23
      try clear hcz11_0
      try clear hcz16_0
      try clear hcz18_0
      try clear hfz11_0
      try clear hfz16_0
      try clear hfz18_0
      try clear p2
      obtain ⟨kq, x12_21, rfl, HA, HJ21, BK146, BK147, HB⟩ := hcut
      cases kq with
      | zero => exact absurd HA.out (by simp [move_Begin.j2])
      | succ kj21 =>
       have H := HA.out
       clear HA
       simp only [move_Begin.j2] at H
       by_cases c24 : x12_21 = 0
       ·rw [if_pos c24] at H
        have c24b0 : (x12_21 == 0) = true := beq_iff_eq.mpr c24
        have c24b1 : (x12_21 != 0) = false := bne_eq_false_iff_eq.mpr c24
        clear c24
        replace H := Option.bind_eq_some_iff.mp H
        obtain ⟨t157, A250, H⟩ := H
        replace H : (if t157 = 0 then (some (x147000_6, x147001_6, x147002_6, x147003_6, x147004_6, a2, 0, 0)) else (some (0, 0, 0, 0, 0, 0, 0, t157))) = some (r1, r2, r3, r4, r5, r6, r7, r8) := H
        have A25 := Aside0.mk A250
        clear A250
        by_cases c26 : t157 = 0
        ·rw [if_pos c26] at H
         have c26b0 : (t157 == 0) = true := beq_iff_eq.mpr c26
         have c26b1 : (t157 != 0) = false := bne_eq_false_iff_eq.mpr c26
         clear c26
         simp only [Option.some.injEq, Prod.mk.injEq] at H
         obtain ⟨rfl, rfl, rfl, rfl, rfl, rfl, rfl, rfl⟩ := H
         have hnb27 := NB146_147.out
         have hnc27 := NB147_146.out
         have hcz28_0 := cz5 BK146.out
         have hfz28_0 := blk_frozen BK146.out
         go_wp2_with (first | ((with_reducible refine gate_dst (N := 13) rfl ?_); refine bxe (cs := #[.int .i64 0, .int .i64 0, .int .i64 0, .int .i64 0, .int .i64 0, .int .i64 0, .int .i64 0]) (t := 35) ?_; intro gb156 hg w29 hbox hb; have BK156 := Aside0.mk (hbox); have GW156 := Aside0.mk (bge hg HB.out); have GE156 := Aside0.mk (bge hg HB.out); have NB146_156 := Aside0.mk ((bkl hg BK146.out)); have NB156_146 := Aside0.mk ((bkg hg BK146.out)); have NB147_156 := Aside0.mk ((bkl hg BK147.out)); have NB156_147 := Aside0.mk ((bkg hg BK147.out)); replace BK146 := Aside0.mk (bkb BK146.out hb); replace BK147 := Aside0.mk (bkb BK147.out hb); replace HB := Aside0.mk (bst HB.out hb); clear hb hbox hg; have hnb30 := NB156_146.out; have hnc30 := NB146_156.out; have hnb31 := NB156_147.out; have hnc31 := NB147_156.out; have hcz32_0 := cz7 BK156.out; have hfz32_0 := blk_frozen BK156.out) | ((with_reducible refine gate_callee (f := 15) rfl ?_); refine gsl (some 41) Try.func15 #[.agg #[.int .i64 x147000_6, .int .i64 x147001_6, .int .i64 x147002_6, .int .i64 x147003_6, .int .i64 x147004_6, .int .i64 a2, .int .i64 0], .int .i64 a3, .int .i64 a4] ?_; (with_reducible refine (move_Check.calls x147000_6 x147001_6 x147002_6 x147003_6 x147004_6 a2 0 a3 a4 t157 _ A25.out).mono ?_); rintro e w33 ⟨rfl, hb⟩; refine ⟨_, rfl, ?_⟩; replace BK146 := Aside0.mk (bkb BK146.out hb); replace BK147 := Aside0.mk (bkb BK147.out hb); replace BK156 := Aside0.mk (blk_below (g := gb156) (o := .cells #[.int .i64 x147000_6, .int .i64 x147001_6, .int .i64 x147002_6, .int .i64 x147003_6, .int .i64 x147004_6, .int .i64 a2, .int .i64 0] 35 (0, 0)) (bkt BK156.out) hb); replace HB := Aside0.mk (bst HB.out hb); (try clear hb); (try clear hb2); (try clear hk); (try clear hi); have hcz34_0 := cz7 BK156.out; have hfz34_0 := blk_frozen BK156.out; have hcz35_0 := cz7 BK147.out; have hfz35_0 := blk_frozen BK147.out))
         refine bodyPost_ret (results_ct rfl _ _ gb147 35 #[.int .i64 x147000_6, .int .i64 x147001_6, .int .i64 x147002_6, .int .i64 x147003_6, .int .i64 x147004_6, .int .i64 a2, .int .i64 0] (0, 0) _ rfl (bkt BK147.out) Try.underlying35 rfl (by kernel_rfl)) rfl ?_
         exact bfin (bel HB.out)
        ·rw [if_neg c26] at H
         have c26b0 : (t157 == 0) = false := beq_eq_false_iff_ne.mpr c26
         have c26b1 : (t157 != 0) = true := bne_iff_ne.mpr c26
         simp only [Option.some.injEq, Prod.mk.injEq] at H
         obtain ⟨rfl, rfl, rfl, rfl, rfl, rfl, rfl, rfl⟩ := H
         have hnb36 := NB146_147.out
         have hnc36 := NB147_146.out
         have hcz37_0 := cz5 BK146.out
         have hfz37_0 := blk_frozen BK146.out
         go_wp2_with (first | ((with_reducible refine gate_dst (N := 13) rfl ?_); refine bxe (cs := #[.int .i64 0, .int .i64 0, .int .i64 0, .int .i64 0, .int .i64 0, .int .i64 0, .int .i64 0]) (t := 35) ?_; intro gb156 hg w38 hbox hb; have BK156 := Aside0.mk (hbox); have GW156 := Aside0.mk (bge hg HB.out); have GE156 := Aside0.mk (bge hg HB.out); have NB146_156 := Aside0.mk ((bkl hg BK146.out)); have NB156_146 := Aside0.mk ((bkg hg BK146.out)); have NB147_156 := Aside0.mk ((bkl hg BK147.out)); have NB156_147 := Aside0.mk ((bkg hg BK147.out)); replace BK146 := Aside0.mk (bkb BK146.out hb); replace BK147 := Aside0.mk (bkb BK147.out hb); replace HB := Aside0.mk (bst HB.out hb); clear hb hbox hg; have hnb39 := NB156_146.out; have hnc39 := NB146_156.out; have hnb40 := NB156_147.out; have hnc40 := NB147_156.out; have hcz41_0 := cz7 BK156.out; have hfz41_0 := blk_frozen BK156.out) | ((with_reducible refine gate_callee (f := 15) rfl ?_); refine gsl (some 41) Try.func15 #[.agg #[.int .i64 x147000_6, .int .i64 x147001_6, .int .i64 x147002_6, .int .i64 x147003_6, .int .i64 x147004_6, .int .i64 a2, .int .i64 0], .int .i64 a3, .int .i64 a4] ?_; (with_reducible refine (move_Check.calls x147000_6 x147001_6 x147002_6 x147003_6 x147004_6 a2 0 a3 a4 t157 _ A25.out).mono ?_); rintro e w42 ⟨rfl, hb⟩; refine ⟨_, rfl, ?_⟩; replace BK146 := Aside0.mk (bkb BK146.out hb); replace BK147 := Aside0.mk (bkb BK147.out hb); replace BK156 := Aside0.mk (blk_below (g := gb156) (o := .cells #[.int .i64 x147000_6, .int .i64 x147001_6, .int .i64 x147002_6, .int .i64 x147003_6, .int .i64 x147004_6, .int .i64 a2, .int .i64 0] 35 (0, 0)) (bkt BK156.out) hb); replace HB := Aside0.mk (bst HB.out hb); (try clear hb); (try clear hb2); (try clear hk); (try clear hi); have hcz43_0 := cz7 BK147.out; have hfz43_0 := blk_frozen BK147.out))
         refine bodyPost_ret (results_ct rfl _ _ gb147 35 #[.int .i64 0, .int .i64 0, .int .i64 0, .int .i64 0, .int .i64 0, .int .i64 0, .int .i64 0] (0, 0) _ rfl (bkt BK147.out) Try.underlying35 rfl (by kernel_rfl)) rfl ?_
         exact bfin (bel HB.out)
       ·rw [if_neg c24] at H
        have c24b0 : (x12_21 == 0) = false := beq_eq_false_iff_ne.mpr c24
        have c24b1 : (x12_21 != 0) = true := bne_iff_ne.mpr c24
        simp only [Option.some.injEq, Prod.mk.injEq] at H
        obtain ⟨rfl, rfl, rfl, rfl, rfl, rfl, rfl, rfl⟩ := H
        have hnb44 := NB146_147.out
        have hnc44 := NB147_146.out
        have hcz45_0 := cz5 BK146.out
        have hfz45_0 := blk_frozen BK146.out
        go_wp2_with (first | ((with_reducible refine gate_dst (N := 13) rfl ?_); refine bxe (cs := #[.int .i64 0, .int .i64 0, .int .i64 0, .int .i64 0, .int .i64 0, .int .i64 0, .int .i64 0]) (t := 35) ?_; intro gb156 hg w46 hbox hb; have BK156 := Aside0.mk (hbox); have GW156 := Aside0.mk (bge hg HB.out); have GE156 := Aside0.mk (bge hg HB.out); have NB146_156 := Aside0.mk ((bkl hg BK146.out)); have NB156_146 := Aside0.mk ((bkg hg BK146.out)); have NB147_156 := Aside0.mk ((bkl hg BK147.out)); have NB156_147 := Aside0.mk ((bkg hg BK147.out)); replace BK146 := Aside0.mk (bkb BK146.out hb); replace BK147 := Aside0.mk (bkb BK147.out hb); replace HB := Aside0.mk (bst HB.out hb); clear hb hbox hg; have hnb47 := NB156_146.out; have hnc47 := NB146_156.out; have hnb48 := NB156_147.out; have hnc48 := NB147_156.out; have hcz49_0 := cz7 BK156.out; have hfz49_0 := blk_frozen BK156.out; have hcz50_0 := cz7 BK147.out; have hfz50_0 := blk_frozen BK147.out))
        refine bodyPost_ret (results_ct rfl _ _ gb147 35 #[.int .i64 0, .int .i64 0, .int .i64 0, .int .i64 0, .int .i64 0, .int .i64 0, .int .i64 0] (0, 0) _ rfl (bkt BK147.out) Try.underlying35 rfl (by kernel_rfl)) rfl ?_
        exact bfin (bel HB.out)

/-! ### move_Over: function 16 -/
def move_Over.f (a0_0 : Int) (a0_1 : Int) (a0_2 : Int) (a0_3 : Int) (a0_4 : Int) (a0_5 : Int) (a0_6 : Int) (a1 : Int) (a2 : Int) : Option (Bool × Int) := (move_Check.f a0_0 a0_1 a0_2 a0_3 a0_4 a0_5 a0_6 a1 a2).bind fun t284 => (if t284 = 0 then (some ((a0_6 == a0_5), 0)) else (some (false, t284)))
set_option maxHeartbeats 8000000 in
set_option maxRecDepth 100000 in
theorem move_Over.calls (a0_0 : Int) (a0_1 : Int) (a0_2 : Int) (a0_3 : Int) (a0_4 : Int) (a0_5 : Int) (a0_6 : Int) (a1 : Int) (a2 : Int) (r1 : Bool) (r2 : Int) (w : World) (h : move_Over.f a0_0 a0_1 a0_2 a0_3 a0_4 a0_5 a0_6 a1 a2 = some (r1, r2)) :
  Calls Try.prog 16 #[.agg #[.int .i64 a0_0, .int .i64 a0_1, .int .i64 a0_2, .int .i64 a0_3, .int .i64 a0_4, .int .i64 a0_5, .int .i64 a0_6], .int .i64 a1, .int .i64 a2] w fun e w' => e = .returned (.tuple #[.bool r1, .int .i64 r2]) ∧ Below w.heap.size w w' := by
 have hu35 := Try.underlying35
 have HB := Aside0.mk (Below.refl w.heap.size w)
 have H : ((move_Check.f a0_0 a0_1 a0_2 a0_3 a0_4 a0_5 a0_6 a1 a2).bind fun t284 => (if t284 = 0 then (some ((a0_6 == a0_5), 0)) else (some (false, t284)))) = some (r1, r2) := h
 clear h
 replace H := Option.bind_eq_some_iff.mp H
 obtain ⟨t284, A40, H⟩ := H
 replace H : (if t284 = 0 then (some ((a0_6 == a0_5), 0)) else (some (false, t284))) = some (r1, r2) := H
 have A4 := Aside0.mk A40
 clear A40
 by_cases c5 : t284 = 0
 ·rw [if_pos c5] at H
  have c5b0 : (t284 == 0) = true := beq_iff_eq.mpr c5
  have c5b1 : (t284 != 0) = false := bne_eq_false_iff_eq.mpr c5
  clear c5
  simp only [Option.some.injEq, Prod.mk.injEq] at H
  obtain ⟨rfl, rfl⟩ := H
  go_enter Try.func16, Try.ntmps16
  go_wp2_with (first | ((with_reducible refine gate_dst (N := 3) rfl ?_); refine bxe (cs := #[.int .i64 a0_0, .int .i64 a0_1, .int .i64 a0_2, .int .i64 a0_3, .int .i64 a0_4, .int .i64 a0_5, .int .i64 a0_6]) (t := 35) ?_; intro gb283 hg w6 hbox hb; have BK283 := Aside0.mk (hbox); have GW283 := Aside0.mk (bge hg HB.out); have GE283 := Aside0.mk (bge hg HB.out); replace HB := Aside0.mk (bst HB.out hb); clear hb hbox hg; have hcz7_0 := cz7 BK283.out; have hfz7_0 := blk_frozen BK283.out) | ((with_reducible refine gate_callee (f := 15) rfl ?_); refine gsl (some 12) Try.func15 #[.agg #[.int .i64 a0_0, .int .i64 a0_1, .int .i64 a0_2, .int .i64 a0_3, .int .i64 a0_4, .int .i64 a0_5, .int .i64 a0_6], .int .i64 a1, .int .i64 a2] ?_; (with_reducible refine (move_Check.calls a0_0 a0_1 a0_2 a0_3 a0_4 a0_5 a0_6 a1 a2 t284 _ A4.out).mono ?_); rintro e w8 ⟨rfl, hb⟩; refine ⟨_, rfl, ?_⟩; replace BK283 := Aside0.mk (bkb BK283.out hb); replace HB := Aside0.mk (bst HB.out hb); (try clear hb); (try clear hb2); (try clear hk); (try clear hi); have hcz9_0 := cz7 BK283.out; have hfz9_0 := blk_frozen BK283.out))
  go_ret2
  exact bfin (bel HB.out)
 ·rw [if_neg c5] at H
  have c5b0 : (t284 == 0) = false := beq_eq_false_iff_ne.mpr c5
  have c5b1 : (t284 != 0) = true := bne_iff_ne.mpr c5
  simp only [Option.some.injEq, Prod.mk.injEq] at H
  obtain ⟨rfl, rfl⟩ := H
  go_enter Try.func16, Try.ntmps16
  go_wp2_with (first | ((with_reducible refine gate_dst (N := 3) rfl ?_); refine bxe (cs := #[.int .i64 a0_0, .int .i64 a0_1, .int .i64 a0_2, .int .i64 a0_3, .int .i64 a0_4, .int .i64 a0_5, .int .i64 a0_6]) (t := 35) ?_; intro gb283 hg w10 hbox hb; have BK283 := Aside0.mk (hbox); have GW283 := Aside0.mk (bge hg HB.out); have GE283 := Aside0.mk (bge hg HB.out); replace HB := Aside0.mk (bst HB.out hb); clear hb hbox hg; have hcz11_0 := cz7 BK283.out; have hfz11_0 := blk_frozen BK283.out) | ((with_reducible refine gate_callee (f := 15) rfl ?_); refine gsl (some 12) Try.func15 #[.agg #[.int .i64 a0_0, .int .i64 a0_1, .int .i64 a0_2, .int .i64 a0_3, .int .i64 a0_4, .int .i64 a0_5, .int .i64 a0_6], .int .i64 a1, .int .i64 a2] ?_; (with_reducible refine (move_Check.calls a0_0 a0_1 a0_2 a0_3 a0_4 a0_5 a0_6 a1 a2 t284 _ A4.out).mono ?_); rintro e w12 ⟨rfl, hb⟩; refine ⟨_, rfl, ?_⟩; replace BK283 := Aside0.mk (bkb BK283.out hb); replace HB := Aside0.mk (bst HB.out hb); (try clear hb); (try clear hb2); (try clear hk); (try clear hi)))
  go_ret2
  exact bfin (bel HB.out)

end Go.Proofs.Ytckaofgkepcibaa.P
