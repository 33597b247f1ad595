-- Printed by wip/myprint.py of this repo (over the kit's printer). Not trusted: Lean checks it.
import Derived.Test.YtckaofgkepcibaaP0
import Derived.Test.YtckaofgkepcibaaMa
import Derived.Test.YtckaofgkepcibaaP0driveb
namespace Go.Proofs.Ytckaofgkepcibaa.P
open Go.RowKit Go.Proofs.YtckaofgkepcibaaW.PrintWords Go.Proofs.YtckaofgkepcibaaW.PrintLast Go.Proofs.YtckaofgkepcibaaW.PrintMore
attribute [local go_sem] cell_same1 cell_some1
attribute [local go_sem] max2_int min2_int max_two min_two max_three min_three max_four min_four   -- for this text's walks alone
set_option linter.unusedVariables false
set_option linter.unusedSimpArgs false

/-! ### move_Stop: function 19 -/
def move_Stop.f (k : Nat) (a0_0 : Int) (a0_1 : Int) (a0_2 : Int) (a0_3 : Int) (a0_4 : Int) (a0_5 : Int) (a0_6 : Int) (a1 : Int) (a2 : Int) : Option (Int × Int × Int × Int × Int × Int × Int × Int) := (move_Check.f a0_0 a0_1 a0_2 a0_3 a0_4 a0_5 a0_6 a1 a2).bind fun t342 => (if t342 = 0 then ((drive_Halt.f k a0_0 a0_1 a0_2 a0_3 a0_4).bind fun bt343 => (if bt343.2.2.2.2.2 = 0 then (some (bt343.1, bt343.2.1, bt343.2.2.1, bt343.2.2.2.1, bt343.2.2.2.2.1, a0_5, a0_6, 0)) else (some (0, 0, 0, 0, 0, 0, 0, bt343.2.2.2.2.2)))) else (some (0, 0, 0, 0, 0, 0, 0, t342)))
theorem move_Stop.mono : ∀ a0 a1 a2 a3 a4 a5 a6 a7 a8 k, LeO (move_Stop.f k a0 a1 a2 a3 a4 a5 a6 a7 a8) (move_Stop.f (k + 1) a0 a1 a2 a3 a4 a5 a6 a7 a8) := by
  intro a0 a1 a2 a3 a4 a5 a6 a7 a8 k
  unfold move_Stop.f
  repeat' first
      | (with_reducible exact drive_Halt.mono _ _ _ _ _ _)
      | (with_reducible exact LeO.refl _)
      | (with_reducible exact LeO.none _)
      | (with_reducible refine LeO.ite ?_ ?_)
      | (with_reducible refine LeO.bind ?_ (fun _ => ?_))
      | exact drive_Halt.mono _ _ _ _ _ _
      | exact LeO.none _
      | refine LeO.ite ?_ ?_
      | refine LeO.bind ?_ (fun _ => ?_)
set_option maxHeartbeats 8000000 in
set_option maxRecDepth 100000 in
theorem move_Stop.calls (k : Nat) (a0_0 : Int) (a0_1 : Int) (a0_2 : Int) (a0_3 : Int) (a0_4 : Int) (a0_5 : Int) (a0_6 : Int) (a1 : Int) (a2 : Int) (r1 : Int) (r2 : Int) (r3 : Int) (r4 : Int) (r5 : Int) (r6 : Int) (r7 : Int) (r8 : Int) (w : World) (h : move_Stop.f k a0_0 a0_1 a0_2 a0_3 a0_4 a0_5 a0_6 a1 a2 = some (r1, r2, r3, r4, r5, r6, r7, r8)) :
    Calls Try.prog 19 #[.agg #[.int .i64 a0_0, .int .i64 a0_1, .int .i64 a0_2, .int .i64 a0_3, .int .i64 a0_4, .int .i64 a0_5, .int .i64 a0_6], .int .i64 a1, .int .i64 a2] w fun e w' => e = .returned (.tuple #[.agg #[.int .i64 r1, .int .i64 r2, .int .i64 r3, .int .i64 r4, .int .i64 r5, .int .i64 r6, .int .i64 r7], .int .i64 r8]) ∧ Below w.heap.size w w' := by
  have hu35 := Try.underlying35
  have hu33 := Try.underlying33
  have HB := Aside0.mk (Below.refl w.heap.size w)
  have H : ((move_Check.f a0_0 a0_1 a0_2 a0_3 a0_4 a0_5 a0_6 a1 a2).bind fun t342 => (if t342 = 0 then ((drive_Halt.f k a0_0 a0_1 a0_2 a0_3 a0_4).bind fun bt343 => (if bt343.2.2.2.2.2 = 0 then (some (bt343.1, bt343.2.1, bt343.2.2.1, bt343.2.2.2.1, bt343.2.2.2.2.1, a0_5, a0_6, 0)) else (some (0, 0, 0, 0, 0, 0, 0, bt343.2.2.2.2.2)))) else (some (0, 0, 0, 0, 0, 0, 0, t342)))) = some (r1, r2, r3, r4, r5, r6, r7, r8) := h
  clear h
  replace H := Option.bind_eq_some_iff.mp H
  obtain ⟨t342, A40, H⟩ := H
  replace H : (if t342 = 0 then ((drive_Halt.f k a0_0 a0_1 a0_2 a0_3 a0_4).bind fun bt343 => (if bt343.2.2.2.2.2 = 0 then (some (bt343.1, bt343.2.1, bt343.2.2.1, bt343.2.2.2.1, bt343.2.2.2.2.1, a0_5, a0_6, 0)) else (some (0, 0, 0, 0, 0, 0, 0, bt343.2.2.2.2.2)))) else (some (0, 0, 0, 0, 0, 0, 0, t342))) = some (r1, r2, r3, r4, r5, r6, r7, r8) := H
  have A4 := Aside0.mk A40
  clear A40
  by_cases c5 : t342 = 0
  · rw [if_pos c5] at H
    have c5b0 : (t342 == 0) = true := beq_iff_eq.mpr c5
    have c5b1 : (t342 != 0) = false := bne_eq_false_iff_eq.mpr c5
    clear c5
    replace H := Option.bind_eq_some_iff.mp H
    obtain ⟨⟨t343, t344, t345, t346, t347, t348⟩, A60, H⟩ := H
    replace H : (if t348 = 0 then (some (t343, t344, t345, t346, t347, a0_5, a0_6, 0)) else (some (0, 0, 0, 0, 0, 0, 0, t348))) = some (r1, r2, r3, r4, r5, r6, r7, r8) := H
    have A6 := Aside0.mk A60
    clear A60
    by_cases c7 : t348 = 0
    · rw [if_pos c7] at H
      have c7b0 : (t348 == 0) = true := beq_iff_eq.mpr c7
      have c7b1 : (t348 != 0) = false := bne_eq_false_iff_eq.mpr c7
      clear c7
      simp only [Option.some.injEq, Prod.mk.injEq] at H
      obtain ⟨rfl, rfl, rfl, rfl, rfl, rfl, rfl, rfl⟩ := H
      go_enter Try.func19, Try.ntmps19
      go_wp2_with (first | ((with_reducible refine gate_dst (N := 3) rfl ?_); refine bxe (cs := #[.int .i64 a0_0, .int .i64 a0_1, .int .i64 a0_2, .int .i64 a0_3, .int .i64 a0_4, .int .i64 a0_5, .int .i64 a0_6]) (t := 35) ?_; intro gb340 hg w8 hbox hb; have BK340 := Aside0.mk (hbox); have GW340 := Aside0.mk (bge hg HB.out); have GE340 := Aside0.mk (bge hg HB.out); replace HB := Aside0.mk (bst HB.out hb); clear hb hbox hg) | ((with_reducible refine gate_dst (N := 6) rfl ?_); refine bxe (cs := #[.int .i64 0, .int .i64 0, .int .i64 0, .int .i64 0, .int .i64 0, .int .i64 0, .int .i64 0]) (t := 35) ?_; intro gb341 hg w9 hbox hb; have BK341 := Aside0.mk (hbox); have GW341 := Aside0.mk (bge hg HB.out); have GE341 := Aside0.mk (bge hg HB.out); have NB340_341 := Aside0.mk ((bkl hg BK340.out)); have NB341_340 := Aside0.mk ((bkg hg BK340.out)); replace BK340 := Aside0.mk (bkb BK340.out hb); replace HB := Aside0.mk (bst HB.out hb); clear hb hbox hg; have hnb10 := NB340_341.out; have hnc10 := NB341_340.out; have hcz11_0 := cz7 BK340.out; have hfz11_0 := blk_frozen BK340.out) | ((with_reducible refine gate_callee (f := 15) rfl ?_); refine gsl (some 14) Try.func15 #[.agg #[.int .i64 a0_0, .int .i64 a0_1, .int .i64 a0_2, .int .i64 a0_3, .int .i64 a0_4, .int .i64 a0_5, .int .i64 a0_6], .int .i64 a1, .int .i64 a2] ?_; (with_reducible refine (move_Check.calls a0_0 a0_1 a0_2 a0_3 a0_4 a0_5 a0_6 a1 a2 t342 _ A4.out).mono ?_); rintro e w12 ⟨rfl, hb⟩; refine ⟨_, rfl, ?_⟩; replace BK340 := Aside0.mk (bkb BK340.out hb); replace BK341 := Aside0.mk (bkb BK341.out hb); replace HB := Aside0.mk (bst HB.out hb); (try clear hb); (try clear hb2); (try clear hk); (try clear hi); have hcz13_0 := cz7 BK340.out; have hfz13_0 := blk_frozen BK340.out) | ((with_reducible refine gate_callee (f := 40) rfl ?_); refine gsl (some 22) Try.func40 #[.agg #[.int .i64 a0_0, .int .i64 a0_1, .int .i64 a0_2, .int .i64 a0_3, .int .i64 a0_4]] ?_; (with_reducible refine (drive_Halt.calls k a0_0 a0_1 a0_2 a0_3 a0_4 t343 t344 t345 t346 t347 t348 _ A6.out).mono ?_); rintro e w14 ⟨rfl, hb⟩; refine ⟨_, rfl, ?_⟩; replace BK340 := Aside0.mk (bkb BK340.out hb); replace BK341 := Aside0.mk (bkb BK341.out hb); replace HB := Aside0.mk (bst HB.out hb); (try clear hb); (try clear hb2); (try clear hk); (try clear hi)) | ((with_reducible refine gate_dst (N := 9) rfl ?_); refine bxe (cs := #[.int .i64 0, .int .i64 0, .int .i64 0, .int .i64 0, .int .i64 0]) (t := 33) ?_; intro gb349 hg w15 hbox hb; have BK349 := Aside0.mk (hbox); have GW349 := Aside0.mk (bge hg HB.out); have GE349 := Aside0.mk (bge hg HB.out); have NB340_349 := Aside0.mk ((bkl hg BK340.out)); have NB349_340 := Aside0.mk ((bkg hg BK340.out)); have NB341_349 := Aside0.mk ((bkl hg BK341.out)); have NB349_341 := Aside0.mk ((bkg hg BK341.out)); replace BK340 := Aside0.mk (bkb BK340.out hb); replace BK341 := Aside0.mk (bkb BK341.out hb); replace HB := Aside0.mk (bst HB.out hb); clear hb hbox hg; have hnb16 := NB349_340.out; have hnc16 := NB340_349.out; have hnb17 := NB349_341.out; have hnc17 := NB341_349.out; have hcz18_0 := cz5 BK349.out; have hfz18_0 := blk_frozen BK349.out; have hcz19_0 := cz7 BK340.out; have hfz19_0 := blk_frozen BK340.out; have hcz20_0 := cz7 BK341.out; have hfz20_0 := blk_frozen BK341.out))
      refine bodyPost_ret (results_ct rfl _ _ gb341 35 #[.int .i64 t343, .int .i64 t344, .int .i64 t345, .int .i64 t346, .int .i64 t347, .int .i64 a0_5, .int .i64 a0_6] (0, 0) _ rfl (bkt BK341.out) Try.underlying35 rfl (by kernel_rfl)) rfl ?_
      exact bfin (bel HB.out)
    · rw [if_neg c7] at H
      have c7b0 : (t348 == 0) = false := beq_eq_false_iff_ne.mpr c7
      have c7b1 : (t348 != 0) = true := bne_iff_ne.mpr c7
      simp only [Option.some.injEq, Prod.mk.injEq] at H
      obtain ⟨rfl, rfl, rfl, rfl, rfl, rfl, rfl, rfl⟩ := H
      go_enter Try.func19, Try.ntmps19
      go_wp2_with (first | ((with_reducible refine gate_dst (N := 3) rfl ?_); refine bxe (cs := #[.int .i64 a0_0, .int .i64 a0_1, .int .i64 a0_2, .int .i64 a0_3, .int .i64 a0_4, .int .i64 a0_5, .int .i64 a0_6]) (t := 35) ?_; intro gb340 hg w21 hbox hb; have BK340 := Aside0.mk (hbox); have GW340 := Aside0.mk (bge hg HB.out); have GE340 := Aside0.mk (bge hg HB.out); replace HB := Aside0.mk (bst HB.out hb); clear hb hbox hg) | ((with_reducible refine gate_dst (N := 6) rfl ?_); refine bxe (cs := #[.int .i64 0, .int .i64 0, .int .i64 0, .int .i64 0, .int .i64 0, .int .i64 0, .int .i64 0]) (t := 35) ?_; intro gb341 hg w22 hbox hb; have BK341 := Aside0.mk (hbox); have GW341 := Aside0.mk (bge hg HB.out); have GE341 := Aside0.mk (bge hg HB.out); have NB340_341 := Aside0.mk ((bkl hg BK340.out)); have NB341_340 := Aside0.mk ((bkg hg BK340.out)); replace BK340 := Aside0.mk (bkb BK340.out hb); replace HB := Aside0.mk (bst HB.out hb); clear hb hbox hg; have hnb23 := NB340_341.out; have hnc23 := NB341_340.out; have hcz24_0 := cz7 BK340.out; have hfz24_0 := blk_frozen BK340.out) | ((with_reducible refine gate_callee (f := 15) rfl ?_); refine gsl (some 14) Try.func15 #[.agg #[.int .i64 a0_0, .int .i64 a0_1, .int .i64 a0_2, .int .i64 a0_3, .int .i64 a0_4, .int .i64 a0_5, .int .i64 a0_6], .int .i64 a1, .int .i64 a2] ?_; (with_reducible refine (move_Check.calls a0_0 a0_1 a0_2 a0_3 a0_4 a0_5 a0_6 a1 a2 t342 _ A4.out).mono ?_); rintro e w25 ⟨rfl, hb⟩; refine ⟨_, rfl, ?_⟩; replace BK340 := Aside0.mk (bkb BK340.out hb); replace BK341 := Aside0.mk (bkb BK341.out hb); replace HB := Aside0.mk (bst HB.out hb); (try clear hb); (try clear hb2); (try clear hk); (try clear hi); have hcz26_0 := cz7 BK340.out; have hfz26_0 := blk_frozen BK340.out) | ((with_reducible refine gate_callee (f := 40) rfl ?_); refine gsl (some 22) Try.func40 #[.agg #[.int .i64 a0_0, .int .i64 a0_1, .int .i64 a0_2, .int .i64 a0_3, .int .i64 a0_4]] ?_; (with_reducible refine (drive_Halt.calls k a0_0 a0_1 a0_2 a0_3 a0_4 t343 t344 t345 t346 t347 t348 _ A6.out).mono ?_); rintro e w27 ⟨rfl, hb⟩; refine ⟨_, rfl, ?_⟩; replace BK340 := Aside0.mk (bkb BK340.out hb); replace BK341 := Aside0.mk (bkb BK341.out hb); replace HB := Aside0.mk (bst HB.out hb); (try clear hb); (try clear hb2); (try clear hk); (try clear hi)) | ((with_reducible refine gate_dst (N := 9) rfl ?_); refine bxe (cs := #[.int .i64 0, .int .i64 0, .int .i64 0, .int .i64 0, .int .i64 0]) (t := 33) ?_; intro gb349 hg w28 hbox hb; have BK349 := Aside0.mk (hbox); have GW349 := Aside0.mk (bge hg HB.out); have GE349 := Aside0.mk (bge hg HB.out); have NB340_349 := Aside0.mk ((bkl hg BK340.out)); have NB349_340 := Aside0.mk ((bkg hg BK340.out)); have NB341_349 := Aside0.mk ((bkl hg BK341.out)); have NB349_341 := Aside0.mk ((bkg hg BK341.out)); replace BK340 := Aside0.mk (bkb BK340.out hb); replace BK341 := Aside0.mk (bkb BK341.out hb); replace HB := Aside0.mk (bst HB.out hb); clear hb hbox hg; have hnb29 := NB349_340.out; have hnc29 := NB340_349.out; have hnb30 := NB349_341.out; have hnc30 := NB341_349.out; have hcz31_0 := cz5 BK349.out; have hfz31_0 := blk_frozen BK349.out; have hcz32_0 := cz7 BK341.out; have hfz32_0 := blk_frozen BK341.out))
      refine bodyPost_ret (results_ct rfl _ _ gb341 35 #[.int .i64 0, .int .i64 0, .int .i64 0, .int .i64 0, .int .i64 0, .int .i64 0, .int .i64 0] (0, 0) _ rfl (bkt BK341.out) Try.underlying35 rfl (by kernel_rfl)) rfl ?_
      exact bfin (bel HB.out)
  · rw [if_neg c5] at H
    have c5b0 : (t342 == 0) = false := beq_eq_false_iff_ne.mpr c5
    have c5b1 : (t342 != 0) = true := bne_iff_ne.mpr c5
    simp only [Option.some.injEq, Prod.mk.injEq] at H
    obtain ⟨rfl, rfl, rfl, rfl, rfl, rfl, rfl, rfl⟩ := H
    go_enter Try.func19, Try.ntmps19
    go_wp2_with (first | ((with_reducible refine gate_dst (N := 3) rfl ?_); refine bxe (cs := #[.int .i64 a0_0, .int .i64 a0_1, .int .i64 a0_2, .int .i64 a0_3, .int .i64 a0_4, .int .i64 a0_5, .int .i64 a0_6]) (t := 35) ?_; intro gb340 hg w33 hbox hb; have BK340 := Aside0.mk (hbox); have GW340 := Aside0.mk (bge hg HB.out); have GE340 := Aside0.mk (bge hg HB.out); replace HB := Aside0.mk (bst HB.out hb); clear hb hbox hg) | ((with_reducible refine gate_dst (N := 6) rfl ?_); refine bxe (cs := #[.int .i64 0, .int .i64 0, .int .i64 0, .int .i64 0, .int .i64 0, .int .i64 0, .int .i64 0]) (t := 35) ?_; intro gb341 hg w34 hbox hb; have BK341 := Aside0.mk (hbox); have GW341 := Aside0.mk (bge hg HB.out); have GE341 := Aside0.mk (bge hg HB.out); have NB340_341 := Aside0.mk ((bkl hg BK340.out)); have NB341_340 := Aside0.mk ((bkg hg BK340.out)); replace BK340 := Aside0.mk (bkb BK340.out hb); replace HB := Aside0.mk (bst HB.out hb); clear hb hbox hg; have hnb35 := NB340_341.out; have hnc35 := NB341_340.out; have hcz36_0 := cz7 BK340.out; have hfz36_0 := blk_frozen BK340.out) | ((with_reducible refine gate_callee (f := 15) rfl ?_); refine gsl (some 14) Try.func15 #[.agg #[.int .i64 a0_0, .int .i64 a0_1, .int .i64 a0_2, .int .i64 a0_3, .int .i64 a0_4, .int .i64 a0_5, .int .i64 a0_6], .int .i64 a1, .int .i64 a2] ?_; (with_reducible refine (move_Check.calls a0_0 a0_1 a0_2 a0_3 a0_4 a0_5 a0_6 a1 a2 t342 _ A4.out).mono ?_); rintro e w37 ⟨rfl, hb⟩; refine ⟨_, rfl, ?_⟩; replace BK340 := Aside0.mk (bkb BK340.out hb); replace BK341 := Aside0.mk (bkb BK341.out hb); replace HB := Aside0.mk (bst HB.out hb); (try clear hb); (try clear hb2); (try clear hk); (try clear hi); have hcz38_0 := cz7 BK341.out; have hfz38_0 := blk_frozen BK341.out))
    refine bodyPost_ret (results_ct rfl _ _ gb341 35 #[.int .i64 0, .int .i64 0, .int .i64 0, .int .i64 0, .int .i64 0, .int .i64 0, .int .i64 0] (0, 0) _ rfl (bkt BK341.out) Try.underlying35 rfl (by kernel_rfl)) rfl ?_
    exact bfin (bel HB.out)

end Go.Proofs.Ytckaofgkepcibaa.P
