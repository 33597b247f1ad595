-- Printed by wip/myprint.py of this repo (over the kit's printer). Not trusted: Lean checks it.
import Derived.Test.YtlkphdcfgaolnaaP0
import Derived.Test.YtlkphdcfgaolnaaE23
import Derived.Test.YtlkphdcfgaolnaaOa
import Derived.Test.YtlkphdcfgaolnaaOr
import Derived.Test.YtlkphdcfgaolnaaOv
import Derived.Test.YtlkphdcfgaolnaaP2tipstafflaw12
import Derived.Test.YtlkphdcfgaolnaaVa
namespace Go.Proofs.Ytlkphdcfgaolnaa.P
open Go.RowKit Go.Proofs.YtlkphdcfgaolnaaW.PrintWords Go.Proofs.YtlkphdcfgaolnaaW.PrintLast Go.Proofs.YtlkphdcfgaolnaaW.PrintMore
attribute [local go_sem] cell_same1 cell_some1
attribute [local go_sem] max2_int min2_int max_two min_two max_three min_three max_four min_four   -- for this text's walks alone
set_option linter.unusedVariables false
set_option linter.unusedSimpArgs false

attribute [local go_sem high] eqA23
/-! ### q_SensorVotes: function 4 -/
def q_SensorVotes.f (k : Nat) (a0_0 : Bool) (a0_1 : Int) (a0_2 : Int) (a1_0 : Bool) (a1_1 : Int) (a1_2 : Int) (a2_0 : Bool) (a2_1 : Int) (a2_2 : Int) : Option (Bool) := (sensor_Vote.f a0_0 a0_1 a0_2 a1_0 a1_1 a1_2 a2_0 a2_1 a2_2).bind fun bt310 => ((ref_Vote.f a0_0 a0_1 a0_2 a1_0 a1_1 a1_2 a2_0 a2_1 a2_2).bind fun bt315 => ((sensor_Odd.f a0_0 a0_1 a0_2 a1_0 a1_1 a1_2 a2_0 a2_1 a2_2).bind fun bt320 => ((ref_Odd.f a0_0 a0_1 a0_2 a1_0 a1_1 a1_2 a2_0 a2_1 a2_2).bind fun bt322 => (if (bt310.1 == bt315.1 && (bt310.2.1 == bt315.2.1 && (bt310.2.2.1 == bt315.2.2.1))) = true then (if bt310.2.2.2 = bt315.2.2.2 then (if bt320.1 = bt322.1 then (if bt320.2 = bt322.2 then ((q_awake.f k).bind fun t324 => (if t324 = true then (some true) else (none))) else (none)) else (none)) else (none)) else (none)))))
theorem q_SensorVotes.mono : ∀ a0 a1 a2 a3 a4 a5 a6 a7 a8 k, LeO (q_SensorVotes.f k a0 a1 a2 a3 a4 a5 a6 a7 a8) (q_SensorVotes.f (k + 1) a0 a1 a2 a3 a4 a5 a6 a7 a8) := by
  intro a0 a1 a2 a3 a4 a5 a6 a7 a8 k
  unfold q_SensorVotes.f
  repeat' first
      | (with_reducible exact q_awake.mono _)
      | (with_reducible exact LeO.refl _)
      | (with_reducible exact LeO.none _)
      | (with_reducible refine LeO.ite ?_ ?_)
      | (with_reducible refine LeO.bind ?_ (fun _ => ?_))
      | exact q_awake.mono _
      | exact LeO.none _
      | refine LeO.ite ?_ ?_
      | refine LeO.bind ?_ (fun _ => ?_)
set_option maxHeartbeats 8000000 in
set_option maxRecDepth 100000 in
theorem q_SensorVotes.calls (k : Nat) (a0_0 : Bool) (a0_1 : Int) (a0_2 : Int) (a1_0 : Bool) (a1_1 : Int) (a1_2 : Int) (a2_0 : Bool) (a2_1 : Int) (a2_2 : Int) (r : Bool) (w : World) (h : q_SensorVotes.f k a0_0 a0_1 a0_2 a1_0 a1_1 a1_2 a2_0 a2_1 a2_2 = some r) :
    Calls Try.prog 4 #[.agg #[.bool a0_0, .int .i64 a0_1, .int .i64 a0_2], .agg #[.bool a1_0, .int .i64 a1_1, .int .i64 a1_2], .agg #[.bool a2_0, .int .i64 a2_1, .int .i64 a2_2]] w fun e w' => e = .returned (.bool r) ∧ Below w.heap.size w w' := by
  have hu23 := Try.underlying23
  have HB := Aside0.mk (Below.refl w.heap.size w)
  have H : ((sensor_Vote.f a0_0 a0_1 a0_2 a1_0 a1_1 a1_2 a2_0 a2_1 a2_2).bind fun bt310 => ((ref_Vote.f a0_0 a0_1 a0_2 a1_0 a1_1 a1_2 a2_0 a2_1 a2_2).bind fun bt315 => ((sensor_Odd.f a0_0 a0_1 a0_2 a1_0 a1_1 a1_2 a2_0 a2_1 a2_2).bind fun bt320 => ((ref_Odd.f a0_0 a0_1 a0_2 a1_0 a1_1 a1_2 a2_0 a2_1 a2_2).bind fun bt322 => (if (bt310.1 == bt315.1 && (bt310.2.1 == bt315.2.1 && (bt310.2.2.1 == bt315.2.2.1))) = true then (if bt310.2.2.2 = bt315.2.2.2 then (if bt320.1 = bt322.1 then (if bt320.2 = bt322.2 then ((q_awake.f k).bind fun t324 => (if t324 = true then (some true) else (none))) else (none)) else (none)) else (none)) else (none)))))) = some r := h
  clear h
  replace H := Option.bind_eq_some_iff.mp H
  obtain ⟨⟨t310, t311, t312, t313⟩, A40, H⟩ := H
  replace H : ((ref_Vote.f a0_0 a0_1 a0_2 a1_0 a1_1 a1_2 a2_0 a2_1 a2_2).bind fun bt315 => ((sensor_Odd.f a0_0 a0_1 a0_2 a1_0 a1_1 a1_2 a2_0 a2_1 a2_2).bind fun bt320 => ((ref_Odd.f a0_0 a0_1 a0_2 a1_0 a1_1 a1_2 a2_0 a2_1 a2_2).bind fun bt322 => (if (t310 == bt315.1 && (t311 == bt315.2.1 && (t312 == bt315.2.2.1))) = true then (if t313 = bt315.2.2.2 then (if bt320.1 = bt322.1 then (if bt320.2 = bt322.2 then ((q_awake.f k).bind fun t324 => (if t324 = true then (some true) else (none))) else (none)) else (none)) else (none)) else (none))))) = some r := H
  have A4 := Aside0.mk A40
  clear A40
  replace H := Option.bind_eq_some_iff.mp H
  obtain ⟨⟨t315, t316, t317, t318⟩, A50, H⟩ := H
  replace H : ((sensor_Odd.f a0_0 a0_1 a0_2 a1_0 a1_1 a1_2 a2_0 a2_1 a2_2).bind fun bt320 => ((ref_Odd.f a0_0 a0_1 a0_2 a1_0 a1_1 a1_2 a2_0 a2_1 a2_2).bind fun bt322 => (if (t310 == t315 && (t311 == t316 && (t312 == t317))) = true then (if t313 = t318 then (if bt320.1 = bt322.1 then (if bt320.2 = bt322.2 then ((q_awake.f k).bind fun t324 => (if t324 = true then (some true) else (none))) else (none)) else (none)) else (none)) else (none)))) = some r := H
  have A5 := Aside0.mk A50
  clear A50
  replace H := Option.bind_eq_some_iff.mp H
  obtain ⟨⟨t320, t321⟩, A60, H⟩ := H
  replace H : ((ref_Odd.f a0_0 a0_1 a0_2 a1_0 a1_1 a1_2 a2_0 a2_1 a2_2).bind fun bt322 => (if (t310 == t315 && (t311 == t316 && (t312 == t317))) = true then (if t313 = t318 then (if t320 = bt322.1 then (if t321 = bt322.2 then ((q_awake.f k).bind fun t324 => (if t324 = true then (some true) else (none))) else (none)) else (none)) else (none)) else (none))) = some r := H
  have A6 := Aside0.mk A60
  clear A60
  replace H := Option.bind_eq_some_iff.mp H
  obtain ⟨⟨t322, t323⟩, A70, H⟩ := H
  replace H : (if (t310 == t315 && (t311 == t316 && (t312 == t317))) = true then (if t313 = t318 then (if t320 = t322 then (if t321 = t323 then ((q_awake.f k).bind fun t324 => (if t324 = true then (some true) else (none))) else (none)) else (none)) else (none)) else (none)) = some r := H
  have A7 := Aside0.mk A70
  clear A70
  by_cases c8 : (t310 == t315 && (t311 == t316 && (t312 == t317))) = true
  · rw [if_pos c8] at H
    have c8b0 : (t310 == t315 && (t311 == t316 && (t312 == t317))) = true := c8
    (try (have c8b1 : decide (t310 = t315 && (t311 == t316 && (t312 == t317))) = true := by simpa using c8))
    (try (have c8b2 : (t310 == t315 && (t311 == t316 && (t312 == t317))) = true := by simpa using c8))
    clear c8
    by_cases c9 : t313 = t318
    · rw [if_pos c9] at H
      have c9b0 : (t313 == t318) = true := beq_iff_eq.mpr c9
      have c9b1 : (t313 != t318) = false := bne_eq_false_iff_eq.mpr c9
      clear c9
      by_cases c10 : t320 = t322
      · rw [if_pos c10] at H
        have c10b0 : (t320 == t322) = true := beq_iff_eq.mpr c10
        have c10b1 : (t320 != t322) = false := bne_eq_false_iff_eq.mpr c10
        clear c10
        by_cases c11 : t321 = t323
        · rw [if_pos c11] at H
          have c11b0 : (t321 == t323) = true := beq_iff_eq.mpr c11
          have c11b1 : (t321 != t323) = false := bne_eq_false_iff_eq.mpr c11
          clear c11
          replace H := Option.bind_eq_some_iff.mp H
          obtain ⟨t324, A120, H⟩ := H
          replace H : (if t324 = true then (some true) else (none)) = some r := H
          have A12 := Aside0.mk A120
          clear A120
          by_cases c13 : t324 = true
          · subst c13
            have H1 : (some true) = some r := by rw [if_pos rfl] at H; exact H
            clear H
            have H := H1
            clear H1
            obtain rfl := Option.some.inj H
            go_enter Try.func4, Try.ntmps4
            go_wp2_with (first | ((with_reducible refine gate_dst (N := 3) rfl ?_); refine bxe (cs := #[.bool a0_0, .int .i64 a0_1, .int .i64 a0_2]) (t := 23) ?_; intro gb307 hg w14 hbox hb; have BK307 := Aside0.mk (hbox); have GW307 := Aside0.mk (bge hg HB.out); have GE307 := Aside0.mk (bge hg HB.out); replace HB := Aside0.mk (bst HB.out hb); clear hb hbox hg) | ((with_reducible refine gate_dst (N := 4) rfl ?_); refine bxe (cs := #[.bool a1_0, .int .i64 a1_1, .int .i64 a1_2]) (t := 23) ?_; intro gb308 hg w15 hbox hb; have BK308 := Aside0.mk (hbox); have GW308 := Aside0.mk (bge hg HB.out); have GE308 := Aside0.mk (bge hg HB.out); have NB307_308 := Aside0.mk ((bkl hg BK307.out)); have NB308_307 := Aside0.mk ((bkg hg BK307.out)); replace BK307 := Aside0.mk (bkb BK307.out hb); replace HB := Aside0.mk (bst HB.out hb); clear hb hbox hg) | ((with_reducible refine gate_dst (N := 5) rfl ?_); refine bxe (cs := #[.bool a2_0, .int .i64 a2_1, .int .i64 a2_2]) (t := 23) ?_; intro gb309 hg w16 hbox hb; have BK309 := Aside0.mk (hbox); have GW309 := Aside0.mk (bge hg HB.out); have GE309 := Aside0.mk (bge hg HB.out); have NB307_309 := Aside0.mk ((bkl hg BK307.out)); have NB309_307 := Aside0.mk ((bkg hg BK307.out)); have NB308_309 := Aside0.mk ((bkl hg BK308.out)); have NB309_308 := Aside0.mk ((bkg hg BK308.out)); replace BK307 := Aside0.mk (bkb BK307.out hb); replace BK308 := Aside0.mk (bkb BK308.out hb); replace HB := Aside0.mk (bst HB.out hb); clear hb hbox hg; have hnb17 := NB307_308.out; have hnc17 := NB308_307.out; have hnb18 := NB307_309.out; have hnc18 := NB309_307.out; have hcz19_0 := cz3 BK307.out; have hfz19_0 := blk_frozen BK307.out; have hnb20 := NB308_309.out; have hnc20 := NB309_308.out; have hcz21_0 := cz3 BK308.out; have hfz21_0 := blk_frozen BK308.out; have hcz22_0 := cz3 BK309.out; have hfz22_0 := blk_frozen BK309.out) | ((with_reducible refine gate_callee (f := 17) rfl ?_); refine gsl (some 19) Try.func17 #[.agg #[.bool a0_0, .int .i64 a0_1, .int .i64 a0_2], .agg #[.bool a1_0, .int .i64 a1_1, .int .i64 a1_2], .agg #[.bool a2_0, .int .i64 a2_1, .int .i64 a2_2]] ?_; (with_reducible refine (sensor_Vote.calls a0_0 a0_1 a0_2 a1_0 a1_1 a1_2 a2_0 a2_1 a2_2 t310 t311 t312 t313 _ A4.out).mono ?_); rintro e w23 ⟨rfl, hb⟩; refine ⟨_, rfl, ?_⟩; replace BK307 := Aside0.mk (bkb BK307.out hb); replace BK308 := Aside0.mk (bkb BK308.out hb); replace BK309 := Aside0.mk (bkb BK309.out hb); replace HB := Aside0.mk (bst HB.out hb); (try clear hb); (try clear hb2); (try clear hk); (try clear hi)) | ((with_reducible refine gate_dst (N := 7) rfl ?_); refine bxe (cs := #[.bool false, .int .i64 0, .int .i64 0]) (t := 23) ?_; intro gb314 hg w24 hbox hb; have BK314 := Aside0.mk (hbox); have GW314 := Aside0.mk (bge hg HB.out); have GE314 := Aside0.mk (bge hg HB.out); have NB307_314 := Aside0.mk ((bkl hg BK307.out)); have NB314_307 := Aside0.mk ((bkg hg BK307.out)); have NB308_314 := Aside0.mk ((bkl hg BK308.out)); have NB314_308 := Aside0.mk ((bkg hg BK308.out)); have NB309_314 := Aside0.mk ((bkl hg BK309.out)); have NB314_309 := Aside0.mk ((bkg hg BK309.out)); replace BK307 := Aside0.mk (bkb BK307.out hb); replace BK308 := Aside0.mk (bkb BK308.out hb); replace BK309 := Aside0.mk (bkb BK309.out hb); replace HB := Aside0.mk (bst HB.out hb); clear hb hbox hg; have hnb25 := NB314_307.out; have hnc25 := NB307_314.out; have hnb26 := NB314_308.out; have hnc26 := NB308_314.out; have hnb27 := NB314_309.out; have hnc27 := NB309_314.out; have hcz28_0 := cz3 BK314.out; have hfz28_0 := blk_frozen BK314.out; have hcz29_0 := cz3 BK307.out; have hfz29_0 := blk_frozen BK307.out; have hcz30_0 := cz3 BK308.out; have hfz30_0 := blk_frozen BK308.out; have hcz31_0 := cz3 BK309.out; have hfz31_0 := blk_frozen BK309.out) | ((with_reducible refine gate_callee (f := 18) rfl ?_); refine gsl (some 26) Try.func18 #[.agg #[.bool a0_0, .int .i64 a0_1, .int .i64 a0_2], .agg #[.bool a1_0, .int .i64 a1_1, .int .i64 a1_2], .agg #[.bool a2_0, .int .i64 a2_1, .int .i64 a2_2]] ?_; (with_reducible refine (ref_Vote.calls a0_0 a0_1 a0_2 a1_0 a1_1 a1_2 a2_0 a2_1 a2_2 t315 t316 t317 t318 _ A5.out).mono ?_); rintro e w32 ⟨rfl, hb⟩; refine ⟨_, rfl, ?_⟩; replace BK307 := Aside0.mk (bkb BK307.out hb); replace BK308 := Aside0.mk (bkb BK308.out hb); replace BK309 := Aside0.mk (bkb BK309.out hb); replace BK314 := Aside0.mk (blk_below (g := gb314) (o := .cells #[.bool t310, .int .i64 t311, .int .i64 t312] 23 (0, 0)) (bkt BK314.out) hb); replace HB := Aside0.mk (bst HB.out hb); (try clear hb); (try clear hb2); (try clear hk); (try clear hi)) | ((with_reducible refine gate_dst (N := 9) rfl ?_); refine bxe (cs := #[.bool false, .int .i64 0, .int .i64 0]) (t := 23) ?_; intro gb319 hg w33 hbox hb; have BK319 := Aside0.mk (hbox); have GW319 := Aside0.mk (bge hg HB.out); have GE319 := Aside0.mk (bge hg HB.out); have NB307_319 := Aside0.mk ((bkl hg BK307.out)); have NB319_307 := Aside0.mk ((bkg hg BK307.out)); have NB308_319 := Aside0.mk ((bkl hg BK308.out)); have NB319_308 := Aside0.mk ((bkg hg BK308.out)); have NB309_319 := Aside0.mk ((bkl hg BK309.out)); have NB319_309 := Aside0.mk ((bkg hg BK309.out)); have NB314_319 := Aside0.mk ((bkl hg BK314.out)); have NB319_314 := Aside0.mk ((bkg hg BK314.out)); replace BK307 := Aside0.mk (bkb BK307.out hb); replace BK308 := Aside0.mk (bkb BK308.out hb); replace BK309 := Aside0.mk (bkb BK309.out hb); replace BK314 := Aside0.mk (bkb BK314.out hb); replace HB := Aside0.mk (bst HB.out hb); clear hb hbox hg; have hnb34 := NB319_307.out; have hnc34 := NB307_319.out; have hnb35 := NB319_308.out; have hnc35 := NB308_319.out; have hnb36 := NB319_309.out; have hnc36 := NB309_319.out; have hnb37 := NB319_314.out; have hnc37 := NB314_319.out; have hcz38_0 := cz3 BK319.out; have hfz38_0 := blk_frozen BK319.out; have hcz39_0 := cz3 BK307.out; have hfz39_0 := blk_frozen BK307.out; have hcz40_0 := cz3 BK308.out; have hfz40_0 := blk_frozen BK308.out; have hcz41_0 := cz3 BK309.out; have hfz41_0 := blk_frozen BK309.out) | ((with_reducible refine gate_callee (f := 19) rfl ?_); refine gsl (some 33) Try.func19 #[.agg #[.bool a0_0, .int .i64 a0_1, .int .i64 a0_2], .agg #[.bool a1_0, .int .i64 a1_1, .int .i64 a1_2], .agg #[.bool a2_0, .int .i64 a2_1, .int .i64 a2_2]] ?_; (with_reducible refine (sensor_Odd.calls a0_0 a0_1 a0_2 a1_0 a1_1 a1_2 a2_0 a2_1 a2_2 t320 t321 _ A6.out).mono ?_); rintro e w42 ⟨rfl, hb⟩; refine ⟨_, rfl, ?_⟩; replace BK307 := Aside0.mk (bkb BK307.out hb); replace BK308 := Aside0.mk (bkb BK308.out hb); replace BK309 := Aside0.mk (bkb BK309.out hb); replace BK314 := Aside0.mk (bkb BK314.out hb); replace BK319 := Aside0.mk (blk_below (g := gb319) (o := .cells #[.bool t315, .int .i64 t316, .int .i64 t317] 23 (0, 0)) (bkt BK319.out) hb); replace HB := Aside0.mk (bst HB.out hb); (try clear hb); (try clear hb2); (try clear hk); (try clear hi); have hcz43_0 := cz3 BK307.out; have hfz43_0 := blk_frozen BK307.out; have hcz44_0 := cz3 BK308.out; have hfz44_0 := blk_frozen BK308.out; have hcz45_0 := cz3 BK309.out; have hfz45_0 := blk_frozen BK309.out) | ((with_reducible refine gate_callee (f := 20) rfl ?_); refine gsl (some 40) Try.func20 #[.agg #[.bool a0_0, .int .i64 a0_1, .int .i64 a0_2], .agg #[.bool a1_0, .int .i64 a1_1, .int .i64 a1_2], .agg #[.bool a2_0, .int .i64 a2_1, .int .i64 a2_2]] ?_; (with_reducible refine (ref_Odd.calls a0_0 a0_1 a0_2 a1_0 a1_1 a1_2 a2_0 a2_1 a2_2 t322 t323 _ A7.out).mono ?_); rintro e w46 ⟨rfl, hb⟩; refine ⟨_, rfl, ?_⟩; replace BK307 := Aside0.mk (bkb BK307.out hb); replace BK308 := Aside0.mk (bkb BK308.out hb); replace BK309 := Aside0.mk (bkb BK309.out hb); replace BK314 := Aside0.mk (bkb BK314.out hb); replace BK319 := Aside0.mk (bkb BK319.out hb); replace HB := Aside0.mk (bst HB.out hb); (try clear hb); (try clear hb2); (try clear hk); (try clear hi); have hcz47_0 := cz3 BK314.out; have hfz47_0 := blk_frozen BK314.out; have hcz48_0 := cz3 BK319.out; have hfz48_0 := blk_frozen BK319.out) | (go_at_call 10; (with_reducible refine (q_awake.calls k  true _ A12.out).mono ?_); rintro e w49 ⟨rfl, hb⟩; (try clear A12); replace BK307 := Aside0.mk (bkb BK307.out hb); replace BK308 := Aside0.mk (bkb BK308.out hb); replace BK309 := Aside0.mk (bkb BK309.out hb); replace BK314 := Aside0.mk (bkb BK314.out hb); replace BK319 := Aside0.mk (bkb BK319.out hb); replace HB := Aside0.mk (bst HB.out hb); (try clear hb); (try clear hb2); (try clear hk); (try clear hi)))
            go_ret
            exact bfin (bel HB.out)
          · replace c13 := Bool.eq_false_iff.mpr c13
            subst c13
            have H1 : (none) = some r := by rw [if_neg (show ¬ (false = true) by decide)] at H; exact H
            clear H
            have H := H1
            clear H1
            exact absurd H (by simp)
        · rw [if_neg c11] at H
          exact absurd H (by simp)
      · rw [if_neg c10] at H
        exact absurd H (by simp)
    · rw [if_neg c9] at H
      exact absurd H (by simp)
  · rw [if_neg c8] at H
    exact absurd H (by simp)

/-- THE ONE PURE STATEMENT of q_SensorVotes: yours. -/
def q_SensorVotes.Pure : Prop := ∀ (a0_0 : Bool) (a0_1 : Int) (a0_2 : Int) (a1_0 : Bool) (a1_1 : Int) (a1_2 : Int) (a2_0 : Bool) (a2_1 : Int) (a2_2 : Int), (Lit.int .i64 a0_1).wf = true → (Lit.int .i64 a0_2).wf = true → (Lit.int .i64 a1_1).wf = true → (Lit.int .i64 a1_2).wf = true → (Lit.int .i64 a2_1).wf = true → (Lit.int .i64 a2_2).wf = true → ∃ k, q_SensorVotes.f k a0_0 a0_1 a0_2 a1_0 a1_1 a1_2 a2_0 a2_1 a2_2 = some true
theorem q_SensorVotes.walk (P : q_SensorVotes.Pure) (a0_0 : Bool) (a0_1 : Int) (a0_2 : Int) (a1_0 : Bool) (a1_1 : Int) (a1_2 : Int) (a2_0 : Bool) (a2_1 : Int) (a2_2 : Int) (w : World) (w0_1 : (Lit.int .i64 a0_1).wf = true) (w0_2 : (Lit.int .i64 a0_2).wf = true) (w1_1 : (Lit.int .i64 a1_1).wf = true) (w1_2 : (Lit.int .i64 a1_2).wf = true) (w2_1 : (Lit.int .i64 a2_1).wf = true) (w2_2 : (Lit.int .i64 a2_2).wf = true) :
    Calls Try.prog 4 #[.agg #[.bool a0_0, .int .i64 a0_1, .int .i64 a0_2], .agg #[.bool a1_0, .int .i64 a1_1, .int .i64 a1_2], .agg #[.bool a2_0, .int .i64 a2_1, .int .i64 a2_2]] w fun e w' => e = .returned (.bool true) ∧ Below w.heap.size w w' := by
  obtain ⟨k, h⟩ := P a0_0 a0_1 a0_2 a1_0 a1_1 a1_2 a2_0 a2_1 a2_2 w0_1 w0_2 w1_1 w1_2 w2_1 w2_2
  refine (q_SensorVotes.calls k a0_0 a0_1 a0_2 a1_0 a1_1 a1_2 a2_0 a2_1 a2_2 true w h).mono ?_
  rintro e w' ⟨rfl, hd⟩
  exact ⟨rfl, hd⟩

end Go.Proofs.Ytlkphdcfgaolnaa.P
