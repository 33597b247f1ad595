-- Printed by wip/myprint.py of this repo (over the kit's printer). Not trusted: Lean checks it.
import Derived.Test.YtlkphdcfgaolnaaP0
import Derived.Test.YtlkphdcfgaolnaaP0sensor
import Derived.Test.YtlkphdcfgaolnaaP0tipstaffkit
import Derived.Test.YtlkphdcfgaolnaaP0tipstaffref12a
import Derived.Test.YtlkphdcfgaolnaaP2tipstafflaw12
namespace Go.Proofs.Ytlkphdcfgaolnaa.P
open Go.RowKit Go.Proofs.YtlkphdcfgaolnaaW.PrintWords Go.Proofs.YtlkphdcfgaolnaaW.PrintLast Go.Proofs.YtlkphdcfgaolnaaW.PrintMore
attribute [local go_sem] cell_same1 cell_some1
attribute [local go_sem] max2_int min2_int max_two min_two max_three min_three max_four min_four   -- for this text's walks alone
set_option linter.unusedVariables false
set_option linter.unusedSimpArgs false

/-! ### q_SensorFaults: function 5 -/
def q_SensorFaults.f (k : Nat) (l0 : List (S68)) (a1 : Int) : Option (Bool) := if (l0.length : Int) > 200 then ((q_awake.f k).bind fun t340 => (if t340 = true then (some true) else (none))) else ((some (([] : List (S68)) : List (S68))).bind fun y341 => (if y341.length + l0.length < 2199023255552 then ((some (y341 ++ l0 : List (S68))).bind fun y344 => ((sensor_Faults.f k y344 a1).bind fun bt347 => ((ref_Faults.f k l0 a1).bind fun bt351 => ((sensor_Works.f k y344 a1).bind fun bt355 => ((ref_Works.f k l0 a1).bind fun bt357 => ((kit_SameInts.f k bt347.1 bt351.1).bind fun t359 => (if t359 = true then (if bt347.2 = bt351.2 then (if (bt355.1 == bt357.1) = true then (if bt355.2 = bt357.2 then ((kit_SameEntries.f k y344 l0).bind fun t360 => (if t360 = true then ((q_awake.f k).bind fun t361 => (if t361 = true then (some true) else (none))) else (none))) else (none)) else (none)) else (none)) else (none)))))))) else (none)))
theorem q_SensorFaults.mono : ∀ a0 a1 k, LeO (q_SensorFaults.f k a0 a1) (q_SensorFaults.f (k + 1) a0 a1) := by
  intro a0 a1 k
  unfold q_SensorFaults.f
  repeat' first
      | (with_reducible exact sensor_Faults.mono _ _ _)
      | (with_reducible exact sensor_Works.mono _ _ _)
      | (with_reducible exact kit_SameEntries.mono _ _ _)
      | (with_reducible exact kit_SameInts.mono _ _ _)
      | (with_reducible exact q_awake.mono _)
      | (with_reducible exact ref_Faults.mono _ _ _)
      | (with_reducible exact ref_Works.mono _ _ _)
      | (with_reducible exact LeO.refl _)
      | (with_reducible exact LeO.none _)
      | (with_reducible refine LeO.ite ?_ ?_)
      | (with_reducible refine LeO.bind ?_ (fun _ => ?_))
      | exact sensor_Faults.mono _ _ _
      | exact sensor_Works.mono _ _ _
      | exact kit_SameEntries.mono _ _ _
      | exact kit_SameInts.mono _ _ _
      | exact q_awake.mono _
      | exact ref_Faults.mono _ _ _
      | exact ref_Works.mono _ _ _
      | exact LeO.none _
      | refine LeO.ite ?_ ?_
      | refine LeO.bind ?_ (fun _ => ?_)
set_option maxHeartbeats 8000000 in
set_option maxRecDepth 100000 in
theorem q_SensorFaults.calls (k : Nat) (A0 : Option Addr) (c0 : Nat) (l0 : List (S68)) (a1 : Int) (r : Bool) (w : World) (hr0 : Kd.C k68 w A0 l0.length l0) (hc0 : l0.length ≤ c0) (h : q_SensorFaults.f k l0 a1 = some r) :
    Calls Try.prog 5 #[.slice A0 l0.length c0, .int .i64 a1] w fun e w' => e = .returned (.bool r) ∧ Below w.heap.size w w' := by
  have HR0 := Aside0.mk hr0
  have HC0 := Aside0.mk hc0
  clear hr0 hc0
  have HB := Aside0.mk (Below.refl w.heap.size w)
  have H : (if (l0.length : Int) > 200 then ((q_awake.f k).bind fun t340 => (if t340 = true then (some true) else (none))) else ((some (([] : List (S68)) : List (S68))).bind fun y341 => (if y341.length + l0.length < 2199023255552 then ((some (y341 ++ l0 : List (S68))).bind fun y344 => ((sensor_Faults.f k y344 a1).bind fun bt347 => ((ref_Faults.f k l0 a1).bind fun bt351 => ((sensor_Works.f k y344 a1).bind fun bt355 => ((ref_Works.f k l0 a1).bind fun bt357 => ((kit_SameInts.f k bt347.1 bt351.1).bind fun t359 => (if t359 = true then (if bt347.2 = bt351.2 then (if (bt355.1 == bt357.1) = true then (if bt355.2 = bt357.2 then ((kit_SameEntries.f k y344 l0).bind fun t360 => (if t360 = true then ((q_awake.f k).bind fun t361 => (if t361 = true then (some true) else (none))) else (none))) else (none)) else (none)) else (none)) else (none)))))))) else (none)))) = some r := h
  clear h
  by_cases c3 : (l0.length : Int) > 200
  · rw [if_pos c3] at H
    have c3b0 : decide (200 < (l0.length : Int)) = true := decide_eq_true c3
    have c3b1 : decide (200 < l0.length) = true := decide_eq_true (by omega)
    clear c3
    replace H := Option.bind_eq_some_iff.mp H
    obtain ⟨t340, A40, H⟩ := H
    replace H : (if t340 = true then (some true) else (none)) = some r := H
    have A4 := Aside0.mk A40
    clear A40
    by_cases c5 : t340 = true
    · subst c5
      have H1 : (some true) = some r := by rw [if_pos rfl] at H; exact H
      clear H
      have H := H1
      clear H1
      obtain rfl := Option.some.inj H
      go_enter Try.func5, Try.ntmps5
      go_wp2_with (first | ((with_reducible refine gate_callee (f := 10) rfl ?_); refine gsl (some 17) Try.func10 #[] ?_; (with_reducible refine (q_awake.calls k  true _ A4.out).mono ?_); rintro e w6 ⟨rfl, hb⟩; refine ⟨_, rfl, ?_⟩; replace HB := Aside0.mk (bst HB.out hb); (try clear hb); (try clear hb2); (try clear hk); (try clear hi)))
      go_ret
      exact bfin (bel HB.out)
    · replace c5 := Bool.eq_false_iff.mpr c5
      subst c5
      have H1 : (none) = some r := by rw [if_neg (show ¬ (false = true) by decide)] at H; exact H
      clear H
      have H := H1
      clear H1
      exact absurd H (by simp)
  · rw [if_neg c3] at H
    have c3b0 : decide (200 < (l0.length : Int)) = false := decide_eq_false c3
    have c3b1 : decide (200 < l0.length) = false := decide_eq_false (by omega)
    clear c3
    obtain ⟨y341, hy341⟩ : ∃ y_ : List (S68), y_ = (([] : List (S68))) := ⟨_, rfl⟩
    replace H : (if y341.length + l0.length < 2199023255552 then ((some (y341 ++ l0 : List (S68))).bind fun y344 => ((sensor_Faults.f k y344 a1).bind fun bt347 => ((ref_Faults.f k l0 a1).bind fun bt351 => ((sensor_Works.f k y344 a1).bind fun bt355 => ((ref_Works.f k l0 a1).bind fun bt357 => ((kit_SameInts.f k bt347.1 bt351.1).bind fun t359 => (if t359 = true then (if bt347.2 = bt351.2 then (if (bt355.1 == bt357.1) = true then (if bt355.2 = bt357.2 then ((kit_SameEntries.f k y344 l0).bind fun t360 => (if t360 = true then ((q_awake.f k).bind fun t361 => (if t361 = true then (some true) else (none))) else (none))) else (none)) else (none)) else (none)) else (none)))))))) else (none)) = some r := by first | (rw [hy341]; with_reducible exact H) | (have H2_ := (Option.bind_some _ _).symm.trans H; rw [hy341]; with_reducible exact H2_) | (have H2_ := (Option.bind_some _ _).symm.trans H; with_reducible exact H2_) | with_reducible exact H | (rw [hy341]; exact H) | exact H
    have Ny341 := Aside0.mk hy341
    clear hy341
    by_cases c7 : y341.length + l0.length < 2199023255552
    · rw [if_pos c7] at H
      have LMc7 := Aside0.mk c7
      clear c7
      obtain ⟨y344, hy344⟩ : ∃ y_ : List (S68), y_ = (y341 ++ l0) := ⟨_, rfl⟩
      replace H : ((sensor_Faults.f k y344 a1).bind fun bt347 => ((ref_Faults.f k l0 a1).bind fun bt351 => ((sensor_Works.f k y344 a1).bind fun bt355 => ((ref_Works.f k l0 a1).bind fun bt357 => ((kit_SameInts.f k bt347.1 bt351.1).bind fun t359 => (if t359 = true then (if bt347.2 = bt351.2 then (if (bt355.1 == bt357.1) = true then (if bt355.2 = bt357.2 then ((kit_SameEntries.f k y344 l0).bind fun t360 => (if t360 = true then ((q_awake.f k).bind fun t361 => (if t361 = true then (some true) else (none))) else (none))) else (none)) else (none)) else (none)) else (none))))))) = some r := by first | (rw [hy344]; with_reducible exact H) | (have H2_ := (Option.bind_some _ _).symm.trans H; rw [hy344]; with_reducible exact H2_) | (have H2_ := (Option.bind_some _ _).symm.trans H; with_reducible exact H2_) | with_reducible exact H | (rw [hy344]; exact H) | exact H
      have Ny344 := Aside0.mk hy344
      clear hy344
      replace H := Option.bind_eq_some_iff.mp H
      obtain ⟨⟨t347, t348⟩, A80, H⟩ := H
      replace H : ((ref_Faults.f k l0 a1).bind fun bt351 => ((sensor_Works.f k y344 a1).bind fun bt355 => ((ref_Works.f k l0 a1).bind fun bt357 => ((kit_SameInts.f k t347 bt351.1).bind fun t359 => (if t359 = true then (if t348 = bt351.2 then (if (bt355.1 == bt357.1) = true then (if bt355.2 = bt357.2 then ((kit_SameEntries.f k y344 l0).bind fun t360 => (if t360 = true then ((q_awake.f k).bind fun t361 => (if t361 = true then (some true) else (none))) else (none))) else (none)) else (none)) else (none)) else (none)))))) = some r := H
      have A8 := Aside0.mk A80
      clear A80
      replace H := Option.bind_eq_some_iff.mp H
      obtain ⟨⟨t351, t352⟩, A90, H⟩ := H
      replace H : ((sensor_Works.f k y344 a1).bind fun bt355 => ((ref_Works.f k l0 a1).bind fun bt357 => ((kit_SameInts.f k t347 t351).bind fun t359 => (if t359 = true then (if t348 = t352 then (if (bt355.1 == bt357.1) = true then (if bt355.2 = bt357.2 then ((kit_SameEntries.f k y344 l0).bind fun t360 => (if t360 = true then ((q_awake.f k).bind fun t361 => (if t361 = true then (some true) else (none))) else (none))) else (none)) else (none)) else (none)) else (none))))) = some r := H
      have A9 := Aside0.mk A90
      clear A90
      replace H := Option.bind_eq_some_iff.mp H
      obtain ⟨⟨t355, t356⟩, A100, H⟩ := H
      replace H : ((ref_Works.f k l0 a1).bind fun bt357 => ((kit_SameInts.f k t347 t351).bind fun t359 => (if t359 = true then (if t348 = t352 then (if (t355 == bt357.1) = true then (if t356 = bt357.2 then ((kit_SameEntries.f k y344 l0).bind fun t360 => (if t360 = true then ((q_awake.f k).bind fun t361 => (if t361 = true then (some true) else (none))) else (none))) else (none)) else (none)) else (none)) else (none)))) = some r := H
      have A10 := Aside0.mk A100
      clear A100
      replace H := Option.bind_eq_some_iff.mp H
      obtain ⟨⟨t357, t358⟩, A110, H⟩ := H
      replace H : ((kit_SameInts.f k t347 t351).bind fun t359 => (if t359 = true then (if t348 = t352 then (if (t355 == t357) = true then (if t356 = t358 then ((kit_SameEntries.f k y344 l0).bind fun t360 => (if t360 = true then ((q_awake.f k).bind fun t361 => (if t361 = true then (some true) else (none))) else (none))) else (none)) else (none)) else (none)) else (none))) = some r := H
      have A11 := Aside0.mk A110
      clear A110
      replace H := Option.bind_eq_some_iff.mp H
      obtain ⟨t359, A120, H⟩ := H
      replace H : (if t359 = true then (if t348 = t352 then (if (t355 == t357) = true then (if t356 = t358 then ((kit_SameEntries.f k y344 l0).bind fun t360 => (if t360 = true then ((q_awake.f k).bind fun t361 => (if t361 = true then (some true) else (none))) else (none))) else (none)) else (none)) else (none)) else (none)) = some r := H
      have A12 := Aside0.mk A120
      clear A120
      by_cases c13 : t359 = true
      · subst c13
        have H1 : (if t348 = t352 then (if (t355 == t357) = true then (if t356 = t358 then ((kit_SameEntries.f k y344 l0).bind fun t360 => (if t360 = true then ((q_awake.f k).bind fun t361 => (if t361 = true then (some true) else (none))) else (none))) else (none)) else (none)) else (none)) = some r := by rw [if_pos rfl] at H; exact H
        clear H
        have H := H1
        clear H1
        by_cases c14 : t348 = t352
        · rw [if_pos c14] at H
          have c14b0 : (t348 == t352) = true := beq_iff_eq.mpr c14
          have c14b1 : (t348 != t352) = false := bne_eq_false_iff_eq.mpr c14
          clear c14
          by_cases c15 : (t355 == t357) = true
          · rw [if_pos c15] at H
            have c15b0 : (t355 == t357) = true := c15
            (try (have c15b1 : decide (t355 = t357) = true := by simpa using c15))
            (try (have c15b2 : (t355 == t357) = true := by simpa using c15))
            clear c15
            by_cases c16 : t356 = t358
            · rw [if_pos c16] at H
              have c16b0 : (t356 == t358) = true := beq_iff_eq.mpr c16
              have c16b1 : (t356 != t358) = false := bne_eq_false_iff_eq.mpr c16
              clear c16
              replace H := Option.bind_eq_some_iff.mp H
              obtain ⟨t360, A170, H⟩ := H
              replace H : (if t360 = true then ((q_awake.f k).bind fun t361 => (if t361 = true then (some true) else (none))) else (none)) = some r := H
              have A17 := Aside0.mk A170
              clear A170
              by_cases c18 : t360 = true
              · subst c18
                have H1 : ((q_awake.f k).bind fun t361 => (if t361 = true then (some true) else (none))) = some r := by rw [if_pos rfl] at H; exact H
                clear H
                have H := H1
                clear H1
                replace H := Option.bind_eq_some_iff.mp H
                obtain ⟨t361, A190, H⟩ := H
                replace H : (if t361 = true then (some true) else (none)) = some r := H
                have A19 := Aside0.mk A190
                clear A190
                by_cases c20 : t361 = true
                · subst c20
                  have H1 : (some true) = some r := by rw [if_pos rfl] at H; exact H
                  clear H
                  have H := H1
                  clear H1
                  obtain rfl := Option.some.inj H
                  go_enter Try.func5, Try.ntmps5
                  go_wp2_with (first | ((with_reducible refine gate_dst (N := 18) rfl ?_); refine Kd.R_lit k68 _ 68 ?hg (N := 18) ?hd (xs := ([] : List (S68))) (inner := []) (ok := fun _ => True) (okp := fun _ => True) ?hr ?hp (fun _ hk => hk) trivial (Below.refl _ _) (Nat.le_refl _) (by simp) ?_; (case hd => rfl); (case hg => rfl); (case hr => first | (go_simp; done) | (go_simp; rfl)); (case hp => exact (Reps.none _ _)); intro v342 w21 ho22 hb hg_ hnew_; clear hg_ hnew_; (first | rw [← Ny341.out] at ho22 | (simp only [Int.reduceToNat] at ho22; rw [← Ny341.out] at ho22)); have HO343 := Aside0.mk (Kd.R_lower ho22 (bsz HB.out)); replace HB := Aside0.mk (bst HB.out hb); clear hb ho22) | ((with_reducible refine gate_builtin (b := .append) (xs := #[.tmp 18, .tmp 19]) rfl ?_); at_builtin; refine Kd.R_append_rows k68 (w0 := w) w.heap.size rfl (.tmp 18) (.tmp 19) 37 68 (.agg #[(.int .i64 0), (.int .i64 0), (.int .i64 0), (.string ⟨#[]⟩), (.int .i64 0), (.int .i64 0), (.int .i64 0)]) 64 rfl Try.underlying37 info68 rfl (by decide) (by omega) v342 y341 l0 _ _ _ (fun _ => True) (fun _ => False) rfl rfl ?aO ?aR (fun _ _ h => h) (fun _ h => h.elim) ?aF ?aB ?aS ?aL ?_; (case aR => repeat (first | exact (Kd.C_below HR0.out HB.out) | (with_reducible refine Kd.C_alloc ?_ _) | (with_reducible refine Kd.C_drewN ?_ _) | (with_reducible refine Kd.C_drew ?_))); (case aB => exact (bel HB.out)); (case aF => exact (fun _ _ => trivial)); (case aO => exact (kdt HO343.out)); (case aS => exact (bsz HB.out)); (case aL => have := LMc7.out; omega); intro v345 w23 ho hb hg hat; rw [← Ny344.out] at ho; have n0_ := Aside0.mk (hb); have n1_ := Aside0.mk (ho); clear HB; clear HO343; have HB := n0_; have HO346 := n1_; clear n0_ n1_; clear ho hb hg hat; obtain ⟨Ao24, co24, eo24⟩ := Kd.R_slice HO346.out; subst eo24) | ((with_reducible refine gate_callee (f := 21) rfl ?_); refine gsl (some 24) Try.func21 #[.slice Ao24 y344.length co24, .int .i64 a1] ?_; (with_reducible refine (sensor_Faults.calls k _ _ y344 a1 t347 t348 _ ?side1 ?side2 A8.out).mono ?_); (case side1 => repeat (first | exact (Kd.R_reads' HO346.out).2.2 | (with_reducible refine Kd.C_alloc ?_ _) | (with_reducible refine Kd.C_drewN ?_ _) | (with_reducible refine Kd.C_drew ?_))); (case side2 => exact (Kd.R_reads' HO346.out).2.1); rintro e w25 ⟨v349, rfl, ho0, hb⟩; refine ⟨_, rfl, ?_⟩; have HO350 := Aside0.mk (Kd.R_lower ho0 (bsz HB.out)); replace HO346 := Aside0.mk (Kd.R_below (kdt HO346.out) hb); replace HB := Aside0.mk (bst HB.out hb); (try clear hb); (try clear hb2); (try clear hk); (try clear hi); (try clear ho0)) | ((with_reducible refine gate_callee (f := 22) rfl ?_); refine gsl (some 30) Try.func22 #[.slice A0 l0.length c0, .int .i64 a1] ?_; (with_reducible refine (ref_Faults.calls k _ _ l0 a1 t351 t352 _ ?side1 ?side2 A9.out).mono ?_); (case side1 => repeat (first | exact (Kd.C_below HR0.out HB.out) | (with_reducible refine Kd.C_alloc ?_ _) | (with_reducible refine Kd.C_drewN ?_ _) | (with_reducible refine Kd.C_drew ?_))); (case side2 => exact HC0.out); rintro e w26 ⟨v353, rfl, ho0, hb⟩; refine ⟨_, rfl, ?_⟩; have HO354 := Aside0.mk (Kd.R_lower (Kd.R_new' ho0 (Kd.R_lt (kdt HO350.out))) (bsz HB.out)); replace HO346 := Aside0.mk (Kd.R_below (kdt HO346.out) hb); replace HO350 := Aside0.mk (Kd.R_elder' (kdt HO350.out) (Kd.R_base ho0) hb); replace HB := Aside0.mk (bst HB.out hb); (try clear hb); (try clear hb2); (try clear hk); (try clear hi); (try clear ho0)) | ((with_reducible refine gate_callee (f := 23) rfl ?_); refine gsl (some 36) Try.func23 #[.slice Ao24 y344.length co24, .int .i64 a1] ?_; (with_reducible refine (sensor_Works.calls k _ _ y344 a1 t355 t356 _ ?side1 ?side2 A10.out).mono ?_); (case side1 => repeat (first | exact (Kd.R_reads' HO346.out).2.2 | (with_reducible refine Kd.C_alloc ?_ _) | (with_reducible refine Kd.C_drewN ?_ _) | (with_reducible refine Kd.C_drew ?_))); (case side2 => exact (Kd.R_reads' HO346.out).2.1); rintro e w27 ⟨rfl, hb⟩; refine ⟨_, rfl, ?_⟩; replace HO346 := Aside0.mk (Kd.R_below (kdt HO346.out) hb); replace HO350 := Aside0.mk (Kd.R_below (kdt HO350.out) hb); replace HO354 := Aside0.mk (Kd.R_below (kdt HO354.out) hb); replace HB := Aside0.mk (bst HB.out hb); (try clear hb); (try clear hb2); (try clear hk); (try clear hi)) | ((with_reducible refine gate_callee (f := 24) rfl ?_); refine gsl (some 42) Try.func24 #[.slice A0 l0.length c0, .int .i64 a1] ?_; (with_reducible refine (ref_Works.calls k _ _ l0 a1 t357 t358 _ ?side1 ?side2 A11.out).mono ?_); (case side1 => repeat (first | exact (Kd.C_below HR0.out HB.out) | (with_reducible refine Kd.C_alloc ?_ _) | (with_reducible refine Kd.C_drewN ?_ _) | (with_reducible refine Kd.C_drew ?_))); (case side2 => exact HC0.out); rintro e w28 ⟨rfl, hb⟩; refine ⟨_, rfl, ?_⟩; replace HO346 := Aside0.mk (Kd.R_below (kdt HO346.out) hb); replace HO350 := Aside0.mk (Kd.R_below (kdt HO350.out) hb); replace HO354 := Aside0.mk (Kd.R_below (kdt HO354.out) hb); replace HB := Aside0.mk (bst HB.out hb); (try clear hb); (try clear hb2); (try clear hk); (try clear hi); obtain ⟨Ao29, co29, eo29⟩ := Kd.R_slice HO350.out; subst eo29; obtain ⟨Ao30, co30, eo30⟩ := Kd.R_slice HO354.out; subst eo30) | ((with_reducible refine gate_callee (f := 16) rfl ?_); refine gsl (some 47) Try.func16 #[.slice Ao29 t347.length co29, .slice Ao30 t351.length co30] ?_; (with_reducible refine (kit_SameInts.calls k _ _ t347 _ _ t351 true _ ?side1 ?side2 ?side3 ?side4 A12.out).mono ?_); (case side1 => repeat (first | exact (Kd.R_reads' HO350.out).2.2 | (with_reducible refine Kd.C_alloc ?_ _) | (with_reducible refine Kd.C_drewN ?_ _) | (with_reducible refine Kd.C_drew ?_))); (case side2 => exact (Kd.R_reads' HO350.out).2.1); (case side3 => repeat (first | exact (Kd.R_reads' HO354.out).2.2 | (with_reducible refine Kd.C_alloc ?_ _) | (with_reducible refine Kd.C_drewN ?_ _) | (with_reducible refine Kd.C_drew ?_))); (case side4 => exact (Kd.R_reads' HO354.out).2.1); rintro e w' ⟨rfl, ⟨nd, rfl⟩⟩; refine ⟨_, rfl, ?_⟩) | (go_at_call 25; (with_reducible refine (kit_SameEntries.calls k _ _ y344 _ _ l0 true _ ?side1 ?side2 ?side3 ?side4 A17.out).mono ?_); (case side1 => repeat (first | exact (Kd.R_reads' HO346.out).2.2 | (with_reducible refine Kd.C_alloc ?_ _) | (with_reducible refine Kd.C_drewN ?_ _) | (with_reducible refine Kd.C_drew ?_))); (case side2 => exact (Kd.R_reads' HO346.out).2.1); (case side3 => repeat (first | exact (Kd.C_below HR0.out (bel HB.out)) | (with_reducible refine Kd.C_alloc ?_ _) | (with_reducible refine Kd.C_drewN ?_ _) | (with_reducible refine Kd.C_drew ?_))); (case side4 => exact HC0.out); rintro e w' ⟨rfl, ⟨nd, rfl⟩⟩) | (go_at_call 10; (with_reducible refine (q_awake.calls k  true _ A19.out).mono ?_); rintro e w31 ⟨rfl, hb⟩; (try clear A19); replace HO346 := Aside0.mk (Kd.R_below (kdt HO346.out) hb); replace HO350 := Aside0.mk (Kd.R_below (kdt HO350.out) hb); replace HO354 := Aside0.mk (Kd.R_below (kdt HO354.out) hb); replace HB := Aside0.mk (bst HB.out hb); (try clear hb); (try clear hb2); (try clear hk); (try clear hi)))
                  go_ret
                  exact bfin (bel HB.out)
                · replace c20 := Bool.eq_false_iff.mpr c20
                  subst c20
                  have H1 : (none) = some r := by rw [if_neg (show ¬ (false = true) by decide)] at H; exact H
                  clear H
                  have H := H1
                  clear H1
                  exact absurd H (by simp)
              · replace c18 := Bool.eq_false_iff.mpr c18
                subst c18
                have H1 : (none) = some r := by rw [if_neg (show ¬ (false = true) by decide)] at H; exact H
                clear H
                have H := H1
                clear H1
                exact absurd H (by simp)
            · rw [if_neg c16] at H
              exact absurd H (by simp)
          · rw [if_neg c15] at H
            exact absurd H (by simp)
        · rw [if_neg c14] at H
          exact absurd H (by simp)
      · replace c13 := Bool.eq_false_iff.mpr c13
        subst c13
        have H1 : (none) = some r := by rw [if_neg (show ¬ (false = true) by decide)] at H; exact H
        clear H
        have H := H1
        clear H1
        exact absurd H (by simp)
    · rw [if_neg c7] at H
      exact absurd H (by simp)

/-- THE ONE PURE STATEMENT of q_SensorFaults: yours. -/
def q_SensorFaults.Pure : Prop := ∀ (l0 : List (S68)) (a1 : Int), l0.length ≤ maxLen → l0.length * 64 ≤ 140737488351232 → (Lit.int .i64 a1).wf = true → ∃ k, q_SensorFaults.f k l0 a1 = some true
theorem q_SensorFaults.walk (P : q_SensorFaults.Pure) (A0 : Option Addr) (c0 : Nat) (l0 : List (S68)) (a1 : Int) (w : World) (hr0 : Kd.C k68 w A0 l0.length l0) (hc0 : l0.length ≤ c0) (hm0 : l0.length ≤ maxLen) (y0 : l0.length * 64 ≤ 140737488351232) (w1 : (Lit.int .i64 a1).wf = true) :
    Calls Try.prog 5 #[.slice A0 l0.length c0, .int .i64 a1] w fun e w' => e = .returned (.bool true) ∧ Below w.heap.size w w' := by
  obtain ⟨k, h⟩ := P l0 a1 hm0 y0 w1
  refine (q_SensorFaults.calls k _ _ l0 a1 true w hr0 hc0 h).mono ?_
  rintro e w' ⟨rfl, hd⟩
  exact ⟨rfl, hd⟩

end Go.Proofs.Ytlkphdcfgaolnaa.P
