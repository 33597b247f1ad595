-- Printed by wip/myprint.py of this repo (over the kit's printer). Not trusted: Lean checks it.
import Derived.Test.YtlkphdcfgaolnaaP0
import Derived.Test.YtlkphdcfgaolnaaE23
import Derived.Test.YtlkphdcfgaolnaaP0sensor
import Derived.Test.YtlkphdcfgaolnaaP0tipstaffkit
import Derived.Test.YtlkphdcfgaolnaaP0tipstaffref12
import Derived.Test.YtlkphdcfgaolnaaP2sensor
import Derived.Test.YtlkphdcfgaolnaaP2tipstafflaw12
namespace Go.Proofs.Ytlkphdcfgaolnaa.P
open Go.RowKit Go.Proofs.YtlkphdcfgaolnaaW.PrintWords Go.Proofs.YtlkphdcfgaolnaaW.PrintLast Go.Proofs.YtlkphdcfgaolnaaW.PrintMore
attribute [local go_sem] cell_same1 cell_some1
attribute [local go_sem] max2_int min2_int max_two min_two max_three min_three max_four min_four   -- for this text's walks alone
set_option linter.unusedVariables false
set_option linter.unusedSimpArgs false

attribute [local go_sem high] eqA23
/-! ### q_SensorReads: function 3 -/
def q_SensorReads.f (k : Nat) (a0_0 : Bool) (a0_1 : Int) (a0_2 : Int) (l1 : List Int) (a2 : Int) (a3 : Int) (a4 : Bool) : Option (Bool) := if (l1.length : Int) > 70 then ((q_awake.f k).bind fun t283 => (if t283 = true then (some true) else (none))) else ((kit_OwnInts.f l1).bind fun t284 => ((sensor_Read.f k t284 a2 a3 a4).bind fun bt287 => ((ref_Read.f k l1 a2 a3 a4).bind fun bt292 => (if (bt287.1 == bt292.1 && (bt287.2.1 == bt292.2.1 && (bt287.2.2.1 == bt292.2.2.1))) = true then (if bt287.2.2.2 = bt292.2.2.2 then ((sensor_Check.f k a0_0 a0_1 a0_2).bind fun t297 => ((ref_Check.f k a0_0 a0_1 a0_2).bind fun t298 => (if t297 = t298 then ((kit_SameInts.f k t284 l1).bind fun t299 => (if t299 = true then ((q_awake.f k).bind fun t300 => (if t300 = true then (some true) else (none))) else (none))) else (none)))) else (none)) else (none)))))
theorem q_SensorReads.mono : ∀ a0 a1 a2 a3 a4 a5 a6 k, LeO (q_SensorReads.f k a0 a1 a2 a3 a4 a5 a6) (q_SensorReads.f (k + 1) a0 a1 a2 a3 a4 a5 a6) := by
 intro a0 a1 a2 a3 a4 a5 a6 k
 unfold q_SensorReads.f
 repeat' first
   | (with_reducible exact sensor_Check.mono _ _ _ _)
   | (with_reducible exact sensor_Read.mono _ _ _ _ _)
   | (with_reducible exact kit_SameInts.mono _ _ _)
   | (with_reducible exact q_awake.mono _)
   | (with_reducible exact ref_Check.mono _ _ _ _)
   | (with_reducible exact ref_Read.mono _ _ _ _ _)
   | (with_reducible exact LeO.refl _)
   | (with_reducible exact LeO.none _)
   | (with_reducible refine LeO.ite ?_ ?_)
   | (with_reducible refine LeO.bind ?_ (fun _ => ?_))
   | exact sensor_Check.mono _ _ _ _
   | exact sensor_Read.mono _ _ _ _ _
   | exact kit_SameInts.mono _ _ _
   | exact q_awake.mono _
   | exact ref_Check.mono _ _ _ _
   | exact ref_Read.mono _ _ _ _ _
   | exact LeO.none _
   | refine LeO.ite ?_ ?_
   | refine LeO.bind ?_ (fun _ => ?_)
def q_SensorReads.T6 : Bool × List (List Nat × List Nat) := (true, [([], []), ([], []), ([0, 1], [0, 1]), ([2], [2]), ([3], [3]), ([3], [3]), ([4, 5, 3], [3, 4, 5]), ([3, 6], [3, 6]), ([7, 3], [7]), ([8], [8]), ([9, 8, 8], [8, 9]), ([8], [8]), ([11, 10, 8], [8, 11]), ([10, 12, 8], [8, 10, 12]), ([8, 13], [8, 13]), ([14, 12], [14]), ([15], [15]), ([15], [15]), ([16, 17, 15, 15], [15, 16, 17]), ([15, 18], [15, 18]), ([19, 18], [19]), ([20, 20], [20]), ([20, 21], [20, 21]), ([22, 21, 0, 1, 2, 3, 4, 5, 6, 7, 8, 9, 10, 11, 12, 13, 14, 15, 16, 17, 18, 19, 20, 21, 22], [22])])
def q_SensorReads.B6 : List Nat := [0, 0, 3, 7, 15, 15, 63, 127, 255, 511, 1023, 511, 4095, 8191, 16383, 32767, 65535, 65535, 262143, 524287, 1048575, 2097151, 4194303, 8388607]
theorem q_SensorReads.tab6 : rtab .any (opsOf Try.f3 6) = q_SensorReads.T6 := by kernel_rfl
theorem q_SensorReads.bits6 : waitsOk q_SensorReads.T6.2 q_SensorReads.B6 = true := by kernel_rfl
set_option maxHeartbeats 8000000 in
set_option maxRecDepth 100000 in
theorem q_SensorReads.calls (k : Nat) (a0_0 : Bool) (a0_1 : Int) (a0_2 : Int) (A1 : Option Addr) (c1 : Nat) (l1 : List Int) (a2 : Int) (a3 : Int) (a4 : Bool) (r : Bool) (w : World) (hr1 : Kd.C (Kd.int .i64) w A1 l1.length l1) (hc1 : l1.length ≤ c1) (h : q_SensorReads.f k a0_0 a0_1 a0_2 l1 a2 a3 a4 = some r) :
  Calls Try.prog 3 #[.agg #[.bool a0_0, .int .i64 a0_1, .int .i64 a0_2], .slice A1 l1.length c1, .int .i64 a2, .int .i64 a3, .bool a4] w fun e w' => e = .returned (.bool r) ∧ Below w.heap.size w w' := by
 have hu23 := Try.underlying23
 have HR1 := Aside0.mk hr1
 have HC1 := Aside0.mk hc1
 clear hr1 hc1
 have HB := Aside0.mk (Below.refl w.heap.size w)
 have H : (if (l1.length : Int) > 70 then ((q_awake.f k).bind fun t283 => (if t283 = true then (some true) else (none))) else ((kit_OwnInts.f l1).bind fun t284 => ((sensor_Read.f k t284 a2 a3 a4).bind fun bt287 => ((ref_Read.f k l1 a2 a3 a4).bind fun bt292 => (if (bt287.1 == bt292.1 && (bt287.2.1 == bt292.2.1 && (bt287.2.2.1 == bt292.2.2.1))) = true then (if bt287.2.2.2 = bt292.2.2.2 then ((sensor_Check.f k a0_0 a0_1 a0_2).bind fun t297 => ((ref_Check.f k a0_0 a0_1 a0_2).bind fun t298 => (if t297 = t298 then ((kit_SameInts.f k t284 l1).bind fun t299 => (if t299 = true then ((q_awake.f k).bind fun t300 => (if t300 = true then (some true) else (none))) else (none))) else (none)))) else (none)) else (none)))))) = some r := h
 clear h
 by_cases c6 : (l1.length : Int) > 70
 ·rw [if_pos c6] at H
  have c6b0 : decide (70 < (l1.length : Int)) = true := decide_eq_true c6
  have c6b1 : decide (70 < l1.length) = true := decide_eq_true (by omega)
  clear c6
  replace H := Option.bind_eq_some_iff.mp H
  obtain ⟨t283, A70, H⟩ := H
  replace H : (if t283 = true then (some true) else (none)) = some r := H
  have A7 := Aside0.mk A70
  clear A70
  by_cases c8 : t283 = true
  ·subst c8
   have H1 : (some true) = some r := by rw [if_pos rfl] at H; exact H
   clear H
   have H := H1
   clear H1
   obtain rfl := Option.some.inj H
   go_enter Try.func3, Try.ntmps3
   go_wp2_with (first | ((with_reducible refine gate_dst (N := 5) rfl ?_); refine bxe (cs := #[.bool a0_0, .int .i64 a0_1, .int .i64 a0_2]) (t := 23) ?_; intro gb282 hg w9 hbox hb; have BK282 := Aside0.mk (hbox); have GW282 := Aside0.mk (bge hg HB.out); have GE282 := Aside0.mk (bge hg HB.out); replace HB := Aside0.mk (bst HB.out hb); clear hb hbox hg) | ((with_reducible refine gate_callee (f := 10) rfl ?_); refine gsl (some 19) Try.func10 #[] ?_; (with_reducible refine (q_awake.calls k  true _ A7.out).mono ?_); rintro e w10 ⟨rfl, hb⟩; refine ⟨_, rfl, ?_⟩; replace BK282 := Aside0.mk (bkb BK282.out hb); replace HB := Aside0.mk (bst HB.out hb); (try clear hb); (try clear hb2); (try clear hk); (try clear hi)))
   go_ret
   exact bfin (bel HB.out)
  ·replace c8 := Bool.eq_false_iff.mpr c8
   subst c8
   have H1 : (none) = some r := by rw [if_neg (show ¬ (false = true) by decide)] at H; exact H
   clear H
   have H := H1
   clear H1
   exact absurd H (by simp)
 ·rw [if_neg c6] at H
  have c6b0 : decide (70 < (l1.length : Int)) = false := decide_eq_false c6
  have c6b1 : decide (70 < l1.length) = false := decide_eq_false (by omega)
  clear c6
  replace H := Option.bind_eq_some_iff.mp H
  obtain ⟨t284, A110, H⟩ := H
  replace H : ((sensor_Read.f k t284 a2 a3 a4).bind fun bt287 => ((ref_Read.f k l1 a2 a3 a4).bind fun bt292 => (if (bt287.1 == bt292.1 && (bt287.2.1 == bt292.2.1 && (bt287.2.2.1 == bt292.2.2.1))) = true then (if bt287.2.2.2 = bt292.2.2.2 then ((sensor_Check.f k a0_0 a0_1 a0_2).bind fun t297 => ((ref_Check.f k a0_0 a0_1 a0_2).bind fun t298 => (if t297 = t298 then ((kit_SameInts.f k t284 l1).bind fun t299 => (if t299 = true then ((q_awake.f k).bind fun t300 => (if t300 = true then (some true) else (none))) else (none))) else (none)))) else (none)) else (none)))) = some r := H
  have A11 := Aside0.mk A110
  clear A110
  replace H := Option.bind_eq_some_iff.mp H
  obtain ⟨⟨t287, t288, t289, t290⟩, A120, H⟩ := H
  replace H : ((ref_Read.f k l1 a2 a3 a4).bind fun bt292 => (if (t287 == bt292.1 && (t288 == bt292.2.1 && (t289 == bt292.2.2.1))) = true then (if t290 = bt292.2.2.2 then ((sensor_Check.f k a0_0 a0_1 a0_2).bind fun t297 => ((ref_Check.f k a0_0 a0_1 a0_2).bind fun t298 => (if t297 = t298 then ((kit_SameInts.f k t284 l1).bind fun t299 => (if t299 = true then ((q_awake.f k).bind fun t300 => (if t300 = true then (some true) else (none))) else (none))) else (none)))) else (none)) else (none))) = some r := H
  have A12 := Aside0.mk A120
  clear A120
  replace H := Option.bind_eq_some_iff.mp H
  obtain ⟨⟨t292, t293, t294, t295⟩, A130, H⟩ := H
  replace H : (if (t287 == t292 && (t288 == t293 && (t289 == t294))) = true then (if t290 = t295 then ((sensor_Check.f k a0_0 a0_1 a0_2).bind fun t297 => ((ref_Check.f k a0_0 a0_1 a0_2).bind fun t298 => (if t297 = t298 then ((kit_SameInts.f k t284 l1).bind fun t299 => (if t299 = true then ((q_awake.f k).bind fun t300 => (if t300 = true then (some true) else (none))) else (none))) else (none)))) else (none)) else (none)) = some r := H
  have A13 := Aside0.mk A130
  clear A130
  by_cases c14 : (t287 == t292 && (t288 == t293 && (t289 == t294))) = true
  ·rw [if_pos c14] at H
   have c14b0 : (t287 == t292 && (t288 == t293 && (t289 == t294))) = true := c14
   (try (have c14b1 : decide (t287 = t292 && (t288 == t293 && (t289 == t294))) = true := by simpa using c14))
   (try (have c14b2 : (t287 == t292 && (t288 == t293 && (t289 == t294))) = true := by simpa using c14))
   clear c14
   by_cases c15 : t290 = t295
   ·rw [if_pos c15] at H
    have c15b0 : (t290 == t295) = true := beq_iff_eq.mpr c15
    have c15b1 : (t290 != t295) = false := bne_eq_false_iff_eq.mpr c15
    clear c15
    replace H := Option.bind_eq_some_iff.mp H
    obtain ⟨t297, A160, H⟩ := H
    replace H : ((ref_Check.f k a0_0 a0_1 a0_2).bind fun t298 => (if t297 = t298 then ((kit_SameInts.f k t284 l1).bind fun t299 => (if t299 = true then ((q_awake.f k).bind fun t300 => (if t300 = true then (some true) else (none))) else (none))) else (none))) = some r := H
    have A16 := Aside0.mk A160
    clear A160
    replace H := Option.bind_eq_some_iff.mp H
    obtain ⟨t298, A170, H⟩ := H
    replace H : (if t297 = t298 then ((kit_SameInts.f k t284 l1).bind fun t299 => (if t299 = true then ((q_awake.f k).bind fun t300 => (if t300 = true then (some true) else (none))) else (none))) else (none)) = some r := H
    have A17 := Aside0.mk A170
    clear A170
    by_cases c18 : t297 = t298
    ·rw [if_pos c18] at H
     have c18b0 : (t297 == t298) = true := beq_iff_eq.mpr c18
     have c18b1 : (t297 != t298) = false := bne_eq_false_iff_eq.mpr c18
     clear c18
     replace H := Option.bind_eq_some_iff.mp H
     obtain ⟨t299, A190, H⟩ := H
     replace H : (if t299 = true then ((q_awake.f k).bind fun t300 => (if t300 = true then (some true) else (none))) else (none)) = some r := H
     have A19 := Aside0.mk A190
     clear A190
     by_cases c20 : t299 = true
     ·subst c20
      have H1 : ((q_awake.f k).bind fun t300 => (if t300 = true then (some true) else (none))) = some r := by rw [if_pos rfl] at H; exact H
      clear H
      have H := H1
      clear H1
      replace H := Option.bind_eq_some_iff.mp H
      obtain ⟨t300, A210, H⟩ := H
      replace H : (if t300 = true then (some true) else (none)) = some r := H
      have A21 := Aside0.mk A210
      clear A210
      by_cases c22 : t300 = true
      ·subst c22
       have H1 : (some true) = some r := by rw [if_pos rfl] at H; exact H
       clear H
       have H := H1
       clear H1
       obtain rfl := Option.some.inj H
       go_enter Try.func3, Try.ntmps3
       try go_wp2_with (first | ((with_reducible refine gate_dst (N := 5) rfl ?_); refine bxe (cs := #[.bool a0_0, .int .i64 a0_1, .int .i64 a0_2]) (t := 23) ?_; intro gb282 hg w23 hbox hb; have BK282 := Aside0.mk (hbox); have GW282 := Aside0.mk (bge hg HB.out); have GE282 := Aside0.mk (bge hg HB.out); replace HB := Aside0.mk (bst HB.out hb); clear hb hbox hg) | ((with_reducible refine gate_callee (f := 11) rfl ?_); refine gsl (some 21) Try.func11 #[.slice A1 l1.length c1] ?_; (with_reducible refine (kit_OwnInts.calls _ _ l1 t284 _ ?side1 ?side2 A11.out).mono ?_); (case side1 => repeat (first | exact (Kd.C_below HR1.out HB.out) | (with_reducible refine Kd.C_alloc ?_ _) | (with_reducible refine Kd.C_drewN ?_ _) | (with_reducible refine Kd.C_drew ?_))); (case side2 => exact HC1.out); rintro e w24 ⟨v285, rfl, ho0, hb⟩; refine ⟨_, rfl, ?_⟩; have HO286 := Aside0.mk (Kd.R_lower ho0 (bsz HB.out)); replace BK282 := Aside0.mk (bkb BK282.out hb); replace HB := Aside0.mk (bst HB.out hb); (try clear hb); (try clear hb2); (try clear hk); (try clear hi); (try clear ho0); obtain ⟨Ao25, co25, eo25⟩ := Kd.R_slice HO286.out; subst eo25) | ((with_reducible refine gate_callee (f := 12) rfl ?_); refine gsl (some 27) Try.func12 #[.slice Ao25 t284.length co25, .int .i64 a2, .int .i64 a3, .bool a4] ?_; (with_reducible refine (sensor_Read.calls k _ _ t284 a2 a3 a4 t287 t288 t289 t290 _ ?side1 ?side2 A12.out).mono ?_); (case side1 => repeat (first | exact (Kd.R_reads' HO286.out).2.2 | (with_reducible refine Kd.C_alloc ?_ _) | (with_reducible refine Kd.C_drewN ?_ _) | (with_reducible refine Kd.C_drew ?_))); (case side2 => exact (Kd.R_reads' HO286.out).2.1); rintro e w26 ⟨rfl, hb⟩; refine ⟨_, rfl, ?_⟩; replace HO286 := Aside0.mk (Kd.R_below (kdt HO286.out) hb); replace BK282 := Aside0.mk (bkb BK282.out hb); replace HB := Aside0.mk (bst HB.out hb); (try clear hb); (try clear hb2); (try clear hk); (try clear hi)) | ((with_reducible refine gate_dst (N := 12) rfl ?_); refine bxe (cs := #[.bool false, .int .i64 0, .int .i64 0]) (t := 23) ?_; intro gb291 hg w27 hbox hb; have BK291 := Aside0.mk (hbox); have GW291 := Aside0.mk (bge hg HB.out); have GE291 := Aside0.mk (bge hg HB.out); have NB282_291 := Aside0.mk ((bkl hg BK282.out)); have NB291_282 := Aside0.mk ((bkg hg BK282.out)); replace HO286 := Aside0.mk (Kd.R_below (kdt HO286.out) hb); replace BK282 := Aside0.mk (bkb BK282.out hb); replace HB := Aside0.mk (bst HB.out hb); clear hb hbox hg; have hnb28 := NB291_282.out; have hnc28 := NB282_291.out; have hcz29_0 := cz3 BK291.out; have hfz29_0 := blk_frozen BK291.out) | ((with_reducible refine gate_callee (f := 13) rfl ?_); refine gsl (some 35) Try.func13 #[.slice A1 l1.length c1, .int .i64 a2, .int .i64 a3, .bool a4] ?_; (with_reducible refine (ref_Read.calls k _ _ l1 a2 a3 a4 t292 t293 t294 t295 _ ?side1 ?side2 A13.out).mono ?_); (case side1 => exact Kd.C_below HR1.out (bel HB.out)); (case side2 => exact HC1.out); rintro e w30 ⟨rfl, hb⟩; refine ⟨_, rfl, ?_⟩; replace HO286 := Aside0.mk (Kd.R_below (by (with_reducible repeat (first | apply Kd.R_alloc | apply Kd.R_drewN | apply Kd.R_drew)); exact (Kd.R_mono (Kd.R_far (p := ⟨gb291, 2, none⟩) (Kd.R_far (p := ⟨gb291, 1, none⟩) (Kd.R_far (p := ⟨gb291, 0, none⟩) (Kd.R_types HO286.out BK291.out (by decide)) (fun _ hk => hk.2) (.bool t287)) (fun _ hk => hk.2) (.int .i64 t288)) (fun _ hk => hk.2) (.int .i64 t289)) (fun _ h_ => h_.1))) hb); replace BK282 := Aside0.mk (bkb BK282.out hb); replace BK291 := Aside0.mk (blk_below (g := gb291) (o := .cells #[.bool t287, .int .i64 t288, .int .i64 t289] 23 (0, 0)) (bkt BK291.out) hb); replace HB := Aside0.mk (bst HB.out hb); (try clear hb); (try clear hb2); (try clear hk); (try clear hi)) | ((with_reducible refine gate_dst (N := 14) rfl ?_); refine bxe (cs := #[.bool false, .int .i64 0, .int .i64 0]) (t := 23) ?_; intro gb296 hg w31 hbox hb; have BK296 := Aside0.mk (hbox); have GW296 := Aside0.mk (bge hg HB.out); have GE296 := Aside0.mk (bge hg HB.out); have NB282_296 := Aside0.mk ((bkl hg BK282.out)); have NB296_282 := Aside0.mk ((bkg hg BK282.out)); have NB291_296 := Aside0.mk ((bkl hg BK291.out)); have NB296_291 := Aside0.mk ((bkg hg BK291.out)); replace HO286 := Aside0.mk (Kd.R_below (kdt HO286.out) hb); replace BK282 := Aside0.mk (bkb BK282.out hb); replace BK291 := Aside0.mk (bkb BK291.out hb); replace HB := Aside0.mk (bst HB.out hb); clear hb hbox hg; have hnb32 := NB296_282.out; have hnc32 := NB282_296.out; have hnb33 := NB296_291.out; have hnc33 := NB291_296.out; have hcz34_0 := cz3 BK296.out; have hfz34_0 := blk_frozen BK296.out))
       have n0_ : Aside0 (Kd.R (Kd.int .i64) 3 (((w31.setCell ⟨gb296, 0, none⟩ (.bool t292)).setCell ⟨gb296, 1, none⟩ (.int .i64 t293)).setCell ⟨gb296, 2, none⟩ (.int .i64 t294)) w.heap.size (fun _ => True) (.slice Ao25 t284.length co25) t284) := ⟨by (with_reducible repeat (first | apply Kd.R_alloc | apply Kd.R_drewN | apply Kd.R_drew)); exact Kd.R_mono (Kd.R_far (p := ⟨gb296, 2, none⟩) (Kd.R_far (p := ⟨gb296, 1, none⟩) (Kd.R_far (p := ⟨gb296, 0, none⟩) (Kd.R_types HO286.out BK296.out (by decide)) (fun _ hk => hk.2) (.bool t292)) (fun _ hk => hk.2) (.int .i64 t293)) (fun _ hk => hk.2) (.int .i64 t294)) (fun _ hk => trivial)⟩
       have n1_ : Aside0 ((((w31.setCell ⟨gb296, 0, none⟩ (.bool t292)).setCell ⟨gb296, 1, none⟩ (.int .i64 t293)).setCell ⟨gb296, 2, none⟩ (.int .i64 t294)).heap[gb282]? = some (.cells #[.bool a0_0, .int .i64 a0_1, .int .i64 a0_2] 23 (0, 0))) := ⟨bkt BK282.out⟩
       have n2_ : Aside0 ((((w31.setCell ⟨gb296, 0, none⟩ (.bool t292)).setCell ⟨gb296, 1, none⟩ (.int .i64 t293)).setCell ⟨gb296, 2, none⟩ (.int .i64 t294)).heap[gb291]? = some (.cells #[.bool t287, .int .i64 t288, .int .i64 t289] 23 (0, 0))) := ⟨bkt BK291.out⟩
       have n3_ : Aside0 ((((w31.setCell ⟨gb296, 0, none⟩ (.bool t292)).setCell ⟨gb296, 1, none⟩ (.int .i64 t293)).setCell ⟨gb296, 2, none⟩ (.int .i64 t294)).heap[gb296]? = some (.cells #[.bool t292, .int .i64 t293, .int .i64 t294] 23 (0, 0))) := ⟨bkt BK296.out⟩
       have n4_ : Aside0 (Below w.heap.size w (((w31.setCell ⟨gb296, 0, none⟩ (.bool t292)).setCell ⟨gb296, 1, none⟩ (.int .i64 t293)).setCell ⟨gb296, 2, none⟩ (.int .i64 t294))) := ⟨bel HB.out⟩
       (try clear HO286)
       (try clear BK282)
       (try clear BK291)
       (try clear BK296)
       (try clear HB)
       generalize (((w31.setCell ⟨gb296, 0, none⟩ (.bool t292)).setCell ⟨gb296, 1, none⟩ (.int .i64 t293)).setCell ⟨gb296, 2, none⟩ (.int .i64 t294)) = w35 at n0_ n1_ n2_ n3_ n4_ ⊢
       have HO286 := n0_
       have BK282 := n1_
       have BK291 := n2_
       have BK296 := n3_
       have HB := n4_
       clear n0_ n1_ n2_ n3_ n4_
       have n0_ := Aside0.mk (Kd.R_drew HO286.out)
       have n1_ := Aside0.mk (blk_drew BK282.out)
       have n2_ := Aside0.mk (blk_drew BK291.out)
       have n3_ := Aside0.mk (blk_drew BK296.out)
       have n4_ := Aside0.mk (below_drew1 HB.out)
       clear HO286
       clear BK282
       clear BK291
       clear BK296
       clear HB
       have HO286 := n0_
       have BK282 := n1_
       have BK291 := n2_
       have BK296 := n3_
       have HB := n4_
       clear n0_ n1_ n2_ n3_ n4_
       refine start_ (n := 24) (S := fun w' => w'.cell? ⟨gb291, 0, none⟩ = some (.bool t287) ∧ w'.cell? ⟨gb291, 1, none⟩ = some (.int .i64 t288) ∧ w'.cell? ⟨gb291, 2, none⟩ = some (.int .i64 t289) ∧ w'.cell? ⟨gb296, 0, none⟩ = some (.bool t292) ∧ w'.cell? ⟨gb296, 1, none⟩ = some (.int .i64 t293) ∧ w'.cell? ⟨gb296, 2, none⟩ = some (.int .i64 t294) ∧ w'.cell? ⟨gb282, 0, none⟩ = some (.bool a0_0) ∧ w'.cell? ⟨gb282, 1, none⟩ = some (.int .i64 a0_1) ∧ w'.cell? ⟨gb282, 2, none⟩ = some (.int .i64 a0_2)) (ds := []) #[false, false, false, false, false, false, false, false, false, false, false, false, false, false, false, false, false, false, false, false, false, false, false, false] (by kernel_rfl) rfl rfl ⟨(blk_cell BK291.out 0).trans rfl, (blk_cell BK291.out 1).trans rfl, (blk_cell BK291.out 2).trans rfl, (blk_cell BK296.out 0).trans rfl, (blk_cell BK296.out 1).trans rfl, (blk_cell BK296.out 2).trans rfl, (blk_cell BK282.out 0).trans rfl, (blk_cell BK282.out 1).trans rfl, (blk_cell BK282.out 2).trans rfl⟩ (fun hHeld => ?_); refine with_tabW q_SensorReads.tab6 q_SensorReads.bits6 (fun HT_ HW_ => ?_)
       generalize w35.drew = w36 at HO286 BK282 BK291 BK296 HB hHeld ⊢
       refine tkp 0 (some 38) (bm 24 1) HT_.out HW_.out hHeld ?_
       refine tkp 1 (some 39) (bm 24 3) HT_.out HW_.out hHeld ?_
       refine pur 2 (some 40) (bm 24 7) HT_.out ?_
       refine pur 3 (some 41) (bm 24 15) HT_.out ?_
       refine pur 4 (some 42) (bm 24 31) HT_.out ?_
       refine pur 5 (some 43) (bm 24 63) HT_.out ?_
       refine pur 6 (some 44) (bm 24 127) HT_.out ?_
       refine pur 7 (some 45) (bm 24 255) HT_.out ?_
       refine pur 8 (some 46) (bm 24 511) HT_.out ?_
       refine tkp 9 (some 47) (bm 24 1023) HT_.out HW_.out hHeld ?_
       refine tkp 11 (some 49) (bm 24 3071) HT_.out HW_.out hHeld ?_
       refine one_ (i := 10) (N := some 48) (bm 24 4095) rfl rfl (one_of HT_.out (by kernel_rfl)) (by decide) (fun K hK => ?_)
       refine goes_ Try.func14 (by kernel_rfl) rfl #[.agg #[.bool a0_0, .int .i64 a0_1, .int .i64 a0_2]] (by rfl) rfl rfl (by (try simp only [List.map_toArray, List.map_cons, List.map_nil]); first | done | rfl | (simp only [List.length_drop, List.length_take]; rfl)) ?_
       with_reducible refine (sensor_Check.calls k a0_0 a0_1 a0_2 t297 _ A16.out).mono ?_
       rintro e w37 ⟨rfl, hb⟩
       refine ⟨_, rfl, ?_⟩
       have n0_ := Aside0.mk (Kd.R_below (kdt HO286.out) hb)
       have n1_ := Aside0.mk (bkb BK282.out hb)
       have n2_ := Aside0.mk (bkb BK291.out hb)
       have n3_ := Aside0.mk (bkb BK296.out hb)
       have n4_ := Aside0.mk (bst HB.out hb)
       clear HO286
       clear BK282
       clear BK291
       clear BK296
       clear HB
       have HO286 := n0_
       have BK282 := n1_
       have BK291 := n2_
       have BK296 := n3_
       have HB := n4_
       clear n0_ n1_ n2_ n3_ n4_
       (try clear hb)
       (try clear hb2)
       (try clear hk)
       (try clear hi)
       refine hK.out _ _ ⟨(blk_cell BK291.out 0).trans rfl, (blk_cell BK291.out 1).trans rfl, (blk_cell BK291.out 2).trans rfl, (blk_cell BK296.out 0).trans rfl, (blk_cell BK296.out 1).trans rfl, (blk_cell BK296.out 2).trans rfl, (blk_cell BK282.out 0).trans rfl, (blk_cell BK282.out 1).trans rfl, (blk_cell BK282.out 2).trans rfl⟩ (fun hHeld => ?_)
       clear hK K
       refine norm_ (a' := ?_) ?_ ?_
       rotate_left
       ·show Act.put _ (some 48) _ = _
        simp only [Act.put, List.setIfInBounds_toArray, List.set_cons_zero, List.set_cons_succ, i64_w, i32_w]
        rfl
       refine one_ (i := 12) (N := some 50) (bm 24 8191) rfl rfl (one_of HT_.out (by kernel_rfl)) (by decide) (fun K hK => ?_)
       refine goes_ Try.func15 (by kernel_rfl) rfl #[.agg #[.bool a0_0, .int .i64 a0_1, .int .i64 a0_2]] (by rfl) rfl rfl (by (try simp only [List.map_toArray, List.map_cons, List.map_nil]); first | done | rfl | (simp only [List.length_drop, List.length_take]; rfl)) ?_
       with_reducible refine (ref_Check.calls k a0_0 a0_1 a0_2 t298 _ A17.out).mono ?_
       rintro e w38 ⟨rfl, hb⟩
       refine ⟨_, rfl, ?_⟩
       have n0_ := Aside0.mk (Kd.R_below (kdt HO286.out) hb)
       have n1_ := Aside0.mk (bkb BK282.out hb)
       have n2_ := Aside0.mk (bkb BK291.out hb)
       have n3_ := Aside0.mk (bkb BK296.out hb)
       have n4_ := Aside0.mk (bst HB.out hb)
       clear HO286
       clear BK282
       clear BK291
       clear BK296
       clear HB
       have HO286 := n0_
       have BK282 := n1_
       have BK291 := n2_
       have BK296 := n3_
       have HB := n4_
       clear n0_ n1_ n2_ n3_ n4_
       (try clear hb)
       (try clear hb2)
       (try clear hk)
       (try clear hi)
       refine hK.out _ _ ⟨(blk_cell BK291.out 0).trans rfl, (blk_cell BK291.out 1).trans rfl, (blk_cell BK291.out 2).trans rfl, (blk_cell BK296.out 0).trans rfl, (blk_cell BK296.out 1).trans rfl, (blk_cell BK296.out 2).trans rfl, (blk_cell BK282.out 0).trans rfl, (blk_cell BK282.out 1).trans rfl, (blk_cell BK282.out 2).trans rfl⟩ (fun hHeld => ?_)
       clear hK K
       refine norm_ (a' := ?_) ?_ ?_
       rotate_left
       ·show Act.put _ (some 50) _ = _
        simp only [Act.put, List.setIfInBounds_toArray, List.set_cons_zero, List.set_cons_succ, i64_w, i32_w]
        rfl
       refine pur 13 (some 51) (bm 24 16383) HT_.out ?_
       refine pur 14 (some 52) (bm 24 32767) HT_.out ?_
       refine pur 15 (some 53) (bm 24 65535) HT_.out ?_
       refine pur 16 (some 54) (bm 24 131071) HT_.out ?_
       refine pur 17 (some 55) (bm 24 262143) HT_.out ?_
       refine one_ (i := 18) (N := some 56) (bm 24 524287) rfl rfl (one_of HT_.out (by kernel_rfl)) (by decide) (fun K hK => ?_)
       refine goes_ Try.func16 (by kernel_rfl) rfl #[.slice Ao25 t284.length co25, .slice A1 l1.length c1] (by rfl) rfl rfl (by (try simp only [List.map_toArray, List.map_cons, List.map_nil]); first | done | rfl | (simp only [List.length_drop, List.length_take]; rfl)) ?_
       with_reducible refine (kit_SameInts.calls k _ _ t284 _ _ l1 true _ ?side1 ?side2 ?side3 ?side4 A19.out).mono ?_
       (case side1 => repeat (first | exact (Kd.R_reads' HO286.out).2.2 | (with_reducible refine Kd.C_alloc ?_ _) | (with_reducible refine Kd.C_drewN ?_ _) | (with_reducible refine Kd.C_drew ?_)))
       (case side2 => exact (Kd.R_reads' HO286.out).2.1)
       (case side3 => repeat (first | exact (Kd.C_below HR1.out HB.out) | (with_reducible refine Kd.C_alloc ?_ _) | (with_reducible refine Kd.C_drewN ?_ _) | (with_reducible refine Kd.C_drew ?_)))
       (case side4 => exact HC1.out)
       rintro e w' ⟨rfl, ⟨nd, rfl⟩⟩
       refine ⟨_, rfl, ?_⟩
       refine hK.out _ _ ⟨(blk_cell BK291.out 0).trans rfl, (blk_cell BK291.out 1).trans rfl, (blk_cell BK291.out 2).trans rfl, (blk_cell BK296.out 0).trans rfl, (blk_cell BK296.out 1).trans rfl, (blk_cell BK296.out 2).trans rfl, (blk_cell BK282.out 0).trans rfl, (blk_cell BK282.out 1).trans rfl, (blk_cell BK282.out 2).trans rfl⟩ (fun hHeld => ?_)
       clear hK K
       refine norm_ (a' := ?_) ?_ ?_
       rotate_left
       ·show Act.put _ (some 56) _ = _
        simp only [Act.put, List.setIfInBounds_toArray, List.set_cons_zero, List.set_cons_succ, i64_w, i32_w]
        rfl
       refine pur 19 (some 57) (bm 24 1048575) HT_.out ?_
       refine pur 20 (some 58) (bm 24 2097151) HT_.out ?_
       refine one_ (i := 21) (N := some 59) (bm 24 4194303) rfl rfl (one_of HT_.out (by kernel_rfl)) (by decide) (fun K hK => ?_)
       refine goes_ Try.func10 (by kernel_rfl) rfl #[] (by rfl) rfl rfl (by (try simp only [List.map_toArray, List.map_cons, List.map_nil]); first | done | rfl | (simp only [List.length_drop, List.length_take]; rfl)) ?_
       with_reducible refine (q_awake.calls k  true _ A21.out).mono ?_
       rintro e w39 ⟨rfl, hb⟩
       refine ⟨_, rfl, ?_⟩
       have n0_ := Aside0.mk (Kd.R_below (kdt HO286.out) hb)
       have n1_ := Aside0.mk (bkb BK282.out hb)
       have n2_ := Aside0.mk (bkb BK291.out hb)
       have n3_ := Aside0.mk (bkb BK296.out hb)
       have n4_ := Aside0.mk (bst HB.out hb)
       clear HO286
       clear BK282
       clear BK291
       clear BK296
       clear HB
       have HO286 := n0_
       have BK282 := n1_
       have BK291 := n2_
       have BK296 := n3_
       have HB := n4_
       clear n0_ n1_ n2_ n3_ n4_
       (try clear hb)
       (try clear hb2)
       (try clear hk)
       (try clear hi)
       refine hK.out _ _ ⟨(blk_cell BK291.out 0).trans rfl, (blk_cell BK291.out 1).trans rfl, (blk_cell BK291.out 2).trans rfl, (blk_cell BK296.out 0).trans rfl, (blk_cell BK296.out 1).trans rfl, (blk_cell BK296.out 2).trans rfl, (blk_cell BK282.out 0).trans rfl, (blk_cell BK282.out 1).trans rfl, (blk_cell BK282.out 2).trans rfl⟩ (fun hHeld => ?_)
       clear hK K
       refine norm_ (a' := ?_) ?_ ?_
       rotate_left
       ·show Act.put _ (some 59) _ = _
        simp only [Act.put, List.setIfInBounds_toArray, List.set_cons_zero, List.set_cons_succ, i64_w, i32_w]
        rfl
       refine pur 22 (some 60) (bm 24 8388607) HT_.out ?_
       refine pur 23 (some 10) (bm 24 16777215) HT_.out ?_
       refine done_ (done_of HT_.out (by kernel_rfl)) ?_
       try go_wp2
       go_ret
       exact bfin (bel HB.out)
      ·replace c22 := Bool.eq_false_iff.mpr c22
       subst c22
       have H1 : (none) = some r := by rw [if_neg (show ¬ (false = true) by decide)] at H; exact H
       clear H
       have H := H1
       clear H1
       exact absurd H (by simp)
     ·replace c20 := Bool.eq_false_iff.mpr c20
      subst c20
      have H1 : (none) = some r := by rw [if_neg (show ¬ (false = true) by decide)] at H; exact H
      clear H
      have H := H1
      clear H1
      exact absurd H (by simp)
    ·rw [if_neg c18] at H
     have c18b0 : (t297 == t298) = false := beq_eq_false_iff_ne.mpr c18
     have c18b1 : (t297 != t298) = true := bne_iff_ne.mpr c18
     exact absurd H (by simp)
   ·rw [if_neg c15] at H
    have c15b0 : (t290 == t295) = false := beq_eq_false_iff_ne.mpr c15
    have c15b1 : (t290 != t295) = true := bne_iff_ne.mpr c15
    exact absurd H (by simp)
  ·rw [if_neg c14] at H
   have c14b0 : (t287 == t292 && (t288 == t293 && (t289 == t294))) = false := by simpa using c14
   (try (have c14b1 : decide (t287 = t292 && (t288 == t293 && (t289 == t294))) = false := by simpa using c14))
   (try (have c14b2 : (t287 == t292 && (t288 == t293 && (t289 == t294))) = false := by simpa using c14))
   (try (have c14b3 : ¬ (t287 = t292 && (t288 == t293 && (t289 == t294))) := by simpa using c14))
   clear c14
   exact absurd H (by simp)

/-- THE ONE PURE STATEMENT of q_SensorReads: yours. -/
def q_SensorReads.Pure : Prop := ∀ (a0_0 : Bool) (a0_1 : Int) (a0_2 : Int) (l1 : List Int) (a2 : Int) (a3 : Int) (a4 : Bool), (Lit.int .i64 a0_1).wf = true → (Lit.int .i64 a0_2).wf = true → l1.length ≤ maxLen → l1.length * 8 ≤ 140737488351232 → (∀ x ∈ l1, (Lit.int .i64 x).wf = true) → (Lit.int .i64 a2).wf = true → (Lit.int .i64 a3).wf = true → ∃ k, q_SensorReads.f k a0_0 a0_1 a0_2 l1 a2 a3 a4 = some true
theorem q_SensorReads.walk (P : q_SensorReads.Pure) (a0_0 : Bool) (a0_1 : Int) (a0_2 : Int) (a1 : Option Addr) (len1 cap1 : Nat) (z1 : List Int) (a2 : Int) (a3 : Int) (a4 : Bool) (w : World) (w0_1 : (Lit.int .i64 a0_1).wf = true) (w0_2 : (Lit.int .i64 a0_2).wf = true) (w1 : (a1 = none ∧ len1 = 0 ∧ cap1 = 0 ∧ z1 = []) ∨ ∃ x, a1 = some x ∧ len1 ≤ cap1 ∧ cap1 ≤ maxLen ∧ z1.length = cap1 ∧ (∀ i, i < z1.length → w.cell? (x.add i) = some (.int .i64 (z1.getD i 0))) ∧ ∀ n ∈ z1, (Lit.int .i64 n).wf = true) (y1 : len1 * 8 ≤ 140737488351232) (w2 : (Lit.int .i64 a2).wf = true) (w3 : (Lit.int .i64 a3).wf = true) :
  Calls Try.prog 3 #[.agg #[.bool a0_0, .int .i64 a0_1, .int .i64 a0_2], .slice a1 len1 cap1, .int .i64 a2, .int .i64 a3, .bool a4] w fun e w' => e = .returned (.bool true) ∧ Below w.heap.size w w' := by
 obtain ⟨l1, rfl, hr1, hm1, hw1, hc1⟩ := ReadsInt.ofRowC w1
 obtain ⟨k, h⟩ := P a0_0 a0_1 a0_2 l1 a2 a3 a4 w0_1 w0_2 hm1 y1 hw1 w2 w3
 refine (q_SensorReads.calls k a0_0 a0_1 a0_2 _ _ l1 a2 a3 a4 true w (Kd.C_of_reads (d := (0 : Int)) (h1 := fun _ => rfl) hr1) hc1 h).mono ?_
 rintro e w' ⟨rfl, hd⟩
 exact ⟨rfl, hd⟩

end Go.Proofs.Ytlkphdcfgaolnaa.P
