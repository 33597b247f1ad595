-- Printed by wip/myprint.py of this repo (over the kit's printer). Not trusted: Lean checks it.
import Derived.Test.YtmjmdnpenpdmhaaP0
import Derived.Test.YtmjmdnpenpdmhaaP0cycle
import Derived.Test.YtmjmdnpenpdmhaaP0tipstaffkit
import Derived.Test.YtmjmdnpenpdmhaaP0tipstafflaw19
import Derived.Test.YtmjmdnpenpdmhaaP2cycle
import Derived.Test.YtmjmdnpenpdmhaaP2cyclea
namespace Go.Proofs.Ytmjmdnpenpdmhaa.P
open Go.RowKit Go.Proofs.YtmjmdnpenpdmhaaW.PrintWords Go.Proofs.YtmjmdnpenpdmhaaW.PrintLast Go.Proofs.YtmjmdnpenpdmhaaW.PrintMore
attribute [local go_sem] cell_same1 cell_some1
attribute [local go_sem] max2_int min2_int max_two min_two max_three min_three max_four min_four   -- for this text's walks alone
set_option linter.unusedVariables false
set_option linter.unusedSimpArgs false

/-! ### q_panels: function 21 -/
def q_panels.f (k : Nat) (a0 : ByteArray) (l1 : List Int) : Option (Bool) := (q_rule.f).bind fun bt180 => ((q_marks.f k a0).bind fun t183 => ((cycle_Panels.f bt180.1 bt180.2.1 bt180.2.2 t183).bind fun bt186 => (if bt186.2 = 0 then ((kit_SameInts.f k bt186.1 l1).bind fun t190 => (some t190)) else (none))))
theorem q_panels.mono : ∀ a0 a1 k, LeO (q_panels.f k a0 a1) (q_panels.f (k + 1) a0 a1) := by
 intro a0 a1 k
 unfold q_panels.f
 repeat' first
   | (with_reducible exact kit_SameInts.mono _ _ _)
   | (with_reducible exact q_marks.mono _ _)
   | (with_reducible exact LeO.refl _)
   | (with_reducible exact LeO.none _)
   | (with_reducible refine LeO.ite ?_ ?_)
   | (with_reducible refine LeO.bind ?_ (fun _ => ?_))
   | exact kit_SameInts.mono _ _ _
   | exact q_marks.mono _ _
   | exact LeO.none _
   | refine LeO.ite ?_ ?_
   | refine LeO.bind ?_ (fun _ => ?_)
set_option maxHeartbeats 8000000 in
set_option maxRecDepth 100000 in
theorem q_panels.calls (k : Nat) (a0 : ByteArray) (A1 : Option Addr) (c1 : Nat) (l1 : List Int) (r : Bool) (w : World) (hr1 : Kd.C (Kd.int .i64) w A1 l1.length l1) (hc1 : l1.length ≤ c1) (h : q_panels.f k a0 l1 = some r) :
  Calls Try.prog 21 #[.string a0, .slice A1 l1.length c1] w fun e w' => e = .returned (.bool r) ∧ Below w.heap.size w w' := by
 have HR1 := Aside0.mk hr1
 have HC1 := Aside0.mk hc1
 clear hr1 hc1
 have HB := Aside0.mk (Below.refl w.heap.size w)
 have H : ((q_rule.f).bind fun bt180 => ((q_marks.f k a0).bind fun t183 => ((cycle_Panels.f bt180.1 bt180.2.1 bt180.2.2 t183).bind fun bt186 => (if bt186.2 = 0 then ((kit_SameInts.f k bt186.1 l1).bind fun t190 => (some t190)) else (none))))) = some r := h
 clear h
 replace H := Option.bind_eq_some_iff.mp H
 obtain ⟨⟨t180, t181, t182⟩, A30, H⟩ := H
 replace H : ((q_marks.f k a0).bind fun t183 => ((cycle_Panels.f t180 t181 t182 t183).bind fun bt186 => (if bt186.2 = 0 then ((kit_SameInts.f k bt186.1 l1).bind fun t190 => (some t190)) else (none)))) = some r := H
 have A3 := Aside0.mk A30
 clear A30
 replace H := Option.bind_eq_some_iff.mp H
 obtain ⟨t183, A40, H⟩ := H
 replace H : ((cycle_Panels.f t180 t181 t182 t183).bind fun bt186 => (if bt186.2 = 0 then ((kit_SameInts.f k bt186.1 l1).bind fun t190 => (some t190)) else (none))) = some r := H
 have A4 := Aside0.mk A40
 clear A40
 replace H := Option.bind_eq_some_iff.mp H
 obtain ⟨⟨t186, t189⟩, A50, H⟩ := H
 replace H : (if t189 = 0 then ((kit_SameInts.f k t186 l1).bind fun t190 => (some t190)) else (none)) = some r := H
 have A5 := Aside0.mk A50
 clear A50
 by_cases c6 : t189 = 0
 ·rw [if_pos c6] at H
  have c6b0 : (t189 == 0) = true := beq_iff_eq.mpr c6
  have c6b1 : (t189 != 0) = false := bne_eq_false_iff_eq.mpr c6
  clear c6
  replace H := Option.bind_eq_some_iff.mp H
  obtain ⟨t190, A70, H⟩ := H
  replace H : (some t190) = some r := H
  have A7 := Aside0.mk A70
  clear A70
  obtain rfl := Option.some.inj H
  go_enter Try.func21, Try.ntmps21
  go_wp2_with (first | ((with_reducible refine gate_callee (f := 17) rfl ?_); refine gsl (some 8) Try.func17 #[] ?_; (with_reducible refine (q_rule.calls  t180 t181 t182 _ A3.out).mono ?_); rintro e w8 ⟨rfl, hb⟩; refine ⟨_, rfl, ?_⟩; replace HB := Aside0.mk (bst HB.out hb); (try clear hb); (try clear hb2); (try clear hk); (try clear hi)) | ((with_reducible refine gate_callee (f := 39) rfl ?_); refine gsl (some 10) Try.func39 #[.string a0] ?_; (with_reducible refine (q_marks.calls k a0 t183 _ A4.out).mono ?_); rintro e w9 ⟨v184, rfl, ho0, hb⟩; refine ⟨_, rfl, ?_⟩; have HO185 := Aside0.mk (Kd.R_lower ho0 (bsz HB.out)); replace HB := Aside0.mk (bst HB.out hb); (try clear hb); (try clear hb2); (try clear hk); (try clear hi); (try clear ho0); obtain ⟨Ao10, co10, eo10⟩ := Kd.R_slice HO185.out; subst eo10) | ((with_reducible refine gate_callee (f := 11) rfl ?_); refine gsl (some 11) Try.func11 #[.agg #[.int .i64 t180, .int .i64 t181, .int .i64 t182], .slice Ao10 t183.length co10] ?_; (with_reducible refine (cycle_Panels.calls t180 t181 t182 _ _ t183 t186 t189 _ ?side1 ?side2 A5.out).mono ?_); (case side1 => repeat (first | exact (Kd.R_reads' HO185.out).2.2 | (with_reducible refine Kd.C_alloc ?_ _) | (with_reducible refine Kd.C_drewN ?_ _) | (with_reducible refine Kd.C_drew ?_))); (case side2 => exact (Kd.R_reads' HO185.out).2.1); rintro e w11 ⟨v187, rfl, ho0, hb⟩; refine ⟨_, rfl, ?_⟩; have HO188 := Aside0.mk (Kd.R_lower ho0 (bsz HB.out)); replace HO185 := Aside0.mk (Kd.R_below (kdt HO185.out) hb); replace HB := Aside0.mk (bst HB.out hb); (try clear hb); (try clear hb2); (try clear hk); (try clear hi); (try clear ho0); obtain ⟨Ao12, co12, eo12⟩ := Kd.R_slice HO188.out; subst eo12) | (go_at_call 15; (with_reducible refine (kit_SameInts.calls k _ _ t186 _ _ l1 t190 _ ?side1 ?side2 ?side3 ?side4 A7.out).mono ?_); (case side1 => repeat (first | exact (Kd.R_reads' HO188.out).2.2 | (with_reducible refine Kd.C_alloc ?_ _) | (with_reducible refine Kd.C_drewN ?_ _) | (with_reducible refine Kd.C_drew ?_))); (case side2 => exact (Kd.R_reads' HO188.out).2.1); (case side3 => repeat (first | exact (Kd.C_below HR1.out HB.out) | (with_reducible refine Kd.C_alloc ?_ _) | (with_reducible refine Kd.C_drewN ?_ _) | (with_reducible refine Kd.C_drew ?_))); (case side4 => exact HC1.out); rintro e w' ⟨rfl, ⟨nd, rfl⟩⟩))
  go_ret
  exact bfin (bel HB.out)
 ·rw [if_neg c6] at H
  exact absurd H (by simp)

/-! ### q_forced: function 22 -/
def q_forced.f (k : Nat) (a0 : Int) (l1 : List Int) : Option (Bool) := (q_rule.f).bind fun bt196 => ((cycle_Forced.f bt196.1 bt196.2.1 bt196.2.2 ([] : List Bool) a0).bind fun bt199 => (if bt199.2 = 0 then ((kit_SameInts.f k bt199.1 l1).bind fun t203 => (some t203)) else (none)))
theorem q_forced.mono : ∀ a0 a1 k, LeO (q_forced.f k a0 a1) (q_forced.f (k + 1) a0 a1) := by
 intro a0 a1 k
 unfold q_forced.f
 repeat' first
   | (with_reducible exact kit_SameInts.mono _ _ _)
   | (with_reducible exact LeO.refl _)
   | (with_reducible exact LeO.none _)
   | (with_reducible refine LeO.ite ?_ ?_)
   | (with_reducible refine LeO.bind ?_ (fun _ => ?_))
   | exact kit_SameInts.mono _ _ _
   | exact LeO.none _
   | refine LeO.ite ?_ ?_
   | refine LeO.bind ?_ (fun _ => ?_)
set_option maxHeartbeats 8000000 in
set_option maxRecDepth 100000 in
theorem q_forced.calls (k : Nat) (a0 : Int) (A1 : Option Addr) (c1 : Nat) (l1 : List Int) (r : Bool) (w : World) (hr1 : Kd.C (Kd.int .i64) w A1 l1.length l1) (hc1 : l1.length ≤ c1) (h : q_forced.f k a0 l1 = some r) :
  Calls Try.prog 22 #[.int .i64 a0, .slice A1 l1.length c1] w fun e w' => e = .returned (.bool r) ∧ Below w.heap.size w w' := by
 have HR1 := Aside0.mk hr1
 have HC1 := Aside0.mk hc1
 clear hr1 hc1
 have HB := Aside0.mk (Below.refl w.heap.size w)
 have H : ((q_rule.f).bind fun bt196 => ((cycle_Forced.f bt196.1 bt196.2.1 bt196.2.2 ([] : List Bool) a0).bind fun bt199 => (if bt199.2 = 0 then ((kit_SameInts.f k bt199.1 l1).bind fun t203 => (some t203)) else (none)))) = some r := h
 clear h
 replace H := Option.bind_eq_some_iff.mp H
 obtain ⟨⟨t196, t197, t198⟩, A30, H⟩ := H
 replace H : ((cycle_Forced.f t196 t197 t198 ([] : List Bool) a0).bind fun bt199 => (if bt199.2 = 0 then ((kit_SameInts.f k bt199.1 l1).bind fun t203 => (some t203)) else (none))) = some r := H
 have A3 := Aside0.mk A30
 clear A30
 replace H := Option.bind_eq_some_iff.mp H
 obtain ⟨⟨t199, t202⟩, A40, H⟩ := H
 replace H : (if t202 = 0 then ((kit_SameInts.f k t199 l1).bind fun t203 => (some t203)) else (none)) = some r := H
 have A4 := Aside0.mk A40
 clear A40
 by_cases c5 : t202 = 0
 ·rw [if_pos c5] at H
  have c5b0 : (t202 == 0) = true := beq_iff_eq.mpr c5
  have c5b1 : (t202 != 0) = false := bne_eq_false_iff_eq.mpr c5
  clear c5
  replace H := Option.bind_eq_some_iff.mp H
  obtain ⟨t203, A60, H⟩ := H
  replace H : (some t203) = some r := H
  have A6 := Aside0.mk A60
  clear A60
  obtain rfl := Option.some.inj H
  go_enter Try.func22, Try.ntmps22
  go_wp2_with (first | ((with_reducible refine gate_callee (f := 17) rfl ?_); refine gsl (some 8) Try.func17 #[] ?_; (with_reducible refine (q_rule.calls  t196 t197 t198 _ A3.out).mono ?_); rintro e w7 ⟨rfl, hb⟩; refine ⟨_, rfl, ?_⟩; replace HB := Aside0.mk (bst HB.out hb); (try clear hb); (try clear hb2); (try clear hk); (try clear hi)) | ((with_reducible refine gate_callee (f := 13) rfl ?_); refine goesL_ (some 10) rfl rfl Try.func13 (by kernel_rfl) rfl #[.agg #[.int .i64 t196, .int .i64 t197, .int .i64 t198], .slice none 0 0, .int .i64 a0] rfl (by (try simp only [List.map_toArray, List.map_cons, List.map_nil]); first | done | rfl | (simp only [List.length_drop, List.length_take]; rfl)) ?_; (refine (cycle_Forced.calls t196 t197 t198 _ _ ([] : List Bool) a0 t199 t202 _ ?side1 ?side2 A4.out).mono ?_); (case side1 => exact Kd.C_nil _ _); (case side2 => exact Nat.le_refl _); rintro e w8 ⟨v200, rfl, ho0, hb⟩; refine ⟨_, rfl, ?_⟩; have HO201 := Aside0.mk (Kd.R_lower ho0 (bsz HB.out)); replace HB := Aside0.mk (bst HB.out hb); (try clear hb); (try clear hb2); (try clear hk); (try clear hi); (try clear ho0); obtain ⟨Ao9, co9, eo9⟩ := Kd.R_slice HO201.out; subst eo9) | (go_at_call 15; (with_reducible refine (kit_SameInts.calls k _ _ t199 _ _ l1 t203 _ ?side1 ?side2 ?side3 ?side4 A6.out).mono ?_); (case side1 => repeat (first | exact (Kd.R_reads' HO201.out).2.2 | (with_reducible refine Kd.C_alloc ?_ _) | (with_reducible refine Kd.C_drewN ?_ _) | (with_reducible refine Kd.C_drew ?_))); (case side2 => exact (Kd.R_reads' HO201.out).2.1); (case side3 => repeat (first | exact (Kd.C_below HR1.out HB.out) | (with_reducible refine Kd.C_alloc ?_ _) | (with_reducible refine Kd.C_drewN ?_ _) | (with_reducible refine Kd.C_drew ?_))); (case side4 => exact HC1.out); rintro e w' ⟨rfl, ⟨nd, rfl⟩⟩))
  go_ret
  exact bfin (bel HB.out)
 ·rw [if_neg c5] at H
  exact absurd H (by simp)

/-! ### q_awake: function 9 -/
def q_awake.f (k : Nat)  : Option (Bool) := (q_rule.f).bind fun bt209 => ((cycle_Begin.f k bt209.1 bt209.2.1 bt209.2.2 false).bind fun bt212 => ((q_rule.f).bind fun bt220 => ((cycle_Left.f k bt212.1 bt212.2.1 bt212.2.2.1 bt212.2.2.2.1 bt212.2.2.2.2.1 bt212.2.2.2.2.2.1 bt220.1 bt220.2.1 bt220.2.2).bind fun bt223 => ((q_panels.f k (⟨#[45, 45, 45, 45, 120]⟩ : ByteArray) (([1, 2, 2, 1, 1, 2, 2, 1, 0] : List Int))).bind fun t228 => (if t228 = true then ((q_forced.f k 2 (([1, 2, 1, 0, 0, 0, 0, 0, 0] : List Int))).bind fun t232 => (if t232 = true then (if bt212.2.2.2.2.2.2 = 0 then (if bt212.2.2.2.2.2.1 = true then (if bt223.2 = 0 then (if bt223.1 = 9 then ((q_rule.f).bind fun bt233 => ((cycle_Check.f k bt212.1 bt212.2.1 bt212.2.2.1 bt212.2.2.2.1 bt212.2.2.2.2.1 bt212.2.2.2.2.2.1 bt233.1 bt233.2.1 bt233.2.2).bind fun t236 => (some (t236 == 0)))) else (none)) else (none)) else (none)) else (none)) else (none))) else (none))))))
theorem q_awake.mono : ∀ k, LeO (q_awake.f k ) (q_awake.f (k + 1) ) := by
 intro  k
 unfold q_awake.f
 repeat' first
   | (with_reducible exact cycle_Begin.mono _ _ _ _ _)
   | (with_reducible exact cycle_Check.mono _ _ _ _ _ _ _ _ _ _)
   | (with_reducible exact cycle_Left.mono _ _ _ _ _ _ _ _ _ _)
   | (with_reducible exact q_forced.mono _ _ _)
   | (with_reducible exact q_panels.mono _ _ _)
   | (with_reducible exact LeO.refl _)
   | (with_reducible exact LeO.none _)
   | (with_reducible refine LeO.ite ?_ ?_)
   | (with_reducible refine LeO.bind ?_ (fun _ => ?_))
   | exact cycle_Begin.mono _ _ _ _ _
   | exact cycle_Check.mono _ _ _ _ _ _ _ _ _ _
   | exact cycle_Left.mono _ _ _ _ _ _ _ _ _ _
   | exact q_forced.mono _ _ _
   | exact q_panels.mono _ _ _
   | exact LeO.none _
   | refine LeO.ite ?_ ?_
   | refine LeO.bind ?_ (fun _ => ?_)
def q_awake.T2 : Bool × List (List Nat × List Nat) := (true, [([], []), ([], []), ([0, 1, 1], [0, 1]), ([2], [2]), ([3], [3]), ([3], [3]), ([4, 2, 0, 1, 2, 3, 4], [4]), ([5, 6, 0, 1, 2, 3, 4, 5, 6], [5])])
def q_awake.B2 : List Nat := [0, 0, 3, 7, 15, 15, 31, 127]
theorem q_awake.tab2 : rtab .any (opsOf Try.f9 2) = q_awake.T2 := by kernel_rfl
theorem q_awake.bits2 : waitsOk q_awake.T2.2 q_awake.B2 = true := by kernel_rfl
def q_awake.T3 : Bool × List (List Nat × List Nat) := (true, [([], []), ([0], [0]), ([1, 1], [1]), ([2], [2]), ([3, 2, 2], [2, 3]), ([2, 4], [2, 4]), ([5, 4], [5]), ([6], [6]), ([7, 6], [6, 7]), ([6, 8], [6, 8]), ([9, 6], [9]), ([10], [10]), ([11, 10], [10, 11]), ([10, 12], [10, 12]), ([13, 10], [13]), ([14], [14]), ([15, 14], [14, 15]), ([14, 16], [14, 16]), ([17, 14], [17]), ([18], [18]), ([19, 18], [18, 19]), ([18, 20], [18, 20]), ([21, 18], [21]), ([22], [22]), ([22, 22], [22]), ([23, 24, 24, 22], [22, 23, 24]), ([25, 22], [22, 25]), ([22, 26], [22, 26]), ([27, 25, 0, 1, 2, 3, 4, 5, 6, 7, 8, 9, 10, 11, 12, 13, 14, 15, 16, 17, 18, 19, 20, 21, 22, 23, 24, 25, 26, 27], [27])])
def q_awake.B3 : List Nat := [0, 1, 3, 7, 15, 31, 63, 127, 255, 511, 1023, 2047, 4095, 8191, 16383, 32767, 65535, 131071, 262143, 524287, 1048575, 2097151, 4194303, 8388607, 8388607, 33554431, 67108863, 134217727, 268435455]
theorem q_awake.tab3 : rtab .any (opsOf Try.f9 3) = q_awake.T3 := by kernel_rfl
theorem q_awake.bits3 : waitsOk q_awake.T3.2 q_awake.B3 = true := by kernel_rfl
set_option maxHeartbeats 8000000 in
set_option maxRecDepth 100000 in
theorem q_awake.calls (k : Nat)  (r : Bool) (w : World) (h : q_awake.f k  = some r) :
  Calls Try.prog 9 #[] w fun e w' => e = .returned (.bool r) ∧ Below w.heap.size w w' := by
 have hu39 := Try.underlying39
 have HB := Aside0.mk (Below.refl w.heap.size w)
 have H : ((q_rule.f).bind fun bt209 => ((cycle_Begin.f k bt209.1 bt209.2.1 bt209.2.2 false).bind fun bt212 => ((q_rule.f).bind fun bt220 => ((cycle_Left.f k bt212.1 bt212.2.1 bt212.2.2.1 bt212.2.2.2.1 bt212.2.2.2.2.1 bt212.2.2.2.2.2.1 bt220.1 bt220.2.1 bt220.2.2).bind fun bt223 => ((q_panels.f k (⟨#[45, 45, 45, 45, 120]⟩ : ByteArray) (([1, 2, 2, 1, 1, 2, 2, 1, 0] : List Int))).bind fun t228 => (if t228 = true then ((q_forced.f k 2 (([1, 2, 1, 0, 0, 0, 0, 0, 0] : List Int))).bind fun t232 => (if t232 = true then (if bt212.2.2.2.2.2.2 = 0 then (if bt212.2.2.2.2.2.1 = true then (if bt223.2 = 0 then (if bt223.1 = 9 then ((q_rule.f).bind fun bt233 => ((cycle_Check.f k bt212.1 bt212.2.1 bt212.2.2.1 bt212.2.2.2.1 bt212.2.2.2.2.1 bt212.2.2.2.2.2.1 bt233.1 bt233.2.1 bt233.2.2).bind fun t236 => (some (t236 == 0)))) else (none)) else (none)) else (none)) else (none)) else (none))) else (none))))))) = some r := h
 clear h
 replace H := Option.bind_eq_some_iff.mp H
 obtain ⟨⟨t209, t210, t211⟩, A10, H⟩ := H
 replace H : ((cycle_Begin.f k t209 t210 t211 false).bind fun bt212 => ((q_rule.f).bind fun bt220 => ((cycle_Left.f k bt212.1 bt212.2.1 bt212.2.2.1 bt212.2.2.2.1 bt212.2.2.2.2.1 bt212.2.2.2.2.2.1 bt220.1 bt220.2.1 bt220.2.2).bind fun bt223 => ((q_panels.f k (⟨#[45, 45, 45, 45, 120]⟩ : ByteArray) (([1, 2, 2, 1, 1, 2, 2, 1, 0] : List Int))).bind fun t228 => (if t228 = true then ((q_forced.f k 2 (([1, 2, 1, 0, 0, 0, 0, 0, 0] : List Int))).bind fun t232 => (if t232 = true then (if bt212.2.2.2.2.2.2 = 0 then (if bt212.2.2.2.2.2.1 = true then (if bt223.2 = 0 then (if bt223.1 = 9 then ((q_rule.f).bind fun bt233 => ((cycle_Check.f k bt212.1 bt212.2.1 bt212.2.2.1 bt212.2.2.2.1 bt212.2.2.2.2.1 bt212.2.2.2.2.2.1 bt233.1 bt233.2.1 bt233.2.2).bind fun t236 => (some (t236 == 0)))) else (none)) else (none)) else (none)) else (none)) else (none))) else (none)))))) = some r := H
 have A1 := Aside0.mk A10
 clear A10
 replace H := Option.bind_eq_some_iff.mp H
 obtain ⟨⟨t212, t213, t214, t215, t216, t217, t218⟩, A20, H⟩ := H
 replace H : ((q_rule.f).bind fun bt220 => ((cycle_Left.f k t212 t213 t214 t215 t216 t217 bt220.1 bt220.2.1 bt220.2.2).bind fun bt223 => ((q_panels.f k (⟨#[45, 45, 45, 45, 120]⟩ : ByteArray) (([1, 2, 2, 1, 1, 2, 2, 1, 0] : List Int))).bind fun t228 => (if t228 = true then ((q_forced.f k 2 (([1, 2, 1, 0, 0, 0, 0, 0, 0] : List Int))).bind fun t232 => (if t232 = true then (if t218 = 0 then (if t217 = true then (if bt223.2 = 0 then (if bt223.1 = 9 then ((q_rule.f).bind fun bt233 => ((cycle_Check.f k t212 t213 t214 t215 t216 t217 bt233.1 bt233.2.1 bt233.2.2).bind fun t236 => (some (t236 == 0)))) else (none)) else (none)) else (none)) else (none)) else (none))) else (none))))) = some r := H
 have A2 := Aside0.mk A20
 clear A20
 replace H := Option.bind_eq_some_iff.mp H
 obtain ⟨⟨t220, t221, t222⟩, A30, H⟩ := H
 replace H : ((cycle_Left.f k t212 t213 t214 t215 t216 t217 t220 t221 t222).bind fun bt223 => ((q_panels.f k (⟨#[45, 45, 45, 45, 120]⟩ : ByteArray) (([1, 2, 2, 1, 1, 2, 2, 1, 0] : List Int))).bind fun t228 => (if t228 = true then ((q_forced.f k 2 (([1, 2, 1, 0, 0, 0, 0, 0, 0] : List Int))).bind fun t232 => (if t232 = true then (if t218 = 0 then (if t217 = true then (if bt223.2 = 0 then (if bt223.1 = 9 then ((q_rule.f).bind fun bt233 => ((cycle_Check.f k t212 t213 t214 t215 t216 t217 bt233.1 bt233.2.1 bt233.2.2).bind fun t236 => (some (t236 == 0)))) else (none)) else (none)) else (none)) else (none)) else (none))) else (none)))) = some r := H
 have A3 := Aside0.mk A30
 clear A30
 replace H := Option.bind_eq_some_iff.mp H
 obtain ⟨⟨t223, t224⟩, A40, H⟩ := H
 replace H : ((q_panels.f k (⟨#[45, 45, 45, 45, 120]⟩ : ByteArray) (([1, 2, 2, 1, 1, 2, 2, 1, 0] : List Int))).bind fun t228 => (if t228 = true then ((q_forced.f k 2 (([1, 2, 1, 0, 0, 0, 0, 0, 0] : List Int))).bind fun t232 => (if t232 = true then (if t218 = 0 then (if t217 = true then (if t224 = 0 then (if t223 = 9 then ((q_rule.f).bind fun bt233 => ((cycle_Check.f k t212 t213 t214 t215 t216 t217 bt233.1 bt233.2.1 bt233.2.2).bind fun t236 => (some (t236 == 0)))) else (none)) else (none)) else (none)) else (none)) else (none))) else (none))) = some r := H
 have A4 := Aside0.mk A40
 clear A40
 obtain ⟨y225, hy225⟩ : ∃ y_ : List Int, y_ = (([1, 2, 2, 1, 1, 2, 2, 1, 0] : List Int)) := ⟨_, rfl⟩
 replace H : ((q_panels.f k (⟨#[45, 45, 45, 45, 120]⟩ : ByteArray) y225).bind fun t228 => (if t228 = true then ((q_forced.f k 2 (([1, 2, 1, 0, 0, 0, 0, 0, 0] : List Int))).bind fun t232 => (if t232 = true then (if t218 = 0 then (if t217 = true then (if t224 = 0 then (if t223 = 9 then ((q_rule.f).bind fun bt233 => ((cycle_Check.f k t212 t213 t214 t215 t216 t217 bt233.1 bt233.2.1 bt233.2.2).bind fun t236 => (some (t236 == 0)))) else (none)) else (none)) else (none)) else (none)) else (none))) else (none))) = some r := by first | (rw [hy225]; with_reducible exact H) | (have H2_ := (Option.bind_some _ _).symm.trans H; rw [hy225]; with_reducible exact H2_) | (have H2_ := (Option.bind_some _ _).symm.trans H; with_reducible exact H2_) | with_reducible exact H | (rw [hy225]; exact H) | exact H
 have Ny225 := Aside0.mk hy225
 clear hy225
 replace H := Option.bind_eq_some_iff.mp H
 obtain ⟨t228, A50, H⟩ := H
 replace H : (if t228 = true then ((q_forced.f k 2 (([1, 2, 1, 0, 0, 0, 0, 0, 0] : List Int))).bind fun t232 => (if t232 = true then (if t218 = 0 then (if t217 = true then (if t224 = 0 then (if t223 = 9 then ((q_rule.f).bind fun bt233 => ((cycle_Check.f k t212 t213 t214 t215 t216 t217 bt233.1 bt233.2.1 bt233.2.2).bind fun t236 => (some (t236 == 0)))) else (none)) else (none)) else (none)) else (none)) else (none))) else (none)) = some r := H
 have A5 := Aside0.mk A50
 clear A50
 by_cases c6 : t228 = true
 ·subst c6
  have H1 : ((q_forced.f k 2 (([1, 2, 1, 0, 0, 0, 0, 0, 0] : List Int))).bind fun t232 => (if t232 = true then (if t218 = 0 then (if t217 = true then (if t224 = 0 then (if t223 = 9 then ((q_rule.f).bind fun bt233 => ((cycle_Check.f k t212 t213 t214 t215 t216 t217 bt233.1 bt233.2.1 bt233.2.2).bind fun t236 => (some (t236 == 0)))) else (none)) else (none)) else (none)) else (none)) else (none))) = some r := by rw [if_pos rfl] at H; exact H
  clear H
  have H := H1
  clear H1
  obtain ⟨y229, hy229⟩ : ∃ y_ : List Int, y_ = (([1, 2, 1, 0, 0, 0, 0, 0, 0] : List Int)) := ⟨_, rfl⟩
  replace H : ((q_forced.f k 2 y229).bind fun t232 => (if t232 = true then (if t218 = 0 then (if t217 = true then (if t224 = 0 then (if t223 = 9 then ((q_rule.f).bind fun bt233 => ((cycle_Check.f k t212 t213 t214 t215 t216 t217 bt233.1 bt233.2.1 bt233.2.2).bind fun t236 => (some (t236 == 0)))) else (none)) else (none)) else (none)) else (none)) else (none))) = some r := by first | (rw [hy229]; with_reducible exact H) | (have H2_ := (Option.bind_some _ _).symm.trans H; rw [hy229]; with_reducible exact H2_) | (have H2_ := (Option.bind_some _ _).symm.trans H; with_reducible exact H2_) | with_reducible exact H | (rw [hy229]; exact H) | exact H
  have Ny229 := Aside0.mk hy229
  clear hy229
  replace H := Option.bind_eq_some_iff.mp H
  obtain ⟨t232, A70, H⟩ := H
  replace H : (if t232 = true then (if t218 = 0 then (if t217 = true then (if t224 = 0 then (if t223 = 9 then ((q_rule.f).bind fun bt233 => ((cycle_Check.f k t212 t213 t214 t215 t216 t217 bt233.1 bt233.2.1 bt233.2.2).bind fun t236 => (some (t236 == 0)))) else (none)) else (none)) else (none)) else (none)) else (none)) = some r := H
  have A7 := Aside0.mk A70
  clear A70
  by_cases c8 : t232 = true
  ·subst c8
   have H1 : (if t218 = 0 then (if t217 = true then (if t224 = 0 then (if t223 = 9 then ((q_rule.f).bind fun bt233 => ((cycle_Check.f k t212 t213 t214 t215 t216 t217 bt233.1 bt233.2.1 bt233.2.2).bind fun t236 => (some (t236 == 0)))) else (none)) else (none)) else (none)) else (none)) = some r := by rw [if_pos rfl] at H; exact H
   clear H
   have H := H1
   clear H1
   by_cases c9 : t218 = 0
   ·rw [if_pos c9] at H
    have c9b0 : (t218 == 0) = true := beq_iff_eq.mpr c9
    have c9b1 : (t218 != 0) = false := bne_eq_false_iff_eq.mpr c9
    clear c9
    by_cases c10 : t217 = true
    ·subst c10
     have H1 : (if t224 = 0 then (if t223 = 9 then ((q_rule.f).bind fun bt233 => ((cycle_Check.f k t212 t213 t214 t215 t216 true bt233.1 bt233.2.1 bt233.2.2).bind fun t236 => (some (t236 == 0)))) else (none)) else (none)) = some r := by rw [if_pos rfl] at H; exact H
     clear H
     have H := H1
     clear H1
     by_cases c11 : t224 = 0
     ·rw [if_pos c11] at H
      have c11b0 : (t224 == 0) = true := beq_iff_eq.mpr c11
      have c11b1 : (t224 != 0) = false := bne_eq_false_iff_eq.mpr c11
      clear c11
      by_cases c12 : t223 = 9
      ·rw [if_pos c12] at H
       have c12b0 : (t223 == 9) = true := beq_iff_eq.mpr c12
       have c12b1 : (t223 != 9) = false := bne_eq_false_iff_eq.mpr c12
       clear c12
       replace H := Option.bind_eq_some_iff.mp H
       obtain ⟨⟨t233, t234, t235⟩, A130, H⟩ := H
       replace H : ((cycle_Check.f k t212 t213 t214 t215 t216 true t233 t234 t235).bind fun t236 => (some (t236 == 0))) = some r := H
       have A13 := Aside0.mk A130
       clear A130
       replace H := Option.bind_eq_some_iff.mp H
       obtain ⟨t236, A140, H⟩ := H
       replace H : (some (t236 == 0)) = some r := H
       have A14 := Aside0.mk A140
       clear A140
       obtain rfl := Option.some.inj H
       go_enter Try.func9, Try.ntmps9
       try go_wp2_with (first | ((with_reducible refine gate_callee (f := 17) rfl ?_); refine gsl (some 6) Try.func17 #[] ?_; (with_reducible refine (q_rule.calls  t209 t210 t211 _ A1.out).mono ?_); rintro e w15 ⟨rfl, hb⟩; refine ⟨_, rfl, ?_⟩; replace HB := Aside0.mk (bst HB.out hb); (try clear hb); (try clear hb2); (try clear hk); (try clear hi)) | ((with_reducible refine gate_callee (f := 20) rfl ?_); refine gsl (some 7) Try.func20 #[.agg #[.int .i64 t209, .int .i64 t210, .int .i64 t211], .bool false] ?_; (with_reducible refine (cycle_Begin.calls k t209 t210 t211 false t212 t213 t214 t215 t216 true t218 _ A2.out).mono ?_); rintro e w16 ⟨rfl, hb⟩; refine ⟨_, rfl, ?_⟩; replace HB := Aside0.mk (bst HB.out hb); (try clear hb); (try clear hb2); (try clear hk); (try clear hi)) | ((with_reducible refine gate_dst (N := 1) rfl ?_); (try (refine gate_guard (by rfl) ?_; dsimp only)); refine bxe (cs := #[.int .i64 0, .int .i64 0, .int .i64 0, .int .i64 0, .int .i64 0, .bool false]) (t := 39) ?_; intro gb219 hg w17 hbox hb; have BK219 := Aside0.mk (hbox); have GW219 := Aside0.mk (bge hg HB.out); have GE219 := Aside0.mk (bge hg HB.out); replace HB := Aside0.mk (bst HB.out hb); clear hb hbox hg; have hcz18_0 := cz6 BK219.out; have hfz18_0 := blk_frozen BK219.out))
       have n0_ : Aside0 (((((((w17.setCell ⟨gb219, 0, none⟩ (.int .i64 t212)).setCell ⟨gb219, 1, none⟩ (.int .i64 t213)).setCell ⟨gb219, 2, none⟩ (.int .i64 t214)).setCell ⟨gb219, 3, none⟩ (.int .i64 t215)).setCell ⟨gb219, 4, none⟩ (.int .i64 t216)).setCell ⟨gb219, 5, none⟩ (.bool true)).heap[gb219]? = some (.cells #[.int .i64 t212, .int .i64 t213, .int .i64 t214, .int .i64 t215, .int .i64 t216, .bool true] 39 (0, 0))) := ⟨bkt BK219.out⟩
       have n1_ : Aside0 (Below w.heap.size w ((((((w17.setCell ⟨gb219, 0, none⟩ (.int .i64 t212)).setCell ⟨gb219, 1, none⟩ (.int .i64 t213)).setCell ⟨gb219, 2, none⟩ (.int .i64 t214)).setCell ⟨gb219, 3, none⟩ (.int .i64 t215)).setCell ⟨gb219, 4, none⟩ (.int .i64 t216)).setCell ⟨gb219, 5, none⟩ (.bool true))) := ⟨bel HB.out⟩
       (try clear BK219)
       (try clear HB)
       generalize ((((((w17.setCell ⟨gb219, 0, none⟩ (.int .i64 t212)).setCell ⟨gb219, 1, none⟩ (.int .i64 t213)).setCell ⟨gb219, 2, none⟩ (.int .i64 t214)).setCell ⟨gb219, 3, none⟩ (.int .i64 t215)).setCell ⟨gb219, 4, none⟩ (.int .i64 t216)).setCell ⟨gb219, 5, none⟩ (.bool true)) = w19 at n0_ n1_ ⊢
       have BK219 := n0_
       have HB := n1_
       clear n0_ n1_
       have n0_ := Aside0.mk (blk_drew BK219.out)
       have n1_ := Aside0.mk (below_drew1 HB.out)
       clear BK219
       clear HB
       have BK219 := n0_
       have HB := n1_
       clear n0_ n1_
       refine start_ (n := 8) (S := fun w' => w'.cell? ⟨gb219, 0, none⟩ = some (.int .i64 t212) ∧ w'.cell? ⟨gb219, 1, none⟩ = some (.int .i64 t213) ∧ w'.cell? ⟨gb219, 2, none⟩ = some (.int .i64 t214) ∧ w'.cell? ⟨gb219, 3, none⟩ = some (.int .i64 t215) ∧ w'.cell? ⟨gb219, 4, none⟩ = some (.int .i64 t216) ∧ w'.cell? ⟨gb219, 5, none⟩ = some (.bool true)) (ds := []) #[false, false, false, false, false, false, false, false] (by kernel_rfl) rfl rfl ⟨(blk_cell BK219.out 0).trans rfl, (blk_cell BK219.out 1).trans rfl, (blk_cell BK219.out 2).trans rfl, (blk_cell BK219.out 3).trans rfl, (blk_cell BK219.out 4).trans rfl, (blk_cell BK219.out 5).trans rfl⟩ (fun hHeld => ?_); refine with_tabW q_awake.tab2 q_awake.bits2 (fun HT_ HW_ => ?_)
       generalize w19.drew = w20 at BK219 HB hHeld ⊢
       refine tkp 0 (some 11) #[true, false, false, false, false, false, false, false] HT_.out HW_.out hHeld ?_
       refine one_ (i := 1) (N := some 12) #[true, true, false, false, false, false, false, false] rfl rfl (one_of HT_.out (by kernel_rfl)) (by decide) (fun K hK => ?_)
       refine goes_ Try.func17 (by kernel_rfl) rfl #[] (by rfl) rfl rfl (by (try simp only [List.map_toArray, List.map_cons, List.map_nil]); first | done | rfl | (simp only [List.length_drop, List.length_take]; rfl)) ?_
       with_reducible refine (q_rule.calls  t220 t221 t222 _ A3.out).mono ?_
       rintro e w21 ⟨rfl, hb⟩
       refine ⟨_, rfl, ?_⟩
       have n0_ := Aside0.mk (bkb BK219.out hb)
       have n1_ := Aside0.mk (bst HB.out hb)
       clear BK219
       clear HB
       have BK219 := n0_
       have HB := n1_
       clear n0_ n1_
       (try clear hb)
       (try clear hb2)
       (try clear hk)
       (try clear hi)
       refine hK.out _ _ ⟨(blk_cell BK219.out 0).trans rfl, (blk_cell BK219.out 1).trans rfl, (blk_cell BK219.out 2).trans rfl, (blk_cell BK219.out 3).trans rfl, (blk_cell BK219.out 4).trans rfl, (blk_cell BK219.out 5).trans rfl⟩ (fun hHeld => ?_)
       clear hK K
       refine norm_ (a' := ?_) ?_ ?_
       rotate_left
       ·show Act.put _ (some 12) _ = _
        simp only [Act.put, List.setIfInBounds_toArray, List.set_cons_zero, List.set_cons_succ, i64_w, i32_w]
        rfl
       refine one_ (i := 2) (N := some 13) #[true, true, true, false, false, false, false, false] rfl rfl (one_of HT_.out (by kernel_rfl)) (by decide) (fun K hK => ?_)
       refine goes_ Try.func24 (by kernel_rfl) rfl #[.agg #[.int .i64 t212, .int .i64 t213, .int .i64 t214, .int .i64 t215, .int .i64 t216, .bool true], .agg #[.int .i64 t220, .int .i64 t221, .int .i64 t222]] (by rfl) rfl rfl (by (try simp only [List.map_toArray, List.map_cons, List.map_nil]); first | done | rfl | (simp only [List.length_drop, List.length_take]; rfl)) ?_
       with_reducible refine (cycle_Left.calls k t212 t213 t214 t215 t216 true t220 t221 t222 t223 t224 _ A4.out).mono ?_
       rintro e w22 ⟨rfl, hb⟩
       refine ⟨_, rfl, ?_⟩
       have n0_ := Aside0.mk (bkb BK219.out hb)
       have n1_ := Aside0.mk (bst HB.out hb)
       clear BK219
       clear HB
       have BK219 := n0_
       have HB := n1_
       clear n0_ n1_
       (try clear hb)
       (try clear hb2)
       (try clear hk)
       (try clear hi)
       refine hK.out _ _ ⟨(blk_cell BK219.out 0).trans rfl, (blk_cell BK219.out 1).trans rfl, (blk_cell BK219.out 2).trans rfl, (blk_cell BK219.out 3).trans rfl, (blk_cell BK219.out 4).trans rfl, (blk_cell BK219.out 5).trans rfl⟩ (fun hHeld => ?_)
       clear hK K
       refine norm_ (a' := ?_) ?_ ?_
       rotate_left
       ·show Act.put _ (some 13) _ = _
        simp only [Act.put, List.setIfInBounds_toArray, List.set_cons_zero, List.set_cons_succ, i64_w, i32_w]
        rfl
       refine pur 3 (some 10) #[true, true, true, true, false, false, false, false] HT_.out ?_
       refine pur 4 (some 14) #[true, true, true, true, true, false, false, false] HT_.out ?_
       refine pur 5 (some 15) #[true, true, true, true, true, true, false, false] HT_.out ?_
       refine pur 6 (some 3) #[true, true, true, true, true, true, true, false] HT_.out ?_
       refine pur 7 (some 4) #[true, true, true, true, true, true, true, true] HT_.out ?_
       refine done_ (done_of HT_.out (by kernel_rfl)) ?_
       try go_wp2
       have n0_ := Aside0.mk (blk_drew BK219.out)
       have n1_ := Aside0.mk (below_drew1 HB.out)
       clear BK219
       clear HB
       have BK219 := n0_
       have HB := n1_
       clear n0_ n1_
       refine start_ (n := 29) (S := fun w' => w'.cell? ⟨gb219, 0, none⟩ = some (.int .i64 t212) ∧ w'.cell? ⟨gb219, 1, none⟩ = some (.int .i64 t213) ∧ w'.cell? ⟨gb219, 2, none⟩ = some (.int .i64 t214) ∧ w'.cell? ⟨gb219, 3, none⟩ = some (.int .i64 t215) ∧ w'.cell? ⟨gb219, 4, none⟩ = some (.int .i64 t216) ∧ w'.cell? ⟨gb219, 5, none⟩ = some (.bool true)) (ds := []) #[false, false, false, false, false, false, false, false, false, false, false, false, false, false, false, false, false, false, false, false, false, false, false, false, false, false, false, false, false] (by kernel_rfl) rfl rfl ⟨(blk_cell BK219.out 0).trans rfl, (blk_cell BK219.out 1).trans rfl, (blk_cell BK219.out 2).trans rfl, (blk_cell BK219.out 3).trans rfl, (blk_cell BK219.out 4).trans rfl, (blk_cell BK219.out 5).trans rfl⟩ (fun hHeld => ?_); refine with_tabW q_awake.tab3 q_awake.bits3 (fun HT_ HW_ => ?_)
       generalize w22.drew = w23 at BK219 HB hHeld ⊢
       refine one_ (i := 0) (N := some 16) (bm 29 1) rfl rfl (one_of HT_.out (by kernel_rfl)) (by decide) (fun K hK => ?_)
       refine Kd.R_lit_step (Kd.int .i64) _ 3 ?hg (N := 16) ?hd (xs := ([1, 2, 2, 1, 1, 2, 2, 1, 0] : List Int)) (inner := [.int .i64 1, .int .i64 2, .int .i64 2, .int .i64 1, .int .i64 1, .int .i64 2, .int .i64 2, .int .i64 1, .int .i64 0]) (ok := fun _ => True) (okp := fun _ => True) ?hr ?hp (fun _ hk => hk) trivial (Below.refl _ _) (Nat.le_refl _) (by simp) ?_; (case hd => rfl); (case hg => rfl); (case hr => first | (go_simp; done) | (go_simp; rfl)); (case hp => exact (Reps.one (show Kd.M (Kd.int .i64) _ _ _ 1 [.int .i64 1] from rfl) (Reps.one (show Kd.M (Kd.int .i64) _ _ _ 2 [.int .i64 2] from rfl) (Reps.one (show Kd.M (Kd.int .i64) _ _ _ 2 [.int .i64 2] from rfl) (Reps.one (show Kd.M (Kd.int .i64) _ _ _ 1 [.int .i64 1] from rfl) (Reps.one (show Kd.M (Kd.int .i64) _ _ _ 1 [.int .i64 1] from rfl) (Reps.one (show Kd.M (Kd.int .i64) _ _ _ 2 [.int .i64 2] from rfl) (Reps.one (show Kd.M (Kd.int .i64) _ _ _ 2 [.int .i64 2] from rfl) (Reps.one (show Kd.M (Kd.int .i64) _ _ _ 1 [.int .i64 1] from rfl) (Reps.one (show Kd.M (Kd.int .i64) _ _ _ 0 [.int .i64 0] from rfl) (Reps.none _ _)))))))))))
       intro v226 w24 ho25 hb hg_ hnew_
       clear hg_ hnew_
       (first | rw [← Ny225.out] at ho25 | (simp only [Int.reduceToNat] at ho25; rw [← Ny225.out] at ho25))
       have n0_ := Aside0.mk (Kd.R_lower ho25 (bsz HB.out))
       have n1_ := Aside0.mk (bkb BK219.out hb)
       have n2_ := Aside0.mk (bst HB.out hb)
       clear BK219
       clear HB
       have HO227 := n0_
       have BK219 := n1_
       have HB := n2_
       clear n0_ n1_ n2_
       clear hb ho25
       obtain ⟨Ao26, co26, eo26⟩ := Kd.R_slice HO227.out
       (first | subst eo26 | (injection eo26 with f1_ f2_ f3_; have f4_ := f1_.symm; have f5_ := f3_.symm; clear f1_ f2_ f3_; subst f4_; subst f5_))
       refine hK.out _ _ ⟨(blk_cell BK219.out 0).trans rfl, (blk_cell BK219.out 1).trans rfl, (blk_cell BK219.out 2).trans rfl, (blk_cell BK219.out 3).trans rfl, (blk_cell BK219.out 4).trans rfl, (blk_cell BK219.out 5).trans rfl⟩ (fun hHeld => ?_)
       clear hK K
       refine norm_ (a' := ?_) ?_ ?_
       rotate_left
       ·show Act.put _ (some 16) _ = _
        simp only [Act.put, List.setIfInBounds_toArray, List.set_cons_zero, List.set_cons_succ, i64_w, i32_w]
        rfl
       refine one_ (i := 1) (N := some 17) (bm 29 3) rfl rfl (one_of HT_.out (by kernel_rfl)) (by decide) (fun K hK => ?_)
       refine goes_ Try.func21 (by kernel_rfl) rfl #[.string (⟨#[45, 45, 45, 45, 120]⟩ : ByteArray), .slice Ao26 y225.length co26] (by rfl) rfl rfl (by (try simp only [List.map_toArray, List.map_cons, List.map_nil]); first | done | rfl | (simp only [List.length_drop, List.length_take]; rfl)) ?_
       with_reducible refine (q_panels.calls k (⟨#[45, 45, 45, 45, 120]⟩ : ByteArray) _ _ y225 true _ ?side1 ?side2 A5.out).mono ?_
       (case side1 => repeat (first | exact (Kd.R_reads' HO227.out).2.2 | (with_reducible refine Kd.C_alloc ?_ _) | (with_reducible refine Kd.C_drewN ?_ _) | (with_reducible refine Kd.C_drew ?_)))
       (case side2 => exact (Kd.R_reads' HO227.out).2.1)
       rintro e w27 ⟨rfl, hb⟩
       refine ⟨_, rfl, ?_⟩
       have n0_ := Aside0.mk (Kd.R_below (kdt HO227.out) hb)
       have n1_ := Aside0.mk (bkb BK219.out hb)
       have n2_ := Aside0.mk (bst HB.out hb)
       clear HO227
       clear BK219
       clear HB
       have HO227 := n0_
       have BK219 := n1_
       have HB := n2_
       clear n0_ n1_ n2_
       (try clear hb)
       (try clear hb2)
       (try clear hk)
       (try clear hi)
       refine hK.out _ _ ⟨(blk_cell BK219.out 0).trans rfl, (blk_cell BK219.out 1).trans rfl, (blk_cell BK219.out 2).trans rfl, (blk_cell BK219.out 3).trans rfl, (blk_cell BK219.out 4).trans rfl, (blk_cell BK219.out 5).trans rfl⟩ (fun hHeld => ?_)
       clear hK K
       refine norm_ (a' := ?_) ?_ ?_
       rotate_left
       ·show Act.put _ (some 17) _ = _
        simp only [Act.put, List.setIfInBounds_toArray, List.set_cons_zero, List.set_cons_succ, i64_w, i32_w]
        rfl
       refine pur 2 (some 18) (bm 29 7) HT_.out ?_
       refine one_ (i := 3) (N := some 19) (bm 29 15) rfl rfl (one_of HT_.out (by kernel_rfl)) (by decide) (fun K hK => ?_)
       refine Kd.R_lit_step (Kd.int .i64) _ 3 ?hg (N := 19) ?hd (xs := ([1, 2, 1, 0, 0, 0, 0, 0, 0] : List Int)) (inner := [.int .i64 1, .int .i64 2, .int .i64 1, .int .i64 0, .int .i64 0, .int .i64 0, .int .i64 0, .int .i64 0, .int .i64 0]) (ok := fun _ => True) (okp := fun _ => True) ?hr ?hp (fun _ hk => hk) trivial (Below.refl _ _) (Nat.le_refl _) (by simp) ?_; (case hd => rfl); (case hg => rfl); (case hr => first | (go_simp; done) | (go_simp; rfl)); (case hp => exact (Reps.one (show Kd.M (Kd.int .i64) _ _ _ 1 [.int .i64 1] from rfl) (Reps.one (show Kd.M (Kd.int .i64) _ _ _ 2 [.int .i64 2] from rfl) (Reps.one (show Kd.M (Kd.int .i64) _ _ _ 1 [.int .i64 1] from rfl) (Reps.one (show Kd.M (Kd.int .i64) _ _ _ 0 [.int .i64 0] from rfl) (Reps.one (show Kd.M (Kd.int .i64) _ _ _ 0 [.int .i64 0] from rfl) (Reps.one (show Kd.M (Kd.int .i64) _ _ _ 0 [.int .i64 0] from rfl) (Reps.one (show Kd.M (Kd.int .i64) _ _ _ 0 [.int .i64 0] from rfl) (Reps.one (show Kd.M (Kd.int .i64) _ _ _ 0 [.int .i64 0] from rfl) (Reps.one (show Kd.M (Kd.int .i64) _ _ _ 0 [.int .i64 0] from rfl) (Reps.none _ _)))))))))))
       intro v230 w28 ho29 hb hg_ hnew_
       clear hg_ hnew_
       (first | rw [← Ny229.out] at ho29 | (simp only [Int.reduceToNat] at ho29; rw [← Ny229.out] at ho29))
       have n0_ := Aside0.mk (Kd.R_elder' (kdt HO227.out) (Kd.R_base ho29) hb)
       have n1_ := Aside0.mk (Kd.R_lower (Kd.R_new' ho29 (Kd.R_lt (kdt HO227.out))) (bsz HB.out))
       have n2_ := Aside0.mk (bkb BK219.out hb)
       have n3_ := Aside0.mk (bst HB.out hb)
       clear HO227
       clear BK219
       clear HB
       have HO227 := n0_
       have HO231 := n1_
       have BK219 := n2_
       have HB := n3_
       clear n0_ n1_ n2_ n3_
       clear hb ho29
       obtain ⟨Ao30, co30, eo30⟩ := Kd.R_slice HO231.out
       (first | subst eo30 | (injection eo30 with f1_ f2_ f3_; have f4_ := f1_.symm; have f5_ := f3_.symm; clear f1_ f2_ f3_; subst f4_; subst f5_))
       refine hK.out _ _ ⟨(blk_cell BK219.out 0).trans rfl, (blk_cell BK219.out 1).trans rfl, (blk_cell BK219.out 2).trans rfl, (blk_cell BK219.out 3).trans rfl, (blk_cell BK219.out 4).trans rfl, (blk_cell BK219.out 5).trans rfl⟩ (fun hHeld => ?_)
       clear hK K
       refine norm_ (a' := ?_) ?_ ?_
       rotate_left
       ·show Act.put _ (some 19) _ = _
        simp only [Act.put, List.setIfInBounds_toArray, List.set_cons_zero, List.set_cons_succ, i64_w, i32_w]
        rfl
       refine one_ (i := 4) (N := some 20) (bm 29 31) rfl rfl (one_of HT_.out (by kernel_rfl)) (by decide) (fun K hK => ?_)
       refine goes_ Try.func22 (by kernel_rfl) rfl #[.int .i64 2, .slice Ao30 y229.length co30] (by rfl) rfl rfl (by (try simp only [List.map_toArray, List.map_cons, List.map_nil]); first | done | rfl | (simp only [List.length_drop, List.length_take]; rfl)) ?_
       with_reducible refine (q_forced.calls k 2 _ _ y229 true _ ?side1 ?side2 A7.out).mono ?_
       (case side1 => repeat (first | exact (Kd.R_reads' HO231.out).2.2 | (with_reducible refine Kd.C_alloc ?_ _) | (with_reducible refine Kd.C_drewN ?_ _) | (with_reducible refine Kd.C_drew ?_)))
       (case side2 => exact (Kd.R_reads' HO231.out).2.1)
       rintro e w31 ⟨rfl, hb⟩
       refine ⟨_, rfl, ?_⟩
       have n0_ := Aside0.mk (Kd.R_below (kdt HO227.out) hb)
       have n1_ := Aside0.mk (Kd.R_below (kdt HO231.out) hb)
       have n2_ := Aside0.mk (bkb BK219.out hb)
       have n3_ := Aside0.mk (bst HB.out hb)
       clear HO227
       clear HO231
       clear BK219
       clear HB
       have HO227 := n0_
       have HO231 := n1_
       have BK219 := n2_
       have HB := n3_
       clear n0_ n1_ n2_ n3_
       (try clear hb)
       (try clear hb2)
       (try clear hk)
       (try clear hi)
       refine hK.out _ _ ⟨(blk_cell BK219.out 0).trans rfl, (blk_cell BK219.out 1).trans rfl, (blk_cell BK219.out 2).trans rfl, (blk_cell BK219.out 3).trans rfl, (blk_cell BK219.out 4).trans rfl, (blk_cell BK219.out 5).trans rfl⟩ (fun hHeld => ?_)
       clear hK K
       refine norm_ (a' := ?_) ?_ ?_
       rotate_left
       ·show Act.put _ (some 20) _ = _
        simp only [Act.put, List.setIfInBounds_toArray, List.set_cons_zero, List.set_cons_succ, i64_w, i32_w]
        rfl
       refine pur 5 (some 21) (bm 29 63) HT_.out ?_
       refine pur 6 (some 22) (bm 29 127) HT_.out ?_
       refine pur 7 (some 23) (bm 29 255) HT_.out ?_
       refine pur 8 (some 24) (bm 29 511) HT_.out ?_
       refine pur 9 (some 25) (bm 29 1023) HT_.out ?_
       refine pur 10 (some 26) (bm 29 2047) HT_.out ?_
       refine pur 11 (some 27) (bm 29 4095) HT_.out ?_
       refine tkp 12 (some 28) (bm 29 8191) HT_.out HW_.out hHeld ?_
       refine pur 13 (some 29) (bm 29 16383) HT_.out ?_
       refine pur 14 (some 30) (bm 29 32767) HT_.out ?_
       refine pur 15 (some 31) (bm 29 65535) HT_.out ?_
       refine pur 16 (some 32) (bm 29 131071) HT_.out ?_
       refine pur 17 (some 33) (bm 29 262143) HT_.out ?_
       refine pur 18 (some 34) (bm 29 524287) HT_.out ?_
       refine pur 19 (some 35) (bm 29 1048575) HT_.out ?_
       refine pur 20 (some 36) (bm 29 2097151) HT_.out ?_
       refine pur 21 (some 37) (bm 29 4194303) HT_.out ?_
       refine pur 22 (some 38) (bm 29 8388607) HT_.out ?_
       refine tkp 23 (some 39) (bm 29 16777215) HT_.out HW_.out hHeld ?_
       refine one_ (i := 24) (N := some 40) (bm 29 33554431) rfl rfl (one_of HT_.out (by kernel_rfl)) (by decide) (fun K hK => ?_)
       refine goes_ Try.func17 (by kernel_rfl) rfl #[] (by rfl) rfl rfl (by (try simp only [List.map_toArray, List.map_cons, List.map_nil]); first | done | rfl | (simp only [List.length_drop, List.length_take]; rfl)) ?_
       with_reducible refine (q_rule.calls  t233 t234 t235 _ A13.out).mono ?_
       rintro e w32 ⟨rfl, hb⟩
       refine ⟨_, rfl, ?_⟩
       have n0_ := Aside0.mk (Kd.R_below (kdt HO227.out) hb)
       have n1_ := Aside0.mk (Kd.R_below (kdt HO231.out) hb)
       have n2_ := Aside0.mk (bkb BK219.out hb)
       have n3_ := Aside0.mk (bst HB.out hb)
       clear HO227
       clear HO231
       clear BK219
       clear HB
       have HO227 := n0_
       have HO231 := n1_
       have BK219 := n2_
       have HB := n3_
       clear n0_ n1_ n2_ n3_
       (try clear hb)
       (try clear hb2)
       (try clear hk)
       (try clear hi)
       refine hK.out _ _ ⟨(blk_cell BK219.out 0).trans rfl, (blk_cell BK219.out 1).trans rfl, (blk_cell BK219.out 2).trans rfl, (blk_cell BK219.out 3).trans rfl, (blk_cell BK219.out 4).trans rfl, (blk_cell BK219.out 5).trans rfl⟩ (fun hHeld => ?_)
       clear hK K
       refine norm_ (a' := ?_) ?_ ?_
       rotate_left
       ·show Act.put _ (some 40) _ = _
        simp only [Act.put, List.setIfInBounds_toArray, List.set_cons_zero, List.set_cons_succ, i64_w, i32_w]
        rfl
       refine one_ (i := 25) (N := some 41) (bm 29 67108863) rfl rfl (one_of HT_.out (by kernel_rfl)) (by decide) (fun K hK => ?_)
       refine goes_ Try.func19 (by kernel_rfl) rfl #[.agg #[.int .i64 t212, .int .i64 t213, .int .i64 t214, .int .i64 t215, .int .i64 t216, .bool true], .agg #[.int .i64 t233, .int .i64 t234, .int .i64 t235]] (by rfl) rfl rfl (by (try simp only [List.map_toArray, List.map_cons, List.map_nil]); first | done | rfl | (simp only [List.length_drop, List.length_take]; rfl)) ?_
       with_reducible refine (cycle_Check.calls k t212 t213 t214 t215 t216 true t233 t234 t235 t236 _ A14.out).mono ?_
       rintro e w33 ⟨rfl, hb⟩
       refine ⟨_, rfl, ?_⟩
       have n0_ := Aside0.mk (Kd.R_below (kdt HO227.out) hb)
       have n1_ := Aside0.mk (Kd.R_below (kdt HO231.out) hb)
       have n2_ := Aside0.mk (bkb BK219.out hb)
       have n3_ := Aside0.mk (bst HB.out hb)
       clear HO227
       clear HO231
       clear BK219
       clear HB
       have HO227 := n0_
       have HO231 := n1_
       have BK219 := n2_
       have HB := n3_
       clear n0_ n1_ n2_ n3_
       (try clear hb)
       (try clear hb2)
       (try clear hk)
       (try clear hi)
       refine hK.out _ _ ⟨(blk_cell BK219.out 0).trans rfl, (blk_cell BK219.out 1).trans rfl, (blk_cell BK219.out 2).trans rfl, (blk_cell BK219.out 3).trans rfl, (blk_cell BK219.out 4).trans rfl, (blk_cell BK219.out 5).trans rfl⟩ (fun hHeld => ?_)
       clear hK K
       refine norm_ (a' := ?_) ?_ ?_
       rotate_left
       ·show Act.put _ (some 41) _ = _
        simp only [Act.put, List.setIfInBounds_toArray, List.set_cons_zero, List.set_cons_succ, i64_w, i32_w]
        rfl
       refine pur 26 (some 42) (bm 29 134217727) HT_.out ?_
       refine pur 27 (some 43) (bm 29 268435455) HT_.out ?_
       refine pur 28 (some 0) (bm 29 536870911) HT_.out ?_
       refine done_ (done_of HT_.out (by kernel_rfl)) ?_
       try go_wp2
       go_ret
       exact bfin (bel HB.out)
      ·rw [if_neg c12] at H
       have c12b0 : (t223 == 9) = false := beq_eq_false_iff_ne.mpr c12
       have c12b1 : (t223 != 9) = true := bne_iff_ne.mpr c12
       exact absurd H (by simp)
     ·rw [if_neg c11] at H
      have c11b0 : (t224 == 0) = false := beq_eq_false_iff_ne.mpr c11
      have c11b1 : (t224 != 0) = true := bne_iff_ne.mpr c11
      exact absurd H (by simp)
    ·replace c10 := Bool.eq_false_iff.mpr c10
     subst c10
     have H1 : (none) = some r := by rw [if_neg (show ¬ (false = true) by decide)] at H; exact H
     clear H
     have H := H1
     clear H1
     exact absurd H (by simp)
   ·rw [if_neg c9] at H
    have c9b0 : (t218 == 0) = false := beq_eq_false_iff_ne.mpr c9
    have c9b1 : (t218 != 0) = true := bne_iff_ne.mpr c9
    exact absurd H (by simp)
  ·replace c8 := Bool.eq_false_iff.mpr c8
   subst c8
   have H1 : (none) = some r := by rw [if_neg (show ¬ (false = true) by decide)] at H; exact H
   clear H
   have H := H1
   clear H1
   exact absurd H (by simp)
 ·replace c6 := Bool.eq_false_iff.mpr c6
  subst c6
  have H1 : (none) = some r := by rw [if_neg (show ¬ (false = true) by decide)] at H; exact H
  clear H
  have H := H1
  clear H1
  exact absurd H (by simp)

end Go.Proofs.Ytmjmdnpenpdmhaa.P
