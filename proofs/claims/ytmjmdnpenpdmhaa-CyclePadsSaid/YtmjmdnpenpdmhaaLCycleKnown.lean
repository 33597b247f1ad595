-- Printed by wip/myprint.py of this repo (over the kit's printer). Not trusted: Lean checks it.
import Derived.Test.YtmjmdnpenpdmhaaP0
import Derived.Test.YtmjmdnpenpdmhaaE39
import Derived.Test.YtmjmdnpenpdmhaaP0cycle
import Derived.Test.YtmjmdnpenpdmhaaP0tipstafflaw19
import Derived.Test.YtmjmdnpenpdmhaaP2cycle
import Derived.Test.YtmjmdnpenpdmhaaP2cyclea
import Derived.Test.YtmjmdnpenpdmhaaP2tipstafflaw19
namespace Go.Proofs.Ytmjmdnpenpdmhaa.P
open Go.RowKit Go.Proofs.YtmjmdnpenpdmhaaW.PrintWords Go.Proofs.YtmjmdnpenpdmhaaW.PrintLast Go.Proofs.YtmjmdnpenpdmhaaW.PrintMore
attribute [local go_sem] cell_same1 cell_some1
attribute [local go_sem] max2_int min2_int max_two min_two max_three min_three max_four min_four   -- for this text's walks alone
set_option linter.unusedVariables false
set_option linter.unusedSimpArgs false

attribute [local go_sem high] eqA39
/-! ### q_CycleKnown: function 4 -/
def q_CycleKnown.l0 : Nat → Int → Int → Int → Int → Int → Int → Int → Int → Int → Int → Int → Bool → Option (Bool)
 | 0, _, _, _, _, _, _, _, _, _, _, _, _ => none
 | k + 1, x2, x5, x6, x8, x10, x11, x533000, x533001, x533002, x533003, x533004, x533005 => if x11 < 3 then ((q_rule.f).bind fun bt533 => ((cycle_Step.f k x533000 x533001 x533002 x533003 x533004 x533005 bt533.1 bt533.2.1 bt533.2.2 true).bind fun bt536 => (if bt536.2.2.2.2.2.2.2 = 0 then (if bt536.2.2.2.2.2.2.1 = true then (none) else (q_CycleKnown.l0 k x2 x5 x6 x8 x10 (wrap64 (x11 + 1)) bt536.1 bt536.2.1 bt536.2.2.1 bt536.2.2.2.1 bt536.2.2.2.2.1 bt536.2.2.2.2.2.1)) else (none)))) else ((q_panels.f k (⟨#[]⟩ : ByteArray) (([1, 2, 2, 1, 0, 0, 0, 0, 0] : List Int))).bind fun t548 => (if t548 = true then ((q_panels.f k (⟨#[45, 45, 45, 120]⟩ : ByteArray) (([1, 2, 2, 2, 2, 1, 0, 0, 0] : List Int))).bind fun t552 => (if t552 = true then ((q_panels.f k (⟨#[45, 45, 45, 120, 120, 120]⟩ : ByteArray) (([1, 2, 2, 2, 2, 1, 0, 0, 0] : List Int))).bind fun t556 => (if t556 = true then ((q_awake.f k).bind fun t557 => (if t557 = true then ((q_forced.f k 1 (([1, 0, 0, 0, 0, 0, 0, 0, 0] : List Int))).bind fun t561 => (if t561 = true then ((q_forced.f k 0 (([0, 0, 0, 0, 0, 0, 0, 0, 0] : List Int))).bind fun t565 => (if t565 = true then (if x2 = 2 then (if x5 = 9 then (if x6 = 3 then (if x8 = 4 then (if x10 = 0 then (some ((x533000 == 0 && (x533001 == 0 && (x533002 == 0 && (x533003 == 0)))) && (x533004 == 3 && (x533005)))) else (none)) else (none)) else (none)) else (none)) else (none)) else (none))) else (none))) else (none))) else (none))) else (none))) else (none)))
def q_CycleKnown.f (k : Nat)  : Option (Bool) := (q_rule.f).bind fun bt489 => ((cycle_Forced.f bt489.1 bt489.2.1 bt489.2.2 ([] : List Bool) 9).bind fun bt492 => ((q_rule.f).bind fun bt496 => ((cycle_Step.f k 0 0 0 0 9 true bt496.1 bt496.2.1 bt496.2.2 false).bind fun bt499 => ((q_rule.f).bind fun bt508 => ((cycle_Check.f k 1 0 0 0 9 false bt508.1 bt508.2.1 bt508.2.2).bind fun t511 => ((q_rule.f).bind fun bt512 => ((cycle_Panels.f bt512.1 bt512.2.1 bt512.2.2 (List.replicate 10 false)).bind fun bt518 => ((q_rule.f).bind fun bt522 => ((cycle_Begin.f k bt522.1 bt522.2.1 bt522.2.2 false).bind fun bt525 => (q_CycleKnown.l0 k bt492.2 bt499.2.2.2.2.2.2.2 t511 bt518.2 bt525.2.2.2.2.2.2 0 bt525.1 bt525.2.1 bt525.2.2.1 bt525.2.2.2.1 bt525.2.2.2.2.1 bt525.2.2.2.2.2.1))))))))))
theorem q_CycleKnown.mono_l : ∀ k, (∀ y0 y1 y2 y3 y4 y5 y6 y7 y8 y9 y10 y11, LeO (q_CycleKnown.l0 k y0 y1 y2 y3 y4 y5 y6 y7 y8 y9 y10 y11) (q_CycleKnown.l0 (k + 1) y0 y1 y2 y3 y4 y5 y6 y7 y8 y9 y10 y11))
 | 0 => fun _ _ _ _ _ _ _ _ _ _ _ _ r h => by simp [q_CycleKnown.l0] at h
 | k + 1 => by
  have ih0 := q_CycleKnown.mono_l k
  ·intro y0 y1 y2 y3 y4 y5 y6 y7 y8 y9 y10 y11
   unfold q_CycleKnown.l0
   repeat' first
   | (with_reducible exact ih0 _ _ _ _ _ _ _ _ _ _ _ _)
   | (with_reducible exact cycle_Begin.mono _ _ _ _ _)
   | (with_reducible exact cycle_Check.mono _ _ _ _ _ _ _ _ _ _)
   | (with_reducible exact cycle_Step.mono _ _ _ _ _ _ _ _ _ _ _)
   | (with_reducible exact q_awake.mono _)
   | (with_reducible exact q_forced.mono _ _ _)
   | (with_reducible exact q_panels.mono _ _ _)
   | (with_reducible exact LeO.refl _)
   | (with_reducible exact LeO.none _)
   | (with_reducible refine LeO.ite ?_ ?_)
   | (with_reducible refine LeO.bind ?_ (fun _ => ?_))
   | exact ih0 _ _ _ _ _ _ _ _ _ _ _ _
   | exact cycle_Begin.mono _ _ _ _ _
   | exact cycle_Check.mono _ _ _ _ _ _ _ _ _ _
   | exact cycle_Step.mono _ _ _ _ _ _ _ _ _ _ _
   | exact q_awake.mono _
   | exact q_forced.mono _ _ _
   | exact q_panels.mono _ _ _
   | exact LeO.none _
   | refine LeO.ite ?_ ?_
   | refine LeO.bind ?_ (fun _ => ?_)
theorem q_CycleKnown.mono : ∀ k, LeO (q_CycleKnown.f k ) (q_CycleKnown.f (k + 1) ) := by
 intro  k
 have ih0 := q_CycleKnown.mono_l k
 unfold q_CycleKnown.f
 repeat' first
   | (with_reducible exact ih0 _ _ _ _ _ _ _ _ _ _ _ _)
   | (with_reducible exact cycle_Begin.mono _ _ _ _ _)
   | (with_reducible exact cycle_Check.mono _ _ _ _ _ _ _ _ _ _)
   | (with_reducible exact cycle_Step.mono _ _ _ _ _ _ _ _ _ _ _)
   | (with_reducible exact q_awake.mono _)
   | (with_reducible exact q_forced.mono _ _ _)
   | (with_reducible exact q_panels.mono _ _ _)
   | (with_reducible exact LeO.refl _)
   | (with_reducible exact LeO.none _)
   | (with_reducible refine LeO.ite ?_ ?_)
   | (with_reducible refine LeO.bind ?_ (fun _ => ?_))
   | exact ih0 _ _ _ _ _ _ _ _ _ _ _ _
   | exact cycle_Begin.mono _ _ _ _ _
   | exact cycle_Check.mono _ _ _ _ _ _ _ _ _ _
   | exact cycle_Step.mono _ _ _ _ _ _ _ _ _ _ _
   | exact q_awake.mono _
   | exact q_forced.mono _ _ _
   | exact q_panels.mono _ _ _
   | exact LeO.none _
   | refine LeO.ite ?_ ?_
   | refine LeO.bind ?_ (fun _ => ?_)
def q_CycleKnown.T4 : Bool × List (List Nat × List Nat) := (true, [([], []), ([], []), ([0, 1, 0], [0, 1]), ([2], [2]), ([3], [3]), ([3], [3]), ([4, 2, 0, 1, 2, 3, 4], [4]), ([5, 6, 0, 1, 2, 3, 4, 5, 6], [5])])
def q_CycleKnown.B4 : List Nat := [0, 0, 3, 7, 15, 15, 31, 127]
theorem q_CycleKnown.tab4 : rtab .any (opsOf Try.f4 4) = q_CycleKnown.T4 := by kernel_rfl
theorem q_CycleKnown.bits4 : waitsOk q_CycleKnown.T4.2 q_CycleKnown.B4 = true := by kernel_rfl
def q_CycleKnown.T9 : Bool × List (List Nat × List Nat) := (true, [([], []), ([], []), ([0, 1, 1], [0, 1]), ([2], [2]), ([3], [3]), ([3], [3]), ([3], [3]), ([], []), ([7, 4, 2, 0, 1, 2, 3, 4, 7], [4, 7]), ([5, 8, 0, 1, 2, 3, 4, 5, 7, 8], [5]), ([6, 9, 0, 1, 2, 3, 4, 5, 6, 7, 8, 9], [6])])
def q_CycleKnown.B9 : List Nat := [0, 0, 3, 7, 15, 15, 15, 0, 159, 447, 1023]
theorem q_CycleKnown.tab9 : rtab .any (opsOf Try.f4 9) = q_CycleKnown.T9 := by kernel_rfl
theorem q_CycleKnown.bits9 : waitsOk q_CycleKnown.T9.2 q_CycleKnown.B9 = true := by kernel_rfl
set_option maxHeartbeats 8000000 in
set_option maxRecDepth 100000 in
theorem q_CycleKnown.calls (k : Nat)  (r : Bool) (w : World) (h : q_CycleKnown.f k  = some r) :
  Calls Try.prog 4 #[] w fun e w' => e = .returned (.bool r) ∧ Below w.heap.size w w' := by
 have hu39 := Try.underlying39
 have hu37 := Try.underlying37
 have HB := Aside0.mk (Below.refl w.heap.size w)
 have H : ((q_rule.f).bind fun bt489 => ((cycle_Forced.f bt489.1 bt489.2.1 bt489.2.2 ([] : List Bool) 9).bind fun bt492 => ((q_rule.f).bind fun bt496 => ((cycle_Step.f k 0 0 0 0 9 true bt496.1 bt496.2.1 bt496.2.2 false).bind fun bt499 => ((q_rule.f).bind fun bt508 => ((cycle_Check.f k 1 0 0 0 9 false bt508.1 bt508.2.1 bt508.2.2).bind fun t511 => ((q_rule.f).bind fun bt512 => ((cycle_Panels.f bt512.1 bt512.2.1 bt512.2.2 (List.replicate 10 false)).bind fun bt518 => ((q_rule.f).bind fun bt522 => ((cycle_Begin.f k bt522.1 bt522.2.1 bt522.2.2 false).bind fun bt525 => (q_CycleKnown.l0 k bt492.2 bt499.2.2.2.2.2.2.2 t511 bt518.2 bt525.2.2.2.2.2.2 0 bt525.1 bt525.2.1 bt525.2.2.1 bt525.2.2.2.1 bt525.2.2.2.2.1 bt525.2.2.2.2.2.1))))))))))) = some r := h
 clear h
 replace H := Option.bind_eq_some_iff.mp H
 obtain ⟨⟨t489, t490, t491⟩, A10, H⟩ := H
 replace H : ((cycle_Forced.f t489 t490 t491 ([] : List Bool) 9).bind fun bt492 => ((q_rule.f).bind fun bt496 => ((cycle_Step.f k 0 0 0 0 9 true bt496.1 bt496.2.1 bt496.2.2 false).bind fun bt499 => ((q_rule.f).bind fun bt508 => ((cycle_Check.f k 1 0 0 0 9 false bt508.1 bt508.2.1 bt508.2.2).bind fun t511 => ((q_rule.f).bind fun bt512 => ((cycle_Panels.f bt512.1 bt512.2.1 bt512.2.2 (List.replicate 10 false)).bind fun bt518 => ((q_rule.f).bind fun bt522 => ((cycle_Begin.f k bt522.1 bt522.2.1 bt522.2.2 false).bind fun bt525 => (q_CycleKnown.l0 k bt492.2 bt499.2.2.2.2.2.2.2 t511 bt518.2 bt525.2.2.2.2.2.2 0 bt525.1 bt525.2.1 bt525.2.2.1 bt525.2.2.2.1 bt525.2.2.2.2.1 bt525.2.2.2.2.2.1)))))))))) = some r := H
 have A1 := Aside0.mk A10
 clear A10
 replace H := Option.bind_eq_some_iff.mp H
 obtain ⟨⟨t492, t495⟩, A20, H⟩ := H
 replace H : ((q_rule.f).bind fun bt496 => ((cycle_Step.f k 0 0 0 0 9 true bt496.1 bt496.2.1 bt496.2.2 false).bind fun bt499 => ((q_rule.f).bind fun bt508 => ((cycle_Check.f k 1 0 0 0 9 false bt508.1 bt508.2.1 bt508.2.2).bind fun t511 => ((q_rule.f).bind fun bt512 => ((cycle_Panels.f bt512.1 bt512.2.1 bt512.2.2 (List.replicate 10 false)).bind fun bt518 => ((q_rule.f).bind fun bt522 => ((cycle_Begin.f k bt522.1 bt522.2.1 bt522.2.2 false).bind fun bt525 => (q_CycleKnown.l0 k t495 bt499.2.2.2.2.2.2.2 t511 bt518.2 bt525.2.2.2.2.2.2 0 bt525.1 bt525.2.1 bt525.2.2.1 bt525.2.2.2.1 bt525.2.2.2.2.1 bt525.2.2.2.2.2.1))))))))) = some r := H
 have A2 := Aside0.mk A20
 clear A20
 replace H := Option.bind_eq_some_iff.mp H
 obtain ⟨⟨t496, t497, t498⟩, A30, H⟩ := H
 replace H : ((cycle_Step.f k 0 0 0 0 9 true t496 t497 t498 false).bind fun bt499 => ((q_rule.f).bind fun bt508 => ((cycle_Check.f k 1 0 0 0 9 false bt508.1 bt508.2.1 bt508.2.2).bind fun t511 => ((q_rule.f).bind fun bt512 => ((cycle_Panels.f bt512.1 bt512.2.1 bt512.2.2 (List.replicate 10 false)).bind fun bt518 => ((q_rule.f).bind fun bt522 => ((cycle_Begin.f k bt522.1 bt522.2.1 bt522.2.2 false).bind fun bt525 => (q_CycleKnown.l0 k t495 bt499.2.2.2.2.2.2.2 t511 bt518.2 bt525.2.2.2.2.2.2 0 bt525.1 bt525.2.1 bt525.2.2.1 bt525.2.2.2.1 bt525.2.2.2.2.1 bt525.2.2.2.2.2.1)))))))) = some r := H
 have A3 := Aside0.mk A30
 clear A30
 replace H := Option.bind_eq_some_iff.mp H
 obtain ⟨⟨t499, t500, t501, t502, t503, t504, t505, t506⟩, A40, H⟩ := H
 replace H : ((q_rule.f).bind fun bt508 => ((cycle_Check.f k 1 0 0 0 9 false bt508.1 bt508.2.1 bt508.2.2).bind fun t511 => ((q_rule.f).bind fun bt512 => ((cycle_Panels.f bt512.1 bt512.2.1 bt512.2.2 (List.replicate 10 false)).bind fun bt518 => ((q_rule.f).bind fun bt522 => ((cycle_Begin.f k bt522.1 bt522.2.1 bt522.2.2 false).bind fun bt525 => (q_CycleKnown.l0 k t495 t506 t511 bt518.2 bt525.2.2.2.2.2.2 0 bt525.1 bt525.2.1 bt525.2.2.1 bt525.2.2.2.1 bt525.2.2.2.2.1 bt525.2.2.2.2.2.1))))))) = some r := H
 have A4 := Aside0.mk A40
 clear A40
 replace H := Option.bind_eq_some_iff.mp H
 obtain ⟨⟨t508, t509, t510⟩, A50, H⟩ := H
 replace H : ((cycle_Check.f k 1 0 0 0 9 false t508 t509 t510).bind fun t511 => ((q_rule.f).bind fun bt512 => ((cycle_Panels.f bt512.1 bt512.2.1 bt512.2.2 (List.replicate 10 false)).bind fun bt518 => ((q_rule.f).bind fun bt522 => ((cycle_Begin.f k bt522.1 bt522.2.1 bt522.2.2 false).bind fun bt525 => (q_CycleKnown.l0 k t495 t506 t511 bt518.2 bt525.2.2.2.2.2.2 0 bt525.1 bt525.2.1 bt525.2.2.1 bt525.2.2.2.1 bt525.2.2.2.2.1 bt525.2.2.2.2.2.1)))))) = some r := H
 have A5 := Aside0.mk A50
 clear A50
 replace H := Option.bind_eq_some_iff.mp H
 obtain ⟨t511, A60, H⟩ := H
 replace H : ((q_rule.f).bind fun bt512 => ((cycle_Panels.f bt512.1 bt512.2.1 bt512.2.2 (List.replicate 10 false)).bind fun bt518 => ((q_rule.f).bind fun bt522 => ((cycle_Begin.f k bt522.1 bt522.2.1 bt522.2.2 false).bind fun bt525 => (q_CycleKnown.l0 k t495 t506 t511 bt518.2 bt525.2.2.2.2.2.2 0 bt525.1 bt525.2.1 bt525.2.2.1 bt525.2.2.2.1 bt525.2.2.2.2.1 bt525.2.2.2.2.2.1))))) = some r := H
 have A6 := Aside0.mk A60
 clear A60
 replace H := Option.bind_eq_some_iff.mp H
 obtain ⟨⟨t512, t513, t514⟩, A70, H⟩ := H
 replace H : ((cycle_Panels.f t512 t513 t514 (List.replicate 10 false)).bind fun bt518 => ((q_rule.f).bind fun bt522 => ((cycle_Begin.f k bt522.1 bt522.2.1 bt522.2.2 false).bind fun bt525 => (q_CycleKnown.l0 k t495 t506 t511 bt518.2 bt525.2.2.2.2.2.2 0 bt525.1 bt525.2.1 bt525.2.2.1 bt525.2.2.2.1 bt525.2.2.2.2.1 bt525.2.2.2.2.2.1)))) = some r := H
 have A7 := Aside0.mk A70
 clear A70
 obtain ⟨y515, hy515⟩ : ∃ y_ : List Bool, y_ = (List.replicate 10 false) := ⟨_, rfl⟩
 replace H : ((cycle_Panels.f t512 t513 t514 y515).bind fun bt518 => ((q_rule.f).bind fun bt522 => ((cycle_Begin.f k bt522.1 bt522.2.1 bt522.2.2 false).bind fun bt525 => (q_CycleKnown.l0 k t495 t506 t511 bt518.2 bt525.2.2.2.2.2.2 0 bt525.1 bt525.2.1 bt525.2.2.1 bt525.2.2.2.1 bt525.2.2.2.2.1 bt525.2.2.2.2.2.1)))) = some r := by first | (rw [hy515]; with_reducible exact H) | (have H2_ := (Option.bind_some _ _).symm.trans H; rw [hy515]; with_reducible exact H2_) | (have H2_ := (Option.bind_some _ _).symm.trans H; with_reducible exact H2_) | with_reducible exact H | (rw [hy515]; exact H) | exact H
 have Ny515 := Aside0.mk hy515
 clear hy515
 replace H := Option.bind_eq_some_iff.mp H
 obtain ⟨⟨t518, t521⟩, A80, H⟩ := H
 replace H : ((q_rule.f).bind fun bt522 => ((cycle_Begin.f k bt522.1 bt522.2.1 bt522.2.2 false).bind fun bt525 => (q_CycleKnown.l0 k t495 t506 t511 t521 bt525.2.2.2.2.2.2 0 bt525.1 bt525.2.1 bt525.2.2.1 bt525.2.2.2.1 bt525.2.2.2.2.1 bt525.2.2.2.2.2.1))) = some r := H
 have A8 := Aside0.mk A80
 clear A80
 replace H := Option.bind_eq_some_iff.mp H
 obtain ⟨⟨t522, t523, t524⟩, A90, H⟩ := H
 replace H : ((cycle_Begin.f k t522 t523 t524 false).bind fun bt525 => (q_CycleKnown.l0 k t495 t506 t511 t521 bt525.2.2.2.2.2.2 0 bt525.1 bt525.2.1 bt525.2.2.1 bt525.2.2.2.1 bt525.2.2.2.2.1 bt525.2.2.2.2.2.1)) = some r := H
 have A9 := Aside0.mk A90
 clear A90
 replace H := Option.bind_eq_some_iff.mp H
 obtain ⟨⟨t525, t526, t527, t528, t529, t530, t531⟩, A100, H⟩ := H
 replace H : (q_CycleKnown.l0 k t495 t506 t511 t521 t531 0 t525 t526 t527 t528 t529 t530) = some r := H
 have A10 := Aside0.mk A100
 clear A100
 have H' := Aside0.mk H
 clear H
 go_enter Try.func4, Try.ntmps4
 try go_wp2_with (first | ((with_reducible refine gate_callee (f := 17) rfl ?_); refine gsl (some 17) Try.func17 #[] ?_; (with_reducible refine (q_rule.calls  t489 t490 t491 _ A1.out).mono ?_); rintro e w11 ⟨rfl, hb⟩; refine ⟨_, rfl, ?_⟩; replace HB := Aside0.mk (bst HB.out hb); (try clear hb); (try clear hb2); (try clear hk); (try clear hi)) | ((with_reducible refine gate_callee (f := 13) rfl ?_); refine goesL_ (some 18) rfl rfl Try.func13 (by kernel_rfl) rfl #[.agg #[.int .i64 t489, .int .i64 t490, .int .i64 t491], .slice none 0 0, .int .i64 9] rfl (by (try simp only [List.map_toArray, List.map_cons, List.map_nil]); first | done | rfl | (simp only [List.length_drop, List.length_take]; rfl)) ?_; (refine (cycle_Forced.calls t489 t490 t491 _ _ ([] : List Bool) 9 t492 t495 _ ?side1 ?side2 A2.out).mono ?_); (case side1 => exact Kd.C_nil _ _); (case side2 => exact Nat.le_refl _); rintro e w12 ⟨v493, rfl, ho0, hb⟩; refine ⟨_, rfl, ?_⟩; have HO494 := Aside0.mk (Kd.R_lower ho0 (bsz HB.out)); replace HB := Aside0.mk (bst HB.out hb); (try clear hb); (try clear hb2); (try clear hk); (try clear hi); (try clear ho0)) | ((with_reducible refine gate_callee (f := 17) rfl ?_); refine gsl (some 23) Try.func17 #[] ?_; (with_reducible refine (q_rule.calls  t496 t497 t498 _ A3.out).mono ?_); rintro e w13 ⟨rfl, hb⟩; refine ⟨_, rfl, ?_⟩; replace HO494 := Aside0.mk (Kd.R_below (kdt HO494.out) hb); replace HB := Aside0.mk (bst HB.out hb); (try clear hb); (try clear hb2); (try clear hk); (try clear hi)) | ((with_reducible refine gate_callee (f := 18) rfl ?_); refine gsl (some 24) Try.func18 #[.agg #[.int .i64 0, .int .i64 0, .int .i64 0, .int .i64 0, .int .i64 9, .bool true], .agg #[.int .i64 t496, .int .i64 t497, .int .i64 t498], .bool false] ?_; (with_reducible refine (cycle_Step.calls k 0 0 0 0 9 true t496 t497 t498 false t499 t500 t501 t502 t503 t504 t505 t506 _ A4.out).mono ?_); rintro e w14 ⟨rfl, hb⟩; refine ⟨_, rfl, ?_⟩; replace HO494 := Aside0.mk (Kd.R_below (kdt HO494.out) hb); replace HB := Aside0.mk (bst HB.out hb); (try clear hb); (try clear hb2); (try clear hk); (try clear hi)) | ((with_reducible refine gate_dst (N := 3) rfl ?_); (try (refine gate_guard (by rfl) ?_; dsimp only)); refine bxe (cs := #[.int .i64 0, .int .i64 0, .int .i64 0, .int .i64 0, .int .i64 0, .bool false]) (t := 39) ?_; intro gb507 hg w15 hbox hb; have BK507 := Aside0.mk (hbox); have GW507 := Aside0.mk (bge hg HB.out); have GE507 := Aside0.mk (bge hg HB.out); replace HO494 := Aside0.mk (Kd.R_below (kdt HO494.out) hb); replace HB := Aside0.mk (bst HB.out hb); clear hb hbox hg; have hcz16_0 := cz6 BK507.out; have hfz16_0 := blk_frozen BK507.out) | ((with_reducible refine gate_callee (f := 17) rfl ?_); refine gsl (some 30) Try.func17 #[] ?_; (with_reducible refine (q_rule.calls  t508 t509 t510 _ A5.out).mono ?_); rintro e w17 ⟨rfl, hb⟩; refine ⟨_, rfl, ?_⟩; replace HO494 := Aside0.mk (Kd.R_below (by (with_reducible repeat (first | apply Kd.R_alloc | apply Kd.R_drewN | apply Kd.R_drew)); exact (Kd.R_mono (Kd.R_far (p := ⟨gb507, 5, none⟩) (Kd.R_far (p := ⟨gb507, 4, none⟩) (Kd.R_far (p := ⟨gb507, 3, none⟩) (Kd.R_far (p := ⟨gb507, 2, none⟩) (Kd.R_far (p := ⟨gb507, 1, none⟩) (Kd.R_far (p := ⟨gb507, 0, none⟩) (Kd.R_types HO494.out BK507.out (by decide)) (fun _ hk => hk.2) (.int .i64 t499)) (fun _ hk => hk.2) (.int .i64 t500)) (fun _ hk => hk.2) (.int .i64 t501)) (fun _ hk => hk.2) (.int .i64 t502)) (fun _ hk => hk.2) (.int .i64 t503)) (fun _ hk => hk.2) (.bool t504)) (fun _ h_ => h_.1))) hb); replace BK507 := Aside0.mk (blk_below (g := gb507) (o := .cells #[.int .i64 t499, .int .i64 t500, .int .i64 t501, .int .i64 t502, .int .i64 t503, .bool t504] 39 (0, 0)) (bkt BK507.out) hb); replace HB := Aside0.mk (bst HB.out hb); (try clear hb); (try clear hb2); (try clear hk); (try clear hi)) | ((with_reducible refine gate_callee (f := 19) rfl ?_); refine gsl (some 31) Try.func19 #[.agg #[.int .i64 1, .int .i64 0, .int .i64 0, .int .i64 0, .int .i64 9, .bool false], .agg #[.int .i64 t508, .int .i64 t509, .int .i64 t510]] ?_; (with_reducible refine (cycle_Check.calls k 1 0 0 0 9 false t508 t509 t510 t511 _ A6.out).mono ?_); rintro e w18 ⟨rfl, hb⟩; refine ⟨_, rfl, ?_⟩; replace HO494 := Aside0.mk (Kd.R_below (kdt HO494.out) hb); replace BK507 := Aside0.mk (bkb BK507.out hb); replace HB := Aside0.mk (bst HB.out hb); (try clear hb); (try clear hb2); (try clear hk); (try clear hi)))
 have n0_ := Aside0.mk (Kd.R_drew HO494.out)
 have n1_ := Aside0.mk (blk_drew BK507.out)
 have n2_ := Aside0.mk (below_drew1 HB.out)
 clear HO494
 clear BK507
 clear HB
 have HO494 := n0_
 have BK507 := n1_
 have HB := n2_
 clear n0_ n1_ n2_
 refine start_ (n := 8) (S := fun w' => True) (ds := []) #[false, false, false, false, false, false, false, false] (by kernel_rfl) rfl rfl trivial (fun hHeld => ?_); refine with_tabW q_CycleKnown.tab4 q_CycleKnown.bits4 (fun HT_ HW_ => ?_)
 generalize w18.drew = w19 at HO494 BK507 HB hHeld ⊢
 refine join_ (σ := Value) 6 #[true, true, false, false, false, false, false, false] (fun s_ => [(33, .agg #[.int .i64 t512, .int .i64 t513, .int .i64 t514]), (34, s_)]) (fun s_ w' => (Kd.R (Kd.int .i64) 3 w' w.heap.size (fun _ => True) v493 t492) ∧ (Kd.R Kd.bool 4 w' w.heap.size (fun _ => True) s_ y515) ∧ (w'.heap[gb507]? = some (.cells #[.int .i64 t499, .int .i64 t500, .int .i64 t501, .int .i64 t502, .int .i64 t503, .bool t504] 39 (0, 0))) ∧ (Below w.heap.size w w')) ?_ ?_
 rotate_left
 ·intro hCont
  refine two_ (i := 0) (j := 1) (Ni := some 33) (Nj := some 34) #[true, false, false, false, false, false, false, false] #[false, true, false, false, false, false, false, false] rfl rfl rfl rfl (two_of HT_.out (by kernel_rfl)) (by decide) (by decide) (fun K hK => ?_) (fun K hK => ?_)
  ·skip
   refine goes_ Try.func17 (by kernel_rfl) rfl #[] (by rfl) rfl rfl (by (try simp only [List.map_toArray, List.map_cons, List.map_nil]); first | done | rfl | (simp only [List.length_drop, List.length_take]; rfl)) ?_
   with_reducible refine (q_rule.calls  t512 t513 t514 _ A7.out).mono ?_
   rintro e w20 ⟨rfl, hb⟩
   refine ⟨_, rfl, ?_⟩
   have n0_ := Aside0.mk (Kd.R_below (kdt HO494.out) hb)
   have n1_ := Aside0.mk (bkb BK507.out hb)
   have n2_ := Aside0.mk (bst HB.out hb)
   clear HO494
   clear BK507
   clear HB
   have HO494 := n0_
   have BK507 := n1_
   have HB := n2_
   clear n0_ n1_ n2_
   (try clear hb)
   (try clear hb2)
   (try clear hk)
   (try clear hi)
   refine hK.out _ _ trivial (fun hHeld => ?_)
   clear hK K
   refine norm_ (a' := ?_) ?_ ?_
   rotate_left
   ·show Act.put _ (some 33) _ = _
    simp only [Act.put, List.setIfInBounds_toArray, List.set_cons_zero, List.set_cons_succ, i64_w, i32_w]
    rfl
   refine one_ (i := 1) (N := some 34) #[true, true, false, false, false, false, false, false] rfl rfl (one_of HT_.out (by kernel_rfl)) (by decide) (fun K hK => ?_)
   refine Kd.R_make_step Kd.bool _ 4 (by rfl) (N := 34) rfl 24 _ _ rfl 10 rfl rfl Try.underlying24 (.bool false) 1 info4 rfl (by decide) (by omega) false (ok := fun _ => True) (okp := fun _ => True) rfl (fun _ hk => hk) trivial (by omega) (by omega) (Below.refl _ _) (Nat.le_refl _) ?_
   intro v516 w21 ho22 hb hg_ hnew_
   clear hg_ hnew_
   (first | rw [← Ny515.out] at ho22 | (simp only [Int.reduceToNat] at ho22; rw [← Ny515.out] at ho22))
   have n0_ := Aside0.mk (Kd.R_below (kdt HO494.out) hb)
   have n1_ := Aside0.mk (Kd.R_lower ho22 (bsz HB.out))
   have n2_ := Aside0.mk (bkb BK507.out hb)
   have n3_ := Aside0.mk (bst HB.out hb)
   clear HO494
   clear BK507
   clear HB
   have HO494 := n0_
   have HO517 := n1_
   have BK507 := n2_
   have HB := n3_
   clear n0_ n1_ n2_ n3_
   clear hb ho22
   refine hK.out _ _ trivial (fun hHeld => ?_)
   clear hK K
   refine norm_ (a' := ?_) ?_ ?_
   rotate_left
   ·show Act.put _ (some 34) _ = _
    simp only [Act.put, List.setIfInBounds_toArray, List.set_cons_zero, List.set_cons_succ, i64_w, i32_w]
    rfl
   exact norm_ (by simp only [putAll, Act.put, List.setIfInBounds_toArray, List.set_cons_zero, List.set_cons_succ]) (hCont (v516) _ ⟨(kdt HO494.out), (kdt HO517.out), (bkt BK507.out), (bel HB.out)⟩)
  ·skip
   refine Kd.R_make_step Kd.bool _ 4 (by rfl) (N := 34) rfl 24 _ _ rfl 10 rfl rfl Try.underlying24 (.bool false) 1 info4 rfl (by decide) (by omega) false (ok := fun _ => True) (okp := fun _ => True) rfl (fun _ hk => hk) trivial (by omega) (by omega) (Below.refl _ _) (Nat.le_refl _) ?_
   intro v516 w20 ho21 hb hg_ hnew_
   clear hg_ hnew_
   (first | rw [← Ny515.out] at ho21 | (simp only [Int.reduceToNat] at ho21; rw [← Ny515.out] at ho21))
   have n0_ := Aside0.mk (Kd.R_below (kdt HO494.out) hb)
   have n1_ := Aside0.mk (Kd.R_lower ho21 (bsz HB.out))
   have n2_ := Aside0.mk (bkb BK507.out hb)
   have n3_ := Aside0.mk (bst HB.out hb)
   clear HO494
   clear BK507
   clear HB
   have HO494 := n0_
   have HO517 := n1_
   have BK507 := n2_
   have HB := n3_
   clear n0_ n1_ n2_ n3_
   clear hb ho21
   refine hK.out _ _ trivial (fun hHeld => ?_)
   clear hK K
   refine norm_ (a' := ?_) ?_ ?_
   rotate_left
   ·show Act.put _ (some 34) _ = _
    simp only [Act.put, List.setIfInBounds_toArray, List.set_cons_zero, List.set_cons_succ, i64_w, i32_w]
    rfl
   refine one_ (i := 0) (N := some 33) #[true, true, false, false, false, false, false, false] rfl rfl (one_of HT_.out (by kernel_rfl)) (by decide) (fun K hK => ?_)
   refine goes_ Try.func17 (by kernel_rfl) rfl #[] (by rfl) rfl rfl (by (try simp only [List.map_toArray, List.map_cons, List.map_nil]); first | done | rfl | (simp only [List.length_drop, List.length_take]; rfl)) ?_
   with_reducible refine (q_rule.calls  t512 t513 t514 _ A7.out).mono ?_
   rintro e w22 ⟨rfl, hb⟩
   refine ⟨_, rfl, ?_⟩
   have n0_ := Aside0.mk (Kd.R_below (kdt HO494.out) hb)
   have n1_ := Aside0.mk (Kd.R_below (kdt HO517.out) hb)
   have n2_ := Aside0.mk (bkb BK507.out hb)
   have n3_ := Aside0.mk (bst HB.out hb)
   clear HO494
   clear HO517
   clear BK507
   clear HB
   have HO494 := n0_
   have HO517 := n1_
   have BK507 := n2_
   have HB := n3_
   clear n0_ n1_ n2_ n3_
   (try clear hb)
   (try clear hb2)
   (try clear hk)
   (try clear hi)
   refine hK.out _ _ trivial (fun hHeld => ?_)
   clear hK K
   refine norm_ (a' := ?_) ?_ ?_
   rotate_left
   ·show Act.put _ (some 33) _ = _
    simp only [Act.put, List.setIfInBounds_toArray, List.set_cons_zero, List.set_cons_succ, i64_w, i32_w]
    rfl
   exact norm_ (by simp only [putAll, Act.put, List.setIfInBounds_toArray, List.set_cons_zero, List.set_cons_succ]) (hCont (v516) _ ⟨(kdt HO494.out), (kdt HO517.out), (bkt BK507.out), (bel HB.out)⟩)
 rintro v516 w23 ⟨h0_, h1_, h2_, h3_⟩
 have n0_ : Aside0 (Kd.R (Kd.int .i64) 3 w23 w.heap.size (fun _ => True) v493 t492) := ⟨h0_⟩
 have n1_ : Aside0 (Kd.R Kd.bool 4 w23 w.heap.size (fun _ => True) v516 y515) := ⟨h1_⟩
 have n2_ : Aside0 (w23.heap[gb507]? = some (.cells #[.int .i64 t499, .int .i64 t500, .int .i64 t501, .int .i64 t502, .int .i64 t503, .bool t504] 39 (0, 0))) := ⟨h2_⟩
 have n3_ : Aside0 (Below w.heap.size w w23) := ⟨h3_⟩
 clear HO494
 clear BK507
 clear HB
 clear h0_ h1_ h2_ h3_
 have HO494 := n0_
 have HO517 := n1_
 have BK507 := n2_
 have HB := n3_
 clear n0_ n1_ n2_ n3_
 have hHeld := trivial
 obtain ⟨Ao24, co24, eo24⟩ := Kd.R_slice HO517.out
 (first | subst eo24 | (injection eo24 with f1_ f2_ f3_; have f4_ := f1_.symm; have f5_ := f3_.symm; clear f1_ f2_ f3_; subst f4_; subst f5_))
 refine norm_ (a' := ?_) ?_ ?_
 rotate_left
 ·simp only [putAll, Act.put, List.setIfInBounds_toArray, List.set_cons_zero, List.set_cons_succ]
  rfl
 refine one_ (i := 2) (N := some 35) #[true, true, true, false, false, false, false, false] rfl rfl (one_of HT_.out (by kernel_rfl)) (by decide) (fun K hK => ?_)
 refine goes_ Try.func11 (by kernel_rfl) rfl #[.agg #[.int .i64 t512, .int .i64 t513, .int .i64 t514], .slice Ao24 y515.length co24] (by rfl) rfl rfl (by (try simp only [List.map_toArray, List.map_cons, List.map_nil]); first | done | rfl | (simp only [List.length_drop, List.length_take]; rfl)) ?_
 with_reducible refine (cycle_Panels.calls t512 t513 t514 _ _ y515 t518 t521 _ ?side1 ?side2 A8.out).mono ?_
 (case side1 => repeat (first | exact (Kd.R_reads' HO517.out).2.2 | (with_reducible refine Kd.C_alloc ?_ _) | (with_reducible refine Kd.C_drewN ?_ _) | (with_reducible refine Kd.C_drew ?_)))
 (case side2 => exact (Kd.R_reads' HO517.out).2.1)
 rintro e w25 ⟨v519, rfl, ho0, hb⟩
 refine ⟨_, rfl, ?_⟩
 have n0_ := Aside0.mk (Kd.R_elder' (kdt HO494.out) (Kd.R_base ho0) hb)
 have n1_ := Aside0.mk (Kd.R_below (kdt HO517.out) hb)
 have n2_ := Aside0.mk (Kd.R_lower (Kd.R_new' ho0 (Kd.R_lt (kdt HO494.out))) (bsz HB.out))
 have n3_ := Aside0.mk (bkb BK507.out hb)
 have n4_ := Aside0.mk (bst HB.out hb)
 clear HO494
 clear HO517
 clear BK507
 clear HB
 have HO494 := n0_
 have HO517 := n1_
 have HO520 := n2_
 have BK507 := n3_
 have HB := n4_
 clear n0_ n1_ n2_ n3_ n4_
 (try clear hb)
 (try clear hb2)
 (try clear hk)
 (try clear hi)
 (try clear ho0)
 refine hK.out _ _ trivial (fun hHeld => ?_)
 clear hK K
 refine norm_ (a' := ?_) ?_ ?_
 rotate_left
 ·show Act.put _ (some 35) _ = _
  simp only [Act.put, List.setIfInBounds_toArray, List.set_cons_zero, List.set_cons_succ, i64_w, i32_w]
  rfl
 refine pur 3 (some 32) #[true, true, true, true, false, false, false, false] HT_.out ?_
 refine pur 4 (some 36) #[true, true, true, true, true, false, false, false] HT_.out ?_
 refine pur 5 (some 37) #[true, true, true, true, true, true, false, false] HT_.out ?_
 refine pur 6 (some 7) #[true, true, true, true, true, true, true, false] HT_.out ?_
 refine pur 7 (some 8) #[true, true, true, true, true, true, true, true] HT_.out ?_
 refine done_ (done_of HT_.out (by kernel_rfl)) ?_
 try go_wp2_with (first | ((with_reducible refine gate_callee (f := 17) rfl ?_); refine gsl (some 39) Try.func17 #[] ?_; (with_reducible refine (q_rule.calls  t522 t523 t524 _ A9.out).mono ?_); rintro e w26 ⟨rfl, hb⟩; refine ⟨_, rfl, ?_⟩; replace HO494 := Aside0.mk (Kd.R_below (kdt HO494.out) hb); replace HO517 := Aside0.mk (Kd.R_below (kdt HO517.out) hb); replace HO520 := Aside0.mk (Kd.R_below (kdt HO520.out) hb); replace BK507 := Aside0.mk (bkb BK507.out hb); replace HB := Aside0.mk (bst HB.out hb); (try clear hb); (try clear hb2); (try clear hk); (try clear hi)) | ((with_reducible refine gate_callee (f := 20) rfl ?_); refine gsl (some 40) Try.func20 #[.agg #[.int .i64 t522, .int .i64 t523, .int .i64 t524], .bool false] ?_; (with_reducible refine (cycle_Begin.calls k t522 t523 t524 false t525 t526 t527 t528 t529 t530 t531 _ A10.out).mono ?_); rintro e w27 ⟨rfl, hb⟩; refine ⟨_, rfl, ?_⟩; replace HO494 := Aside0.mk (Kd.R_below (kdt HO494.out) hb); replace HO517 := Aside0.mk (Kd.R_below (kdt HO517.out) hb); replace HO520 := Aside0.mk (Kd.R_below (kdt HO520.out) hb); replace BK507 := Aside0.mk (bkb BK507.out hb); replace HB := Aside0.mk (bst HB.out hb); (try clear hb); (try clear hb2); (try clear hk); (try clear hi)) | ((with_reducible refine gate_dst (N := 9) rfl ?_); (try (refine gate_guard (by rfl) ?_; dsimp only)); refine bxe (cs := #[.int .i64 0, .int .i64 0, .int .i64 0, .int .i64 0, .int .i64 0, .bool false]) (t := 39) ?_; intro gb532 hg w28 hbox hb; have BK532 := Aside0.mk (hbox); have GW532 := Aside0.mk (bge hg HB.out); have GE532 := Aside0.mk (bge hg HB.out); have NB507_532 := Aside0.mk ((bkl hg BK507.out)); have NB532_507 := Aside0.mk ((bkg hg BK507.out)); replace HO494 := Aside0.mk (Kd.R_below (kdt HO494.out) hb); replace HO517 := Aside0.mk (Kd.R_below (kdt HO517.out) hb); replace HO520 := Aside0.mk (Kd.R_below (kdt HO520.out) hb); replace BK507 := Aside0.mk (bkb BK507.out hb); replace HB := Aside0.mk (bst HB.out hb); clear hb hbox hg; have hnb29 := NB532_507.out; have hnc29 := NB507_532.out; have hcz30_0 := cz6 BK532.out; have hfz30_0 := blk_frozen BK532.out))
 go_loopg [11] k (fun kq v11 w' => ∃ (x11_1 : Int) (x533000_1 : Int) (x533001_1 : Int) (x533002_1 : Int) (x533003_1 : Int) (x533004_1 : Int) (x533005_1 : Bool), v11 = .int .i64 x11_1 ∧ Aside0 (q_CycleKnown.l0 kq t495 t506 t511 t521 t531 x11_1 x533000_1 x533001_1 x533002_1 x533003_1 x533004_1 x533005_1 = some r) ∧ Aside0 (kq ≤ k) ∧ Aside0 (w'.heap[gb507]? = some (.cells #[.int .i64 t499, .int .i64 t500, .int .i64 t501, .int .i64 t502, .int .i64 t503, .bool t504] 39 (0, 0))) ∧ Aside0 (w'.heap[gb532]? = some (.cells #[.int .i64 x533000_1, .int .i64 x533001_1, .int .i64 x533002_1, .int .i64 x533003_1, .int .i64 x533004_1, .bool x533005_1] 39 (0, 0))) ∧ Aside0 (Below w.heap.size w w'))
 case atStart => exact ⟨(0), (t525), (t526), (t527), (t528), (t529), (t530), (by first | rfl | (simp; done) | (simp [*]; done)), H', ⟨Nat.le_refl _⟩, ⟨bkt BK507.out⟩, ⟨bkt BK532.out⟩, ⟨bel HB.out⟩⟩
 case round =>
  clear H'
  try clear c1
  try clear c2
  try clear p2
  try clear c4
  try clear c11
  try clear c13
  try clear c17
  try clear c18
  try clear c19
  try clear c20
  try clear c29
  try clear hcz16_0
  try clear hcz30_0
  try clear hfz16_0
  try clear hfz30_0
  obtain ⟨x11_1, x533000_1, x533001_1, x533002_1, x533003_1, x533004_1, x533005_1, rfl, HA, HK1, BK507, BK532, HB⟩ := hrel
  cases gk with
  | zero => exact absurd HA.out (by simp [q_CycleKnown.l0])
  | succ k1 =>
   have H := HA.out
   clear HA
   simp only [q_CycleKnown.l0] at H
   by_cases c31 : x11_1 < 3
   ·rw [if_pos c31] at H
    have c31b0 : decide (x11_1 < 3) = true := decide_eq_true c31
    clear c31
    replace H := Option.bind_eq_some_iff.mp H
    obtain ⟨⟨t533, t534, t535⟩, A320, H⟩ := H
    replace H : ((cycle_Step.f k1 x533000_1 x533001_1 x533002_1 x533003_1 x533004_1 x533005_1 t533 t534 t535 true).bind fun bt536 => (if bt536.2.2.2.2.2.2.2 = 0 then (if bt536.2.2.2.2.2.2.1 = true then (none) else (q_CycleKnown.l0 k1 t495 t506 t511 t521 t531 (wrap64 (x11_1 + 1)) bt536.1 bt536.2.1 bt536.2.2.1 bt536.2.2.2.1 bt536.2.2.2.2.1 bt536.2.2.2.2.2.1)) else (none))) = some r := H
    have A32 := Aside0.mk A320
    clear A320
    replace H := Option.bind_eq_some_iff.mp H
    obtain ⟨⟨t536, t537, t538, t539, t540, t541, t542, t543⟩, A330, H⟩ := H
    replace H : (if t543 = 0 then (if t542 = true then (none) else (q_CycleKnown.l0 k1 t495 t506 t511 t521 t531 (wrap64 (x11_1 + 1)) t536 t537 t538 t539 t540 t541)) else (none)) = some r := H
    have A33 := Aside0.mk A330
    clear A330
    by_cases c34 : t543 = 0
    ·rw [if_pos c34] at H
     have c34b0 : (t543 == 0) = true := beq_iff_eq.mpr c34
     have c34b1 : (t543 != 0) = false := bne_eq_false_iff_eq.mpr c34
     clear c34
     by_cases c35 : t542 = true
     ·subst c35
      have H1 : (none) = some r := by rw [if_pos rfl] at H; exact H
      clear H
      have H := H1
      clear H1
      exact absurd H (by simp)
     ·replace c35 := Bool.eq_false_iff.mpr c35
      subst c35
      have H1 : (q_CycleKnown.l0 k1 t495 t506 t511 t521 t531 (wrap64 (x11_1 + 1)) t536 t537 t538 t539 t540 t541) = some r := by rw [if_neg (show ¬ (false = true) by decide)] at H; exact H
      clear H
      have H := H1
      clear H1
      have H' := Aside0.mk H
      clear H
      try go_wp2
      have n0_ := Aside0.mk (blk_drew BK507.out)
      have n1_ := Aside0.mk (blk_drew BK532.out)
      have n2_ := Aside0.mk (below_drew1 HB.out)
      clear BK507
      clear BK532
      clear HB
      have BK507 := n0_
      have BK532 := n1_
      have HB := n2_
      clear n0_ n1_ n2_
      refine start_ (n := 11) (S := fun w' => w'.cell? ⟨gb532, 0, none⟩ = some (.int .i64 x533000_1) ∧ w'.cell? ⟨gb532, 1, none⟩ = some (.int .i64 x533001_1) ∧ w'.cell? ⟨gb532, 2, none⟩ = some (.int .i64 x533002_1) ∧ w'.cell? ⟨gb532, 3, none⟩ = some (.int .i64 x533003_1) ∧ w'.cell? ⟨gb532, 4, none⟩ = some (.int .i64 x533004_1) ∧ w'.cell? ⟨gb532, 5, none⟩ = some (.bool x533005_1)) (ds := []) #[false, false, false, false, false, false, false, false, false, false, false] (by kernel_rfl) rfl rfl ⟨(blk_cell BK532.out 0).trans rfl, (blk_cell BK532.out 1).trans rfl, (blk_cell BK532.out 2).trans rfl, (blk_cell BK532.out 3).trans rfl, (blk_cell BK532.out 4).trans rfl, (blk_cell BK532.out 5).trans rfl⟩ (fun hHeld => ?_); refine with_tabW q_CycleKnown.tab9 q_CycleKnown.bits9 (fun HT_ HW_ => ?_)
      generalize wr.drew = w36 at BK507 BK532 HB hHeld ⊢
      refine tkp 0 (some 48) (bm 11 1) HT_.out HW_.out hHeld ?_
      refine join_ (σ := Nat) 3 #[true, true, true, true, true, true, true, true, false, false, false] (fun s_ => [(49, .agg #[.int .i64 t533, .int .i64 t534, .int .i64 t535]), (50, .tuple #[.agg #[.int .i64 t536, .int .i64 t537, .int .i64 t538, .int .i64 t539, .int .i64 t540, .bool t541], .bool false, .int .i64 t543]), (12, .pointer (some ⟨s_, 0, none⟩)), (47, .tuple #[.agg #[.int .i64 t536, .int .i64 t537, .int .i64 t538, .int .i64 t539, .int .i64 t540, .bool t541], .bool false, .int .i64 t543]), (51, .agg #[.int .i64 t536, .int .i64 t537, .int .i64 t538, .int .i64 t539, .int .i64 t540, .bool t541]), (52, .bool false), (53, .int .i64 t543)]) (fun s_ w' => (w'.cell? ⟨gb532, 0, none⟩ = some (.int .i64 x533000_1) ∧ w'.cell? ⟨gb532, 1, none⟩ = some (.int .i64 x533001_1) ∧ w'.cell? ⟨gb532, 2, none⟩ = some (.int .i64 x533002_1) ∧ w'.cell? ⟨gb532, 3, none⟩ = some (.int .i64 x533003_1) ∧ w'.cell? ⟨gb532, 4, none⟩ = some (.int .i64 x533004_1) ∧ w'.cell? ⟨gb532, 5, none⟩ = some (.bool x533005_1)) ∧ (w'.heap[gb507]? = some (.cells #[.int .i64 t499, .int .i64 t500, .int .i64 t501, .int .i64 t502, .int .i64 t503, .bool t504] 39 (0, 0))) ∧ (w'.heap[gb532]? = some (.cells #[.int .i64 x533000_1, .int .i64 x533001_1, .int .i64 x533002_1, .int .i64 x533003_1, .int .i64 x533004_1, .bool x533005_1] 39 (0, 0))) ∧ (w'.heap[s_]? = some (.cells #[.int .i64 0, .int .i64 0, .int .i64 0, .int .i64 0, .int .i64 0, .bool false] 39 (0, 0))) ∧ (w.heap.size ≤ s_) ∧ (w.heap.size ≤ s_) ∧ (gb507 ≠ s_) ∧ (s_ ≠ gb507) ∧ (gb532 ≠ s_) ∧ (s_ ≠ gb532) ∧ (Below w.heap.size w w')) ?_ ?_
      rotate_left
      ·intro hCont
       refine two_ (i := 1) (j := 7) (Ni := some 49) (Nj := some 12) #[true, true, false, false, false, false, false, false, false, false, false] #[true, false, false, false, false, false, false, true, false, false, false] rfl rfl rfl rfl (two_of HT_.out (by kernel_rfl)) (by decide) (by decide) (fun K hK => ?_) (fun K hK => ?_)
       ·skip
        refine goes_ Try.func17 (by kernel_rfl) rfl #[] (by rfl) rfl rfl (by (try simp only [List.map_toArray, List.map_cons, List.map_nil]); first | done | rfl | (simp only [List.length_drop, List.length_take]; rfl)) ?_
        with_reducible refine (q_rule.calls  t533 t534 t535 _ A32.out).mono ?_
        rintro e w37 ⟨rfl, hb⟩
        refine ⟨_, rfl, ?_⟩
        have n0_ := Aside0.mk (bkb BK507.out hb)
        have n1_ := Aside0.mk (bkb BK532.out hb)
        have n2_ := Aside0.mk (bst HB.out hb)
        clear BK507
        clear BK532
        clear HB
        have BK507 := n0_
        have BK532 := n1_
        have HB := n2_
        clear n0_ n1_ n2_
        (try clear hb)
        (try clear hb2)
        (try clear hk)
        (try clear hi)
        refine hK.out _ _ ⟨(blk_cell BK532.out 0).trans rfl, (blk_cell BK532.out 1).trans rfl, (blk_cell BK532.out 2).trans rfl, (blk_cell BK532.out 3).trans rfl, (blk_cell BK532.out 4).trans rfl, (blk_cell BK532.out 5).trans rfl⟩ (fun hHeld => ?_)
        clear hK K
        refine norm_ (a' := ?_) ?_ ?_
        rotate_left
        ·show Act.put _ (some 49) _ = _
         simp only [Act.put, List.setIfInBounds_toArray, List.set_cons_zero, List.set_cons_succ, i64_w, i32_w]
         rfl
        refine two_ (i := 2) (j := 7) (Ni := some 50) (Nj := some 12) #[true, true, true, false, false, false, false, false, false, false, false] #[true, true, false, false, false, false, false, true, false, false, false] rfl rfl rfl rfl (two_of HT_.out (by kernel_rfl)) (by decide) (by decide) (fun K hK => ?_) (fun K hK => ?_)
        ·skip
         refine goes_ Try.func18 (by kernel_rfl) rfl #[.agg #[.int .i64 x533000_1, .int .i64 x533001_1, .int .i64 x533002_1, .int .i64 x533003_1, .int .i64 x533004_1, .bool x533005_1], .agg #[.int .i64 t533, .int .i64 t534, .int .i64 t535], .bool true] (by rfl) rfl rfl (by (try simp only [List.map_toArray, List.map_cons, List.map_nil]); first | done | rfl | (simp only [List.length_drop, List.length_take]; rfl)) ?_
         with_reducible refine (cycle_Step.calls k1 x533000_1 x533001_1 x533002_1 x533003_1 x533004_1 x533005_1 t533 t534 t535 true t536 t537 t538 t539 t540 t541 false t543 _ A33.out).mono ?_
         rintro e w38 ⟨rfl, hb⟩
         refine ⟨_, rfl, ?_⟩
         have n0_ := Aside0.mk (bkb BK507.out hb)
         have n1_ := Aside0.mk (bkb BK532.out hb)
         have n2_ := Aside0.mk (bst HB.out hb)
         clear BK507
         clear BK532
         clear HB
         have BK507 := n0_
         have BK532 := n1_
         have HB := n2_
         clear n0_ n1_ n2_
         (try clear hb)
         (try clear hb2)
         (try clear hk)
         (try clear hi)
         refine hK.out _ _ ⟨(blk_cell BK532.out 0).trans rfl, (blk_cell BK532.out 1).trans rfl, (blk_cell BK532.out 2).trans rfl, (blk_cell BK532.out 3).trans rfl, (blk_cell BK532.out 4).trans rfl, (blk_cell BK532.out 5).trans rfl⟩ (fun hHeld => ?_)
         clear hK K
         refine norm_ (a' := ?_) ?_ ?_
         rotate_left
         ·show Act.put _ (some 50) _ = _
          simp only [Act.put, List.setIfInBounds_toArray, List.set_cons_zero, List.set_cons_succ, i64_w, i32_w]
          rfl
         refine pur 3 (some 47) (bm 11 15) HT_.out ?_
         refine pur 4 (some 51) (bm 11 31) HT_.out ?_
         refine pur 5 (some 52) (bm 11 63) HT_.out ?_
         refine pur 6 (some 53) (bm 11 127) HT_.out ?_
         refine one_ (i := 7) (N := some 12) (bm 11 255) rfl rfl (one_of HT_.out (by kernel_rfl)) (by decide) (fun K hK => ?_)
         refine box_step ?hg (N := 12) ?hd (cs := #[.int .i64 0, .int .i64 0, .int .i64 0, .int .i64 0, .int .i64 0, .bool false]) (t := 39) ?hr ?_; (case hd => rfl); (case hg => rfl); (case hr => first | (go_simp; done) | (go_simp; rfl))
         intro gb544 hg w39 hbox hb
         have n0_ := Aside0.mk (bkb BK507.out hb)
         have n1_ := Aside0.mk (bkb BK532.out hb)
         have n2_ := Aside0.mk (bst HB.out hb)
         have n3_ := Aside0.mk (hbox)
         have n4_ := Aside0.mk (bge hg HB.out)
         have n5_ := Aside0.mk (bge hg HB.out)
         have n6_ := Aside0.mk ((bkl hg BK507.out))
         have n7_ := Aside0.mk ((bkg hg BK507.out))
         have n8_ := Aside0.mk ((bkl hg BK532.out))
         have n9_ := Aside0.mk ((bkg hg BK532.out))
         clear BK507
         clear BK532
         clear HB
         have BK507 := n0_
         have BK532 := n1_
         have HB := n2_
         have BK544 := n3_
         have GW544 := n4_
         have GE544 := n5_
         have NB507_544 := n6_
         have NB544_507 := n7_
         have NB532_544 := n8_
         have NB544_532 := n9_
         clear n0_ n1_ n2_ n3_ n4_ n5_ n6_ n7_ n8_ n9_
         clear hb hbox hg
         refine hK.out _ _ ⟨(blk_cell BK532.out 0).trans rfl, (blk_cell BK532.out 1).trans rfl, (blk_cell BK532.out 2).trans rfl, (blk_cell BK532.out 3).trans rfl, (blk_cell BK532.out 4).trans rfl, (blk_cell BK532.out 5).trans rfl⟩ (fun hHeld => ?_)
         clear hK K
         refine norm_ (a' := ?_) ?_ ?_
         rotate_left
         ·show Act.put _ (some 12) _ = _
          simp only [Act.put, List.setIfInBounds_toArray, List.set_cons_zero, List.set_cons_succ, i64_w, i32_w]
          rfl
         exact norm_ (by simp only [putAll, Act.put, List.setIfInBounds_toArray, List.set_cons_zero, List.set_cons_succ]) (hCont (gb544) _ ⟨hHeld, (bkt BK507.out), (bkt BK532.out), (bkt BK544.out), GW544.out, GE544.out, NB507_544.out, NB544_507.out, NB532_544.out, NB544_532.out, (bel HB.out)⟩)
        ·skip
         refine box_step ?hg (N := 12) ?hd (cs := #[.int .i64 0, .int .i64 0, .int .i64 0, .int .i64 0, .int .i64 0, .bool false]) (t := 39) ?hr ?_; (case hd => rfl); (case hg => rfl); (case hr => first | (go_simp; done) | (go_simp; rfl))
         intro gb544 hg w38 hbox hb
         have n0_ := Aside0.mk (bkb BK507.out hb)
         have n1_ := Aside0.mk (bkb BK532.out hb)
         have n2_ := Aside0.mk (bst HB.out hb)
         have n3_ := Aside0.mk (hbox)
         have n4_ := Aside0.mk (bge hg HB.out)
         have n5_ := Aside0.mk (bge hg HB.out)
         have n6_ := Aside0.mk ((bkl hg BK507.out))
         have n7_ := Aside0.mk ((bkg hg BK507.out))
         have n8_ := Aside0.mk ((bkl hg BK532.out))
         have n9_ := Aside0.mk ((bkg hg BK532.out))
         clear BK507
         clear BK532
         clear HB
         have BK507 := n0_
         have BK532 := n1_
         have HB := n2_
         have BK544 := n3_
         have GW544 := n4_
         have GE544 := n5_
         have NB507_544 := n6_
         have NB544_507 := n7_
         have NB532_544 := n8_
         have NB544_532 := n9_
         clear n0_ n1_ n2_ n3_ n4_ n5_ n6_ n7_ n8_ n9_
         clear hb hbox hg
         refine hK.out _ _ ⟨(blk_cell BK532.out 0).trans rfl, (blk_cell BK532.out 1).trans rfl, (blk_cell BK532.out 2).trans rfl, (blk_cell BK532.out 3).trans rfl, (blk_cell BK532.out 4).trans rfl, (blk_cell BK532.out 5).trans rfl⟩ (fun hHeld => ?_)
         clear hK K
         refine norm_ (a' := ?_) ?_ ?_
         rotate_left
         ·show Act.put _ (some 12) _ = _
          simp only [Act.put, List.setIfInBounds_toArray, List.set_cons_zero, List.set_cons_succ, i64_w, i32_w]
          rfl
         refine one_ (i := 2) (N := some 50) (bm 11 135) rfl rfl (one_of HT_.out (by kernel_rfl)) (by decide) (fun K hK => ?_)
         refine goes_ Try.func18 (by kernel_rfl) rfl #[.agg #[.int .i64 x533000_1, .int .i64 x533001_1, .int .i64 x533002_1, .int .i64 x533003_1, .int .i64 x533004_1, .bool x533005_1], .agg #[.int .i64 t533, .int .i64 t534, .int .i64 t535], .bool true] (by rfl) rfl rfl (by (try simp only [List.map_toArray, List.map_cons, List.map_nil]); first | done | rfl | (simp only [List.length_drop, List.length_take]; rfl)) ?_
         with_reducible refine (cycle_Step.calls k1 x533000_1 x533001_1 x533002_1 x533003_1 x533004_1 x533005_1 t533 t534 t535 true t536 t537 t538 t539 t540 t541 false t543 _ A33.out).mono ?_
         rintro e w39 ⟨rfl, hb⟩
         refine ⟨_, rfl, ?_⟩
         have n0_ := Aside0.mk (bkb BK507.out hb)
         have n1_ := Aside0.mk (bkb BK532.out hb)
         have n2_ := Aside0.mk (bkb BK544.out hb)
         have n3_ := Aside0.mk (bst HB.out hb)
         clear BK507
         clear BK532
         clear BK544
         clear HB
         have BK507 := n0_
         have BK532 := n1_
         have BK544 := n2_
         have HB := n3_
         clear n0_ n1_ n2_ n3_
         (try clear hb)
         (try clear hb2)
         (try clear hk)
         (try clear hi)
         refine hK.out _ _ ⟨(blk_cell BK532.out 0).trans rfl, (blk_cell BK532.out 1).trans rfl, (blk_cell BK532.out 2).trans rfl, (blk_cell BK532.out 3).trans rfl, (blk_cell BK532.out 4).trans rfl, (blk_cell BK532.out 5).trans rfl⟩ (fun hHeld => ?_)
         clear hK K
         refine norm_ (a' := ?_) ?_ ?_
         rotate_left
         ·show Act.put _ (some 50) _ = _
          simp only [Act.put, List.setIfInBounds_toArray, List.set_cons_zero, List.set_cons_succ, i64_w, i32_w]
          rfl
         refine pur 3 (some 47) (bm 11 143) HT_.out ?_
         refine pur 4 (some 51) (bm 11 159) HT_.out ?_
         refine pur 5 (some 52) (bm 11 191) HT_.out ?_
         refine pur 6 (some 53) (bm 11 255) HT_.out ?_
         exact norm_ (by simp only [putAll, Act.put, List.setIfInBounds_toArray, List.set_cons_zero, List.set_cons_succ]) (hCont (gb544) _ ⟨hHeld, (bkt BK507.out), (bkt BK532.out), (bkt BK544.out), GW544.out, GE544.out, NB507_544.out, NB544_507.out, NB532_544.out, NB544_532.out, (bel HB.out)⟩)
       ·skip
        refine box_step ?hg (N := 12) ?hd (cs := #[.int .i64 0, .int .i64 0, .int .i64 0, .int .i64 0, .int .i64 0, .bool false]) (t := 39) ?hr ?_; (case hd => rfl); (case hg => rfl); (case hr => first | (go_simp; done) | (go_simp; rfl))
        intro gb544 hg w37 hbox hb
        have n0_ := Aside0.mk (bkb BK507.out hb)
        have n1_ := Aside0.mk (bkb BK532.out hb)
        have n2_ := Aside0.mk (bst HB.out hb)
        have n3_ := Aside0.mk (hbox)
        have n4_ := Aside0.mk (bge hg HB.out)
        have n5_ := Aside0.mk (bge hg HB.out)
        have n6_ := Aside0.mk ((bkl hg BK507.out))
        have n7_ := Aside0.mk ((bkg hg BK507.out))
        have n8_ := Aside0.mk ((bkl hg BK532.out))
        have n9_ := Aside0.mk ((bkg hg BK532.out))
        clear BK507
        clear BK532
        clear HB
        have BK507 := n0_
        have BK532 := n1_
        have HB := n2_
        have BK544 := n3_
        have GW544 := n4_
        have GE544 := n5_
        have NB507_544 := n6_
        have NB544_507 := n7_
        have NB532_544 := n8_
        have NB544_532 := n9_
        clear n0_ n1_ n2_ n3_ n4_ n5_ n6_ n7_ n8_ n9_
        clear hb hbox hg
        refine hK.out _ _ ⟨(blk_cell BK532.out 0).trans rfl, (blk_cell BK532.out 1).trans rfl, (blk_cell BK532.out 2).trans rfl, (blk_cell BK532.out 3).trans rfl, (blk_cell BK532.out 4).trans rfl, (blk_cell BK532.out 5).trans rfl⟩ (fun hHeld => ?_)
        clear hK K
        refine norm_ (a' := ?_) ?_ ?_
        rotate_left
        ·show Act.put _ (some 12) _ = _
         simp only [Act.put, List.setIfInBounds_toArray, List.set_cons_zero, List.set_cons_succ, i64_w, i32_w]
         rfl
        refine one_ (i := 1) (N := some 49) (bm 11 131) rfl rfl (one_of HT_.out (by kernel_rfl)) (by decide) (fun K hK => ?_)
        refine goes_ Try.func17 (by kernel_rfl) rfl #[] (by rfl) rfl rfl (by (try simp only [List.map_toArray, List.map_cons, List.map_nil]); first | done | rfl | (simp only [List.length_drop, List.length_take]; rfl)) ?_
        with_reducible refine (q_rule.calls  t533 t534 t535 _ A32.out).mono ?_
        rintro e w38 ⟨rfl, hb⟩
        refine ⟨_, rfl, ?_⟩
        have n0_ := Aside0.mk (bkb BK507.out hb)
        have n1_ := Aside0.mk (bkb BK532.out hb)
        have n2_ := Aside0.mk (bkb BK544.out hb)
        have n3_ := Aside0.mk (bst HB.out hb)
        clear BK507
        clear BK532
        clear BK544
        clear HB
        have BK507 := n0_
        have BK532 := n1_
        have BK544 := n2_
        have HB := n3_
        clear n0_ n1_ n2_ n3_
        (try clear hb)
        (try clear hb2)
        (try clear hk)
        (try clear hi)
        refine hK.out _ _ ⟨(blk_cell BK532.out 0).trans rfl, (blk_cell BK532.out 1).trans rfl, (blk_cell BK532.out 2).trans rfl, (blk_cell BK532.out 3).trans rfl, (blk_cell BK532.out 4).trans rfl, (blk_cell BK532.out 5).trans rfl⟩ (fun hHeld => ?_)
        clear hK K
        refine norm_ (a' := ?_) ?_ ?_
        rotate_left
        ·show Act.put _ (some 49) _ = _
         simp only [Act.put, List.setIfInBounds_toArray, List.set_cons_zero, List.set_cons_succ, i64_w, i32_w]
         rfl
        refine one_ (i := 2) (N := some 50) (bm 11 135) rfl rfl (one_of HT_.out (by kernel_rfl)) (by decide) (fun K hK => ?_)
        refine goes_ Try.func18 (by kernel_rfl) rfl #[.agg #[.int .i64 x533000_1, .int .i64 x533001_1, .int .i64 x533002_1, .int .i64 x533003_1, .int .i64 x533004_1, .bool x533005_1], .agg #[.int .i64 t533, .int .i64 t534, .int .i64 t535], .bool true] (by rfl) rfl rfl (by (try simp only [List.map_toArray, List.map_cons, List.map_nil]); first | done | rfl | (simp only [List.length_drop, List.length_take]; rfl)) ?_
        with_reducible refine (cycle_Step.calls k1 x533000_1 x533001_1 x533002_1 x533003_1 x533004_1 x533005_1 t533 t534 t535 true t536 t537 t538 t539 t540 t541 false t543 _ A33.out).mono ?_
        rintro e w39 ⟨rfl, hb⟩
        refine ⟨_, rfl, ?_⟩
        have n0_ := Aside0.mk (bkb BK507.out hb)
        have n1_ := Aside0.mk (bkb BK532.out hb)
        have n2_ := Aside0.mk (bkb BK544.out hb)
        have n3_ := Aside0.mk (bst HB.out hb)
        clear BK507
        clear BK532
        clear BK544
        clear HB
        have BK507 := n0_
        have BK532 := n1_
        have BK544 := n2_
        have HB := n3_
        clear n0_ n1_ n2_ n3_
        (try clear hb)
        (try clear hb2)
        (try clear hk)
        (try clear hi)
        refine hK.out _ _ ⟨(blk_cell BK532.out 0).trans rfl, (blk_cell BK532.out 1).trans rfl, (blk_cell BK532.out 2).trans rfl, (blk_cell BK532.out 3).trans rfl, (blk_cell BK532.out 4).trans rfl, (blk_cell BK532.out 5).trans rfl⟩ (fun hHeld => ?_)
        clear hK K
        refine norm_ (a' := ?_) ?_ ?_
        rotate_left
        ·show Act.put _ (some 50) _ = _
         simp only [Act.put, List.setIfInBounds_toArray, List.set_cons_zero, List.set_cons_succ, i64_w, i32_w]
         rfl
        refine pur 3 (some 47) (bm 11 143) HT_.out ?_
        refine pur 4 (some 51) (bm 11 159) HT_.out ?_
        refine pur 5 (some 52) (bm 11 191) HT_.out ?_
        refine pur 6 (some 53) (bm 11 255) HT_.out ?_
        exact norm_ (by simp only [putAll, Act.put, List.setIfInBounds_toArray, List.set_cons_zero, List.set_cons_succ]) (hCont (gb544) _ ⟨hHeld, (bkt BK507.out), (bkt BK532.out), (bkt BK544.out), GW544.out, GE544.out, NB507_544.out, NB544_507.out, NB532_544.out, NB544_532.out, (bel HB.out)⟩)
      rintro gb544 w40 ⟨hS_, h0_, h1_, h2_, h3_, h4_, h5_, h6_, h7_, h8_, h9_⟩
      have n0_ : Aside0 (w40.heap[gb507]? = some (.cells #[.int .i64 t499, .int .i64 t500, .int .i64 t501, .int .i64 t502, .int .i64 t503, .bool t504] 39 (0, 0))) := ⟨h0_⟩
      have n1_ : Aside0 (w40.heap[gb532]? = some (.cells #[.int .i64 x533000_1, .int .i64 x533001_1, .int .i64 x533002_1, .int .i64 x533003_1, .int .i64 x533004_1, .bool x533005_1] 39 (0, 0))) := ⟨h1_⟩
      have n2_ : Aside0 (w40.heap[gb544]? = some (.cells #[.int .i64 0, .int .i64 0, .int .i64 0, .int .i64 0, .int .i64 0, .bool false] 39 (0, 0))) := ⟨h2_⟩
      have n3_ : Aside0 (w.heap.size ≤ gb544) := ⟨h3_⟩
      have n4_ : Aside0 (w.heap.size ≤ gb544) := ⟨h4_⟩
      have n5_ : Aside0 (gb507 ≠ gb544) := ⟨h5_⟩
      have n6_ : Aside0 (gb544 ≠ gb507) := ⟨h6_⟩
      have n7_ : Aside0 (gb532 ≠ gb544) := ⟨h7_⟩
      have n8_ : Aside0 (gb544 ≠ gb532) := ⟨h8_⟩
      have n9_ : Aside0 (Below w.heap.size w w40) := ⟨h9_⟩
      clear BK507
      clear BK532
      clear HB
      clear h0_ h1_ h2_ h3_ h4_ h5_ h6_ h7_ h8_ h9_
      have BK507 := n0_
      have BK532 := n1_
      have BK544 := n2_
      have GW544 := n3_
      have GE544 := n4_
      have NB507_544 := n5_
      have NB544_507 := n6_
      have NB532_544 := n7_
      have NB544_532 := n8_
      have HB := n9_
      clear n0_ n1_ n2_ n3_ n4_ n5_ n6_ n7_ n8_ n9_
      have hHeld : w40.cell? ⟨gb532, 0, none⟩ = some (.int .i64 x533000_1) ∧ w40.cell? ⟨gb532, 1, none⟩ = some (.int .i64 x533001_1) ∧ w40.cell? ⟨gb532, 2, none⟩ = some (.int .i64 x533002_1) ∧ w40.cell? ⟨gb532, 3, none⟩ = some (.int .i64 x533003_1) ∧ w40.cell? ⟨gb532, 4, none⟩ = some (.int .i64 x533004_1) ∧ w40.cell? ⟨gb532, 5, none⟩ = some (.bool x533005_1) := hS_
      refine norm_ (a' := ?_) ?_ ?_
      rotate_left
      ·simp only [putAll, Act.put, List.setIfInBounds_toArray, List.set_cons_zero, List.set_cons_succ]
       rfl
      refine one_ (i := 8) (N := none) (bm 11 511) rfl rfl (one_of HT_.out (by kernel_rfl)) (by decide) (fun K hK => ?_)
      have hs41 : w40.cell? ⟨gb544, 0, none⟩ = some (.int .i64 0) := (blk_cell BK544.out 0).trans rfl
      have hfs41 := blk_frozen BK544.out 0
      have hns41_0 := NB507_544.out
      have hns41_1 := NB532_544.out
      have hms41_0 := NB544_507.out
      have hms41_1 := NB544_532.out
      have hs42 : w40.cell? ⟨gb544, 1, none⟩ = some (.int .i64 0) := (blk_cell BK544.out 1).trans rfl
      have hfs42 := blk_frozen BK544.out 1
      have hns42_0 := NB507_544.out
      have hns42_1 := NB532_544.out
      have hms42_0 := NB544_507.out
      have hms42_1 := NB544_532.out
      have hs43 : w40.cell? ⟨gb544, 2, none⟩ = some (.int .i64 0) := (blk_cell BK544.out 2).trans rfl
      have hfs43 := blk_frozen BK544.out 2
      have hns43_0 := NB507_544.out
      have hns43_1 := NB532_544.out
      have hms43_0 := NB544_507.out
      have hms43_1 := NB544_532.out
      have hs44 : w40.cell? ⟨gb544, 3, none⟩ = some (.int .i64 0) := (blk_cell BK544.out 3).trans rfl
      have hfs44 := blk_frozen BK544.out 3
      have hns44_0 := NB507_544.out
      have hns44_1 := NB532_544.out
      have hms44_0 := NB544_507.out
      have hms44_1 := NB544_532.out
      have hs45 : w40.cell? ⟨gb544, 4, none⟩ = some (.int .i64 0) := (blk_cell BK544.out 4).trans rfl
      have hfs45 := blk_frozen BK544.out 4
      have hns45_0 := NB507_544.out
      have hns45_1 := NB532_544.out
      have hms45_0 := NB544_507.out
      have hms45_1 := NB544_532.out
      have hs46 : w40.cell? ⟨gb544, 5, none⟩ = some (.bool false) := (blk_cell BK544.out 5).trans rfl
      have hfs46 := blk_frozen BK544.out 5
      have hns46_0 := NB507_544.out
      have hns46_1 := NB532_544.out
      have hms46_0 := NB544_507.out
      have hms46_1 := NB544_532.out
      refine skip_ (w1 := ?_) (by rfl) rfl ?_ ?_
      rotate_left
      ·go_simp
       rfl
      refine hK.out _ _ ⟨(clr hHeld.1), (clr hHeld.2.1), (clr hHeld.2.2.1), (clr hHeld.2.2.2.1), (clr hHeld.2.2.2.2.1), (clr hHeld.2.2.2.2.2)⟩ (fun hHeld => ?_)
      clear hK K
      refine pur 9 (some 13) (bm 11 1023) HT_.out ?_
      refine pur 10 (some 14) (bm 11 2047) HT_.out ?_
      refine done_ (done_of HT_.out (by kernel_rfl)) ?_
      have hnb47 := NB544_507.out
      have hnc47 := NB507_544.out
      have hnb48 := NB544_532.out
      have hnc48 := NB532_544.out
      have hcz49_0 := cz6 BK544.out
      have hfz49_0 := blk_frozen BK544.out
      have hnb50 := NB532_507.out
      have hnc50 := NB507_532.out
      have hcz51_0 := cz6 BK532.out
      have hfz51_0 := blk_frozen BK532.out
      try go_wp2
      go_roundg k1
      case measure => have := HK1.out; omega
      case rel => exact ⟨(wrap64 (x11_1 + 1)), (t536), (t537), (t538), (t539), (t540), (t541), (by first | rfl | (simp; done) | (simp [*]; done)), H', ⟨by have := HK1.out; omega⟩, ⟨bkt BK507.out⟩, ⟨bkt BK532.out⟩, ⟨bel HB.out⟩⟩
    ·rw [if_neg c34] at H
     exact absurd H (by simp)
   ·rw [if_neg c31] at H
    have c31b0 : decide (x11_1 < 3) = false := decide_eq_false c31
    clear c31
    obtain ⟨y545, hy545⟩ : ∃ y_ : List Int, y_ = (([1, 2, 2, 1, 0, 0, 0, 0, 0] : List Int)) := ⟨_, rfl⟩
    replace H : ((q_panels.f k1 (⟨#[]⟩ : ByteArray) y545).bind fun t548 => (if t548 = true then ((q_panels.f k1 (⟨#[45, 45, 45, 120]⟩ : ByteArray) (([1, 2, 2, 2, 2, 1, 0, 0, 0] : List Int))).bind fun t552 => (if t552 = true then ((q_panels.f k1 (⟨#[45, 45, 45, 120, 120, 120]⟩ : ByteArray) (([1, 2, 2, 2, 2, 1, 0, 0, 0] : List Int))).bind fun t556 => (if t556 = true then ((q_awake.f k1).bind fun t557 => (if t557 = true then ((q_forced.f k1 1 (([1, 0, 0, 0, 0, 0, 0, 0, 0] : List Int))).bind fun t561 => (if t561 = true then ((q_forced.f k1 0 (([0, 0, 0, 0, 0, 0, 0, 0, 0] : List Int))).bind fun t565 => (if t565 = true then (if t495 = 2 then (if t506 = 9 then (if t511 = 3 then (if t521 = 4 then (if t531 = 0 then (some ((x533000_1 == 0 && (x533001_1 == 0 && (x533002_1 == 0 && (x533003_1 == 0)))) && (x533004_1 == 3 && (x533005_1)))) else (none)) else (none)) else (none)) else (none)) else (none)) else (none))) else (none))) else (none))) else (none))) else (none))) else (none))) = some r := by first | (rw [hy545]; with_reducible exact H) | (have H2_ := (Option.bind_some _ _).symm.trans H; rw [hy545]; with_reducible exact H2_) | (have H2_ := (Option.bind_some _ _).symm.trans H; with_reducible exact H2_) | with_reducible exact H | (rw [hy545]; exact H) | exact H
    have Ny545 := Aside0.mk hy545
    clear hy545
    replace H := Option.bind_eq_some_iff.mp H
    obtain ⟨t548, A520, H⟩ := H
    replace H : (if t548 = true then ((q_panels.f k1 (⟨#[45, 45, 45, 120]⟩ : ByteArray) (([1, 2, 2, 2, 2, 1, 0, 0, 0] : List Int))).bind fun t552 => (if t552 = true then ((q_panels.f k1 (⟨#[45, 45, 45, 120, 120, 120]⟩ : ByteArray) (([1, 2, 2, 2, 2, 1, 0, 0, 0] : List Int))).bind fun t556 => (if t556 = true then ((q_awake.f k1).bind fun t557 => (if t557 = true then ((q_forced.f k1 1 (([1, 0, 0, 0, 0, 0, 0, 0, 0] : List Int))).bind fun t561 => (if t561 = true then ((q_forced.f k1 0 (([0, 0, 0, 0, 0, 0, 0, 0, 0] : List Int))).bind fun t565 => (if t565 = true then (if t495 = 2 then (if t506 = 9 then (if t511 = 3 then (if t521 = 4 then (if t531 = 0 then (some ((x533000_1 == 0 && (x533001_1 == 0 && (x533002_1 == 0 && (x533003_1 == 0)))) && (x533004_1 == 3 && (x533005_1)))) else (none)) else (none)) else (none)) else (none)) else (none)) else (none))) else (none))) else (none))) else (none))) else (none))) else (none)) = some r := H
    have A52 := Aside0.mk A520
    clear A520
    by_cases c53 : t548 = true
    ·subst c53
     have H1 : ((q_panels.f k1 (⟨#[45, 45, 45, 120]⟩ : ByteArray) (([1, 2, 2, 2, 2, 1, 0, 0, 0] : List Int))).bind fun t552 => (if t552 = true then ((q_panels.f k1 (⟨#[45, 45, 45, 120, 120, 120]⟩ : ByteArray) (([1, 2, 2, 2, 2, 1, 0, 0, 0] : List Int))).bind fun t556 => (if t556 = true then ((q_awake.f k1).bind fun t557 => (if t557 = true then ((q_forced.f k1 1 (([1, 0, 0, 0, 0, 0, 0, 0, 0] : List Int))).bind fun t561 => (if t561 = true then ((q_forced.f k1 0 (([0, 0, 0, 0, 0, 0, 0, 0, 0] : List Int))).bind fun t565 => (if t565 = true then (if t495 = 2 then (if t506 = 9 then (if t511 = 3 then (if t521 = 4 then (if t531 = 0 then (some ((x533000_1 == 0 && (x533001_1 == 0 && (x533002_1 == 0 && (x533003_1 == 0)))) && (x533004_1 == 3 && (x533005_1)))) else (none)) else (none)) else (none)) else (none)) else (none)) else (none))) else (none))) else (none))) else (none))) else (none))) = some r := by rw [if_pos rfl] at H; exact H
     clear H
     have H := H1
     clear H1
     obtain ⟨y549, hy549⟩ : ∃ y_ : List Int, y_ = (([1, 2, 2, 2, 2, 1, 0, 0, 0] : List Int)) := ⟨_, rfl⟩
     replace H : ((q_panels.f k1 (⟨#[45, 45, 45, 120]⟩ : ByteArray) y549).bind fun t552 => (if t552 = true then ((q_panels.f k1 (⟨#[45, 45, 45, 120, 120, 120]⟩ : ByteArray) (([1, 2, 2, 2, 2, 1, 0, 0, 0] : List Int))).bind fun t556 => (if t556 = true then ((q_awake.f k1).bind fun t557 => (if t557 = true then ((q_forced.f k1 1 (([1, 0, 0, 0, 0, 0, 0, 0, 0] : List Int))).bind fun t561 => (if t561 = true then ((q_forced.f k1 0 (([0, 0, 0, 0, 0, 0, 0, 0, 0] : List Int))).bind fun t565 => (if t565 = true then (if t495 = 2 then (if t506 = 9 then (if t511 = 3 then (if t521 = 4 then (if t531 = 0 then (some ((x533000_1 == 0 && (x533001_1 == 0 && (x533002_1 == 0 && (x533003_1 == 0)))) && (x533004_1 == 3 && (x533005_1)))) else (none)) else (none)) else (none)) else (none)) else (none)) else (none))) else (none))) else (none))) else (none))) else (none))) = some r := by first | (rw [hy549]; with_reducible exact H) | (have H2_ := (Option.bind_some _ _).symm.trans H; rw [hy549]; with_reducible exact H2_) | (have H2_ := (Option.bind_some _ _).symm.trans H; with_reducible exact H2_) | with_reducible exact H | (rw [hy549]; exact H) | exact H
     have Ny549 := Aside0.mk hy549
     clear hy549
     replace H := Option.bind_eq_some_iff.mp H
     obtain ⟨t552, A540, H⟩ := H
     replace H : (if t552 = true then ((q_panels.f k1 (⟨#[45, 45, 45, 120, 120, 120]⟩ : ByteArray) (([1, 2, 2, 2, 2, 1, 0, 0, 0] : List Int))).bind fun t556 => (if t556 = true then ((q_awake.f k1).bind fun t557 => (if t557 = true then ((q_forced.f k1 1 (([1, 0, 0, 0, 0, 0, 0, 0, 0] : List Int))).bind fun t561 => (if t561 = true then ((q_forced.f k1 0 (([0, 0, 0, 0, 0, 0, 0, 0, 0] : List Int))).bind fun t565 => (if t565 = true then (if t495 = 2 then (if t506 = 9 then (if t511 = 3 then (if t521 = 4 then (if t531 = 0 then (some ((x533000_1 == 0 && (x533001_1 == 0 && (x533002_1 == 0 && (x533003_1 == 0)))) && (x533004_1 == 3 && (x533005_1)))) else (none)) else (none)) else (none)) else (none)) else (none)) else (none))) else (none))) else (none))) else (none))) else (none)) = some r := H
     have A54 := Aside0.mk A540
     clear A540
     by_cases c55 : t552 = true
     ·subst c55
      have H1 : ((q_panels.f k1 (⟨#[45, 45, 45, 120, 120, 120]⟩ : ByteArray) (([1, 2, 2, 2, 2, 1, 0, 0, 0] : List Int))).bind fun t556 => (if t556 = true then ((q_awake.f k1).bind fun t557 => (if t557 = true then ((q_forced.f k1 1 (([1, 0, 0, 0, 0, 0, 0, 0, 0] : List Int))).bind fun t561 => (if t561 = true then ((q_forced.f k1 0 (([0, 0, 0, 0, 0, 0, 0, 0, 0] : List Int))).bind fun t565 => (if t565 = true then (if t495 = 2 then (if t506 = 9 then (if t511 = 3 then (if t521 = 4 then (if t531 = 0 then (some ((x533000_1 == 0 && (x533001_1 == 0 && (x533002_1 == 0 && (x533003_1 == 0)))) && (x533004_1 == 3 && (x533005_1)))) else (none)) else (none)) else (none)) else (none)) else (none)) else (none))) else (none))) else (none))) else (none))) = some r := by rw [if_pos rfl] at H; exact H
      clear H
      have H := H1
      clear H1
      obtain ⟨y553, hy553⟩ : ∃ y_ : List Int, y_ = (([1, 2, 2, 2, 2, 1, 0, 0, 0] : List Int)) := ⟨_, rfl⟩
      replace H : ((q_panels.f k1 (⟨#[45, 45, 45, 120, 120, 120]⟩ : ByteArray) y553).bind fun t556 => (if t556 = true then ((q_awake.f k1).bind fun t557 => (if t557 = true then ((q_forced.f k1 1 (([1, 0, 0, 0, 0, 0, 0, 0, 0] : List Int))).bind fun t561 => (if t561 = true then ((q_forced.f k1 0 (([0, 0, 0, 0, 0, 0, 0, 0, 0] : List Int))).bind fun t565 => (if t565 = true then (if t495 = 2 then (if t506 = 9 then (if t511 = 3 then (if t521 = 4 then (if t531 = 0 then (some ((x533000_1 == 0 && (x533001_1 == 0 && (x533002_1 == 0 && (x533003_1 == 0)))) && (x533004_1 == 3 && (x533005_1)))) else (none)) else (none)) else (none)) else (none)) else (none)) else (none))) else (none))) else (none))) else (none))) = some r := by first | (rw [hy553]; with_reducible exact H) | (have H2_ := (Option.bind_some _ _).symm.trans H; rw [hy553]; with_reducible exact H2_) | (have H2_ := (Option.bind_some _ _).symm.trans H; with_reducible exact H2_) | with_reducible exact H | (rw [hy553]; exact H) | exact H
      have Ny553 := Aside0.mk hy553
      clear hy553
      replace H := Option.bind_eq_some_iff.mp H
      obtain ⟨t556, A560, H⟩ := H
      replace H : (if t556 = true then ((q_awake.f k1).bind fun t557 => (if t557 = true then ((q_forced.f k1 1 (([1, 0, 0, 0, 0, 0, 0, 0, 0] : List Int))).bind fun t561 => (if t561 = true then ((q_forced.f k1 0 (([0, 0, 0, 0, 0, 0, 0, 0, 0] : List Int))).bind fun t565 => (if t565 = true then (if t495 = 2 then (if t506 = 9 then (if t511 = 3 then (if t521 = 4 then (if t531 = 0 then (some ((x533000_1 == 0 && (x533001_1 == 0 && (x533002_1 == 0 && (x533003_1 == 0)))) && (x533004_1 == 3 && (x533005_1)))) else (none)) else (none)) else (none)) else (none)) else (none)) else (none))) else (none))) else (none))) else (none)) = some r := H
      have A56 := Aside0.mk A560
      clear A560
      by_cases c57 : t556 = true
      ·subst c57
       have H1 : ((q_awake.f k1).bind fun t557 => (if t557 = true then ((q_forced.f k1 1 (([1, 0, 0, 0, 0, 0, 0, 0, 0] : List Int))).bind fun t561 => (if t561 = true then ((q_forced.f k1 0 (([0, 0, 0, 0, 0, 0, 0, 0, 0] : List Int))).bind fun t565 => (if t565 = true then (if t495 = 2 then (if t506 = 9 then (if t511 = 3 then (if t521 = 4 then (if t531 = 0 then (some ((x533000_1 == 0 && (x533001_1 == 0 && (x533002_1 == 0 && (x533003_1 == 0)))) && (x533004_1 == 3 && (x533005_1)))) else (none)) else (none)) else (none)) else (none)) else (none)) else (none))) else (none))) else (none))) = some r := by rw [if_pos rfl] at H; exact H
       clear H
       have H := H1
       clear H1
       replace H := Option.bind_eq_some_iff.mp H
       obtain ⟨t557, A580, H⟩ := H
       replace H : (if t557 = true then ((q_forced.f k1 1 (([1, 0, 0, 0, 0, 0, 0, 0, 0] : List Int))).bind fun t561 => (if t561 = true then ((q_forced.f k1 0 (([0, 0, 0, 0, 0, 0, 0, 0, 0] : List Int))).bind fun t565 => (if t565 = true then (if t495 = 2 then (if t506 = 9 then (if t511 = 3 then (if t521 = 4 then (if t531 = 0 then (some ((x533000_1 == 0 && (x533001_1 == 0 && (x533002_1 == 0 && (x533003_1 == 0)))) && (x533004_1 == 3 && (x533005_1)))) else (none)) else (none)) else (none)) else (none)) else (none)) else (none))) else (none))) else (none)) = some r := H
       have A58 := Aside0.mk A580
       clear A580
       by_cases c59 : t557 = true
       ·subst c59
        have H1 : ((q_forced.f k1 1 (([1, 0, 0, 0, 0, 0, 0, 0, 0] : List Int))).bind fun t561 => (if t561 = true then ((q_forced.f k1 0 (([0, 0, 0, 0, 0, 0, 0, 0, 0] : List Int))).bind fun t565 => (if t565 = true then (if t495 = 2 then (if t506 = 9 then (if t511 = 3 then (if t521 = 4 then (if t531 = 0 then (some ((x533000_1 == 0 && (x533001_1 == 0 && (x533002_1 == 0 && (x533003_1 == 0)))) && (x533004_1 == 3 && (x533005_1)))) else (none)) else (none)) else (none)) else (none)) else (none)) else (none))) else (none))) = some r := by rw [if_pos rfl] at H; exact H
        clear H
        have H := H1
        clear H1
        obtain ⟨y558, hy558⟩ : ∃ y_ : List Int, y_ = (([1, 0, 0, 0, 0, 0, 0, 0, 0] : List Int)) := ⟨_, rfl⟩
        replace H : ((q_forced.f k1 1 y558).bind fun t561 => (if t561 = true then ((q_forced.f k1 0 (([0, 0, 0, 0, 0, 0, 0, 0, 0] : List Int))).bind fun t565 => (if t565 = true then (if t495 = 2 then (if t506 = 9 then (if t511 = 3 then (if t521 = 4 then (if t531 = 0 then (some ((x533000_1 == 0 && (x533001_1 == 0 && (x533002_1 == 0 && (x533003_1 == 0)))) && (x533004_1 == 3 && (x533005_1)))) else (none)) else (none)) else (none)) else (none)) else (none)) else (none))) else (none))) = some r := by first | (rw [hy558]; with_reducible exact H) | (have H2_ := (Option.bind_some _ _).symm.trans H; rw [hy558]; with_reducible exact H2_) | (have H2_ := (Option.bind_some _ _).symm.trans H; with_reducible exact H2_) | with_reducible exact H | (rw [hy558]; exact H) | exact H
        have Ny558 := Aside0.mk hy558
        clear hy558
        replace H := Option.bind_eq_some_iff.mp H
        obtain ⟨t561, A600, H⟩ := H
        replace H : (if t561 = true then ((q_forced.f k1 0 (([0, 0, 0, 0, 0, 0, 0, 0, 0] : List Int))).bind fun t565 => (if t565 = true then (if t495 = 2 then (if t506 = 9 then (if t511 = 3 then (if t521 = 4 then (if t531 = 0 then (some ((x533000_1 == 0 && (x533001_1 == 0 && (x533002_1 == 0 && (x533003_1 == 0)))) && (x533004_1 == 3 && (x533005_1)))) else (none)) else (none)) else (none)) else (none)) else (none)) else (none))) else (none)) = some r := H
        have A60 := Aside0.mk A600
        clear A600
        by_cases c61 : t561 = true
        ·subst c61
         have H1 : ((q_forced.f k1 0 (([0, 0, 0, 0, 0, 0, 0, 0, 0] : List Int))).bind fun t565 => (if t565 = true then (if t495 = 2 then (if t506 = 9 then (if t511 = 3 then (if t521 = 4 then (if t531 = 0 then (some ((x533000_1 == 0 && (x533001_1 == 0 && (x533002_1 == 0 && (x533003_1 == 0)))) && (x533004_1 == 3 && (x533005_1)))) else (none)) else (none)) else (none)) else (none)) else (none)) else (none))) = some r := by rw [if_pos rfl] at H; exact H
         clear H
         have H := H1
         clear H1
         obtain ⟨y562, hy562⟩ : ∃ y_ : List Int, y_ = (([0, 0, 0, 0, 0, 0, 0, 0, 0] : List Int)) := ⟨_, rfl⟩
         replace H : ((q_forced.f k1 0 y562).bind fun t565 => (if t565 = true then (if t495 = 2 then (if t506 = 9 then (if t511 = 3 then (if t521 = 4 then (if t531 = 0 then (some ((x533000_1 == 0 && (x533001_1 == 0 && (x533002_1 == 0 && (x533003_1 == 0)))) && (x533004_1 == 3 && (x533005_1)))) else (none)) else (none)) else (none)) else (none)) else (none)) else (none))) = some r := by first | (rw [hy562]; with_reducible exact H) | (have H2_ := (Option.bind_some _ _).symm.trans H; rw [hy562]; with_reducible exact H2_) | (have H2_ := (Option.bind_some _ _).symm.trans H; with_reducible exact H2_) | with_reducible exact H | (rw [hy562]; exact H) | exact H
         have Ny562 := Aside0.mk hy562
         clear hy562
         replace H := Option.bind_eq_some_iff.mp H
         obtain ⟨t565, A620, H⟩ := H
         replace H : (if t565 = true then (if t495 = 2 then (if t506 = 9 then (if t511 = 3 then (if t521 = 4 then (if t531 = 0 then (some ((x533000_1 == 0 && (x533001_1 == 0 && (x533002_1 == 0 && (x533003_1 == 0)))) && (x533004_1 == 3 && (x533005_1)))) else (none)) else (none)) else (none)) else (none)) else (none)) else (none)) = some r := H
         have A62 := Aside0.mk A620
         clear A620
         by_cases c63 : t565 = true
         ·subst c63
          have H1 : (if t495 = 2 then (if t506 = 9 then (if t511 = 3 then (if t521 = 4 then (if t531 = 0 then (some ((x533000_1 == 0 && (x533001_1 == 0 && (x533002_1 == 0 && (x533003_1 == 0)))) && (x533004_1 == 3 && (x533005_1)))) else (none)) else (none)) else (none)) else (none)) else (none)) = some r := by rw [if_pos rfl] at H; exact H
          clear H
          have H := H1
          clear H1
          by_cases c64 : t495 = 2
          ·rw [if_pos c64] at H
           have c64b0 : (t495 == 2) = true := beq_iff_eq.mpr c64
           have c64b1 : (t495 != 2) = false := bne_eq_false_iff_eq.mpr c64
           clear c64
           by_cases c65 : t506 = 9
           ·rw [if_pos c65] at H
            have c65b0 : (t506 == 9) = true := beq_iff_eq.mpr c65
            have c65b1 : (t506 != 9) = false := bne_eq_false_iff_eq.mpr c65
            clear c65
            by_cases c66 : t511 = 3
            ·rw [if_pos c66] at H
             have c66b0 : (t511 == 3) = true := beq_iff_eq.mpr c66
             have c66b1 : (t511 != 3) = false := bne_eq_false_iff_eq.mpr c66
             clear c66
             by_cases c67 : t521 = 4
             ·rw [if_pos c67] at H
              have c67b0 : (t521 == 4) = true := beq_iff_eq.mpr c67
              have c67b1 : (t521 != 4) = false := bne_eq_false_iff_eq.mpr c67
              clear c67
              by_cases c68 : t531 = 0
              ·rw [if_pos c68] at H
               have c68b0 : (t531 == 0) = true := beq_iff_eq.mpr c68
               have c68b1 : (t531 != 0) = false := bne_eq_false_iff_eq.mpr c68
               clear c68
               obtain rfl := Option.some.inj H
               go_wp2_with (first | ((with_reducible refine gate_dst (N := 60) rfl ?_); (try (refine gate_guard (by rfl) ?_; dsimp only)); refine Kd.R_lit (Kd.int .i64) _ 3 ?hg (N := 60) ?hd (xs := ([1, 2, 2, 1, 0, 0, 0, 0, 0] : List Int)) (inner := [.int .i64 1, .int .i64 2, .int .i64 2, .int .i64 1, .int .i64 0, .int .i64 0, .int .i64 0, .int .i64 0, .int .i64 0]) (ok := fun _ => True) (okp := fun _ => True) ?hr ?hp (fun _ hk => hk) trivial (Below.refl _ _) (Nat.le_refl _) (by simp) ?_; (case hd => rfl); (case hg => rfl); (case hr => first | (go_simp; done) | (go_simp; rfl)); (case hp => exact (Reps.one (show Kd.M (Kd.int .i64) _ _ _ 1 [.int .i64 1] from rfl) (Reps.one (show Kd.M (Kd.int .i64) _ _ _ 2 [.int .i64 2] from rfl) (Reps.one (show Kd.M (Kd.int .i64) _ _ _ 2 [.int .i64 2] from rfl) (Reps.one (show Kd.M (Kd.int .i64) _ _ _ 1 [.int .i64 1] from rfl) (Reps.one (show Kd.M (Kd.int .i64) _ _ _ 0 [.int .i64 0] from rfl) (Reps.one (show Kd.M (Kd.int .i64) _ _ _ 0 [.int .i64 0] from rfl) (Reps.one (show Kd.M (Kd.int .i64) _ _ _ 0 [.int .i64 0] from rfl) (Reps.one (show Kd.M (Kd.int .i64) _ _ _ 0 [.int .i64 0] from rfl) (Reps.one (show Kd.M (Kd.int .i64) _ _ _ 0 [.int .i64 0] from rfl) (Reps.none _ _))))))))))); intro v546 w69 ho70 hb hg_ hnew_; clear hg_ hnew_; (first | rw [← Ny545.out] at ho70 | (simp only [Int.reduceToNat] at ho70; rw [← Ny545.out] at ho70)); have HO547 := Aside0.mk (Kd.R_lower ho70 (bsz HB.out)); replace BK507 := Aside0.mk (bkb BK507.out hb); replace BK532 := Aside0.mk (bkb BK532.out hb); replace HB := Aside0.mk (bst HB.out hb); clear hb ho70; obtain ⟨Ao71, co71, eo71⟩ := Kd.R_slice HO547.out; subst eo71) | ((with_reducible refine gate_callee (f := 21) rfl ?_); refine gsl (some 61) Try.func21 #[.string (⟨#[]⟩ : ByteArray), .slice Ao71 y545.length co71] ?_; (with_reducible refine (q_panels.calls k1 (⟨#[]⟩ : ByteArray) _ _ y545 true _ ?side1 ?side2 A52.out).mono ?_); (case side1 => repeat (first | exact (Kd.R_reads' HO547.out).2.2 | (with_reducible refine Kd.C_alloc ?_ _) | (with_reducible refine Kd.C_drewN ?_ _) | (with_reducible refine Kd.C_drew ?_))); (case side2 => exact (Kd.R_reads' HO547.out).2.1); rintro e w72 ⟨rfl, hb⟩; refine ⟨_, rfl, ?_⟩; replace HO547 := Aside0.mk (Kd.R_below (kdt HO547.out) hb); replace BK507 := Aside0.mk (bkb BK507.out hb); replace BK532 := Aside0.mk (bkb BK532.out hb); replace HB := Aside0.mk (bst HB.out hb); (try clear hb); (try clear hb2); (try clear hk); (try clear hi)) | ((with_reducible refine gate_dst (N := 63) rfl ?_); (try (refine gate_guard (by rfl) ?_; dsimp only)); refine Kd.R_lit (Kd.int .i64) _ 3 ?hg (N := 63) ?hd (xs := ([1, 2, 2, 2, 2, 1, 0, 0, 0] : List Int)) (inner := [.int .i64 1, .int .i64 2, .int .i64 2, .int .i64 2, .int .i64 2, .int .i64 1, .int .i64 0, .int .i64 0, .int .i64 0]) (ok := fun _ => True) (okp := fun _ => True) ?hr ?hp (fun _ hk => hk) trivial (Below.refl _ _) (Nat.le_refl _) (by simp) ?_; (case hd => rfl); (case hg => rfl); (case hr => first | (go_simp; done) | (go_simp; rfl)); (case hp => exact (Reps.one (show Kd.M (Kd.int .i64) _ _ _ 1 [.int .i64 1] from rfl) (Reps.one (show Kd.M (Kd.int .i64) _ _ _ 2 [.int .i64 2] from rfl) (Reps.one (show Kd.M (Kd.int .i64) _ _ _ 2 [.int .i64 2] from rfl) (Reps.one (show Kd.M (Kd.int .i64) _ _ _ 2 [.int .i64 2] from rfl) (Reps.one (show Kd.M (Kd.int .i64) _ _ _ 2 [.int .i64 2] from rfl) (Reps.one (show Kd.M (Kd.int .i64) _ _ _ 1 [.int .i64 1] from rfl) (Reps.one (show Kd.M (Kd.int .i64) _ _ _ 0 [.int .i64 0] from rfl) (Reps.one (show Kd.M (Kd.int .i64) _ _ _ 0 [.int .i64 0] from rfl) (Reps.one (show Kd.M (Kd.int .i64) _ _ _ 0 [.int .i64 0] from rfl) (Reps.none _ _))))))))))); intro v550 w73 ho74 hb hg_ hnew_; clear hg_ hnew_; (first | rw [← Ny549.out] at ho74 | (simp only [Int.reduceToNat] at ho74; rw [← Ny549.out] at ho74)); have HO551 := Aside0.mk (Kd.R_lower (Kd.R_new' ho74 (Kd.R_lt (kdt HO547.out))) (bsz HB.out)); replace HO547 := Aside0.mk (Kd.R_elder' (kdt HO547.out) (Kd.R_base ho74) hb); replace BK507 := Aside0.mk (bkb BK507.out hb); replace BK532 := Aside0.mk (bkb BK532.out hb); replace HB := Aside0.mk (bst HB.out hb); clear hb ho74; obtain ⟨Ao75, co75, eo75⟩ := Kd.R_slice HO551.out; subst eo75) | (go_at_call 21; (with_reducible refine (q_panels.calls k1 (⟨#[45, 45, 45, 120]⟩ : ByteArray) _ _ y549 true _ ?side1 ?side2 A54.out).mono ?_); (case side1 => repeat (first | exact (Kd.R_reads' HO551.out).2.2 | (with_reducible refine Kd.C_alloc ?_ _) | (with_reducible refine Kd.C_drewN ?_ _) | (with_reducible refine Kd.C_drew ?_))); (case side2 => exact (Kd.R_reads' HO551.out).2.1); rintro e w76 ⟨rfl, hb⟩; replace HO547 := Aside0.mk (Kd.R_below (kdt HO547.out) hb); replace HO551 := Aside0.mk (Kd.R_below (kdt HO551.out) hb); replace BK507 := Aside0.mk (bkb BK507.out hb); replace BK532 := Aside0.mk (bkb BK532.out hb); replace HB := Aside0.mk (bst HB.out hb); (try clear hb); (try clear hb2); (try clear hk); (try clear hi)) | ((with_reducible refine gate_dst (N := 67) rfl ?_); (try (refine gate_guard (by rfl) ?_; dsimp only)); refine Kd.R_lit (Kd.int .i64) _ 3 ?hg (N := 67) ?hd (xs := ([1, 2, 2, 2, 2, 1, 0, 0, 0] : List Int)) (inner := [.int .i64 1, .int .i64 2, .int .i64 2, .int .i64 2, .int .i64 2, .int .i64 1, .int .i64 0, .int .i64 0, .int .i64 0]) (ok := fun _ => True) (okp := fun _ => True) ?hr ?hp (fun _ hk => hk) trivial (Below.refl _ _) (Nat.le_refl _) (by simp) ?_; (case hd => rfl); (case hg => rfl); (case hr => first | (go_simp; done) | (go_simp; rfl)); (case hp => exact (Reps.one (show Kd.M (Kd.int .i64) _ _ _ 1 [.int .i64 1] from rfl) (Reps.one (show Kd.M (Kd.int .i64) _ _ _ 2 [.int .i64 2] from rfl) (Reps.one (show Kd.M (Kd.int .i64) _ _ _ 2 [.int .i64 2] from rfl) (Reps.one (show Kd.M (Kd.int .i64) _ _ _ 2 [.int .i64 2] from rfl) (Reps.one (show Kd.M (Kd.int .i64) _ _ _ 2 [.int .i64 2] from rfl) (Reps.one (show Kd.M (Kd.int .i64) _ _ _ 1 [.int .i64 1] from rfl) (Reps.one (show Kd.M (Kd.int .i64) _ _ _ 0 [.int .i64 0] from rfl) (Reps.one (show Kd.M (Kd.int .i64) _ _ _ 0 [.int .i64 0] from rfl) (Reps.one (show Kd.M (Kd.int .i64) _ _ _ 0 [.int .i64 0] from rfl) (Reps.none _ _))))))))))); intro v554 w77 ho78 hb hg_ hnew_; clear hg_ hnew_; (first | rw [← Ny553.out] at ho78 | (simp only [Int.reduceToNat] at ho78; rw [← Ny553.out] at ho78)); have HO555 := Aside0.mk (Kd.R_lower (Kd.R_new' (Kd.R_new' ho78 (Kd.R_lt (kdt HO547.out))) (Kd.R_lt (kdt HO551.out))) (bsz HB.out)); replace HO547 := Aside0.mk (Kd.R_elder' (kdt HO547.out) (Kd.R_base ho78) hb); replace HO551 := Aside0.mk (Kd.R_elder' (kdt HO551.out) (Kd.R_base ho78) hb); replace BK507 := Aside0.mk (bkb BK507.out hb); replace BK532 := Aside0.mk (bkb BK532.out hb); replace HB := Aside0.mk (bst HB.out hb); clear hb ho78; obtain ⟨Ao79, co79, eo79⟩ := Kd.R_slice HO555.out; subst eo79) | (go_at_call 21; (with_reducible refine (q_panels.calls k1 (⟨#[45, 45, 45, 120, 120, 120]⟩ : ByteArray) _ _ y553 true _ ?side1 ?side2 A56.out).mono ?_); (case side1 => repeat (first | exact (Kd.R_reads' HO555.out).2.2 | (with_reducible refine Kd.C_alloc ?_ _) | (with_reducible refine Kd.C_drewN ?_ _) | (with_reducible refine Kd.C_drew ?_))); (case side2 => exact (Kd.R_reads' HO555.out).2.1); rintro e w80 ⟨rfl, hb⟩; replace HO547 := Aside0.mk (Kd.R_below (kdt HO547.out) hb); replace HO551 := Aside0.mk (Kd.R_below (kdt HO551.out) hb); replace HO555 := Aside0.mk (Kd.R_below (kdt HO555.out) hb); replace BK507 := Aside0.mk (bkb BK507.out hb); replace BK532 := Aside0.mk (bkb BK532.out hb); replace HB := Aside0.mk (bst HB.out hb); (try clear hb); (try clear hb2); (try clear hk); (try clear hi)) | ((with_reducible refine gate_callee (f := 9) rfl ?_); refine gsl (some 70) Try.func9 #[] ?_; (with_reducible refine (q_awake.calls k1  true _ A58.out).mono ?_); rintro e w81 ⟨rfl, hb⟩; refine ⟨_, rfl, ?_⟩; replace HO547 := Aside0.mk (Kd.R_below (kdt HO547.out) hb); replace HO551 := Aside0.mk (Kd.R_below (kdt HO551.out) hb); replace HO555 := Aside0.mk (Kd.R_below (kdt HO555.out) hb); replace BK507 := Aside0.mk (bkb BK507.out hb); replace BK532 := Aside0.mk (bkb BK532.out hb); replace HB := Aside0.mk (bst HB.out hb); (try clear hb); (try clear hb2); (try clear hk); (try clear hi)) | ((with_reducible refine gate_dst (N := 75) rfl ?_); (try (refine gate_guard (by rfl) ?_; dsimp only)); refine Kd.R_lit (Kd.int .i64) _ 3 ?hg (N := 75) ?hd (xs := ([1, 0, 0, 0, 0, 0, 0, 0, 0] : List Int)) (inner := [.int .i64 1, .int .i64 0, .int .i64 0, .int .i64 0, .int .i64 0, .int .i64 0, .int .i64 0, .int .i64 0, .int .i64 0]) (ok := fun _ => True) (okp := fun _ => True) ?hr ?hp (fun _ hk => hk) trivial (Below.refl _ _) (Nat.le_refl _) (by simp) ?_; (case hd => rfl); (case hg => rfl); (case hr => first | (go_simp; done) | (go_simp; rfl)); (case hp => exact (Reps.one (show Kd.M (Kd.int .i64) _ _ _ 1 [.int .i64 1] from rfl) (Reps.one (show Kd.M (Kd.int .i64) _ _ _ 0 [.int .i64 0] from rfl) (Reps.one (show Kd.M (Kd.int .i64) _ _ _ 0 [.int .i64 0] from rfl) (Reps.one (show Kd.M (Kd.int .i64) _ _ _ 0 [.int .i64 0] from rfl) (Reps.one (show Kd.M (Kd.int .i64) _ _ _ 0 [.int .i64 0] from rfl) (Reps.one (show Kd.M (Kd.int .i64) _ _ _ 0 [.int .i64 0] from rfl) (Reps.one (show Kd.M (Kd.int .i64) _ _ _ 0 [.int .i64 0] from rfl) (Reps.one (show Kd.M (Kd.int .i64) _ _ _ 0 [.int .i64 0] from rfl) (Reps.one (show Kd.M (Kd.int .i64) _ _ _ 0 [.int .i64 0] from rfl) (Reps.none _ _))))))))))); intro v559 w82 ho83 hb hg_ hnew_; clear hg_ hnew_; (first | rw [← Ny558.out] at ho83 | (simp only [Int.reduceToNat] at ho83; rw [← Ny558.out] at ho83)); have HO560 := Aside0.mk (Kd.R_lower (Kd.R_new' (Kd.R_new' (Kd.R_new' ho83 (Kd.R_lt (kdt HO547.out))) (Kd.R_lt (kdt HO551.out))) (Kd.R_lt (kdt HO555.out))) (bsz HB.out)); replace HO547 := Aside0.mk (Kd.R_elder' (kdt HO547.out) (Kd.R_base ho83) hb); replace HO551 := Aside0.mk (Kd.R_elder' (kdt HO551.out) (Kd.R_base ho83) hb); replace HO555 := Aside0.mk (Kd.R_elder' (kdt HO555.out) (Kd.R_base ho83) hb); replace BK507 := Aside0.mk (bkb BK507.out hb); replace BK532 := Aside0.mk (bkb BK532.out hb); replace HB := Aside0.mk (bst HB.out hb); clear hb ho83; obtain ⟨Ao84, co84, eo84⟩ := Kd.R_slice HO560.out; subst eo84) | (go_at_call 22; (with_reducible refine (q_forced.calls k1 1 _ _ y558 true _ ?side1 ?side2 A60.out).mono ?_); (case side1 => repeat (first | exact (Kd.R_reads' HO560.out).2.2 | (with_reducible refine Kd.C_alloc ?_ _) | (with_reducible refine Kd.C_drewN ?_ _) | (with_reducible refine Kd.C_drew ?_))); (case side2 => exact (Kd.R_reads' HO560.out).2.1); rintro e w85 ⟨rfl, hb⟩; replace HO547 := Aside0.mk (Kd.R_below (kdt HO547.out) hb); replace HO551 := Aside0.mk (Kd.R_below (kdt HO551.out) hb); replace HO555 := Aside0.mk (Kd.R_below (kdt HO555.out) hb); replace HO560 := Aside0.mk (Kd.R_below (kdt HO560.out) hb); replace BK507 := Aside0.mk (bkb BK507.out hb); replace BK532 := Aside0.mk (bkb BK532.out hb); replace HB := Aside0.mk (bst HB.out hb); (try clear hb); (try clear hb2); (try clear hk); (try clear hi)) | ((with_reducible refine gate_dst (N := 79) rfl ?_); (try (refine gate_guard (by rfl) ?_; dsimp only)); refine Kd.R_lit (Kd.int .i64) _ 3 ?hg (N := 79) ?hd (xs := ([0, 0, 0, 0, 0, 0, 0, 0, 0] : List Int)) (inner := [.int .i64 0, .int .i64 0, .int .i64 0, .int .i64 0, .int .i64 0, .int .i64 0, .int .i64 0, .int .i64 0, .int .i64 0]) (ok := fun _ => True) (okp := fun _ => True) ?hr ?hp (fun _ hk => hk) trivial (Below.refl _ _) (Nat.le_refl _) (by simp) ?_; (case hd => rfl); (case hg => rfl); (case hr => first | (go_simp; done) | (go_simp; rfl)); (case hp => exact (Reps.one (show Kd.M (Kd.int .i64) _ _ _ 0 [.int .i64 0] from rfl) (Reps.one (show Kd.M (Kd.int .i64) _ _ _ 0 [.int .i64 0] from rfl) (Reps.one (show Kd.M (Kd.int .i64) _ _ _ 0 [.int .i64 0] from rfl) (Reps.one (show Kd.M (Kd.int .i64) _ _ _ 0 [.int .i64 0] from rfl) (Reps.one (show Kd.M (Kd.int .i64) _ _ _ 0 [.int .i64 0] from rfl) (Reps.one (show Kd.M (Kd.int .i64) _ _ _ 0 [.int .i64 0] from rfl) (Reps.one (show Kd.M (Kd.int .i64) _ _ _ 0 [.int .i64 0] from rfl) (Reps.one (show Kd.M (Kd.int .i64) _ _ _ 0 [.int .i64 0] from rfl) (Reps.one (show Kd.M (Kd.int .i64) _ _ _ 0 [.int .i64 0] from rfl) (Reps.none _ _))))))))))); intro v563 w86 ho87 hb hg_ hnew_; clear hg_ hnew_; (first | rw [← Ny562.out] at ho87 | (simp only [Int.reduceToNat] at ho87; rw [← Ny562.out] at ho87)); have HO564 := Aside0.mk (Kd.R_lower (Kd.R_new' (Kd.R_new' (Kd.R_new' (Kd.R_new' ho87 (Kd.R_lt (kdt HO547.out))) (Kd.R_lt (kdt HO551.out))) (Kd.R_lt (kdt HO555.out))) (Kd.R_lt (kdt HO560.out))) (bsz HB.out)); replace HO547 := Aside0.mk (Kd.R_elder' (kdt HO547.out) (Kd.R_base ho87) hb); replace HO551 := Aside0.mk (Kd.R_elder' (kdt HO551.out) (Kd.R_base ho87) hb); replace HO555 := Aside0.mk (Kd.R_elder' (kdt HO555.out) (Kd.R_base ho87) hb); replace HO560 := Aside0.mk (Kd.R_elder' (kdt HO560.out) (Kd.R_base ho87) hb); replace BK507 := Aside0.mk (bkb BK507.out hb); replace BK532 := Aside0.mk (bkb BK532.out hb); replace HB := Aside0.mk (bst HB.out hb); clear hb ho87; obtain ⟨Ao88, co88, eo88⟩ := Kd.R_slice HO564.out; subst eo88) | (go_at_call 22; (with_reducible refine (q_forced.calls k1 0 _ _ y562 true _ ?side1 ?side2 A62.out).mono ?_); (case side1 => repeat (first | exact (Kd.R_reads' HO564.out).2.2 | (with_reducible refine Kd.C_alloc ?_ _) | (with_reducible refine Kd.C_drewN ?_ _) | (with_reducible refine Kd.C_drew ?_))); (case side2 => exact (Kd.R_reads' HO564.out).2.1); rintro e w89 ⟨rfl, hb⟩; replace HO547 := Aside0.mk (Kd.R_below (kdt HO547.out) hb); replace HO551 := Aside0.mk (Kd.R_below (kdt HO551.out) hb); replace HO555 := Aside0.mk (Kd.R_below (kdt HO555.out) hb); replace HO560 := Aside0.mk (Kd.R_below (kdt HO560.out) hb); replace HO564 := Aside0.mk (Kd.R_below (kdt HO564.out) hb); replace BK507 := Aside0.mk (bkb BK507.out hb); replace BK532 := Aside0.mk (bkb BK532.out hb); replace HB := Aside0.mk (bst HB.out hb); (try clear hb); (try clear hb2); (try clear hk); (try clear hi); have hnb90 := NB532_507.out; have hnc90 := NB507_532.out; have hcz91_0 := cz6 BK532.out; have hfz91_0 := blk_frozen BK532.out))
               go_ret
               exact bfin (bel HB.out)
              ·rw [if_neg c68] at H
               exact absurd H (by simp)
             ·rw [if_neg c67] at H
              exact absurd H (by simp)
            ·rw [if_neg c66] at H
             exact absurd H (by simp)
           ·rw [if_neg c65] at H
            exact absurd H (by simp)
          ·rw [if_neg c64] at H
           exact absurd H (by simp)
         ·replace c63 := Bool.eq_false_iff.mpr c63
          subst c63
          have H1 : (none) = some r := by rw [if_neg (show ¬ (false = true) by decide)] at H; exact H
          clear H
          have H := H1
          clear H1
          exact absurd H (by simp)
        ·replace c61 := Bool.eq_false_iff.mpr c61
         subst c61
         have H1 : (none) = some r := by rw [if_neg (show ¬ (false = true) by decide)] at H; exact H
         clear H
         have H := H1
         clear H1
         exact absurd H (by simp)
       ·replace c59 := Bool.eq_false_iff.mpr c59
        subst c59
        have H1 : (none) = some r := by rw [if_neg (show ¬ (false = true) by decide)] at H; exact H
        clear H
        have H := H1
        clear H1
        exact absurd H (by simp)
      ·replace c57 := Bool.eq_false_iff.mpr c57
       subst c57
       have H1 : (none) = some r := by rw [if_neg (show ¬ (false = true) by decide)] at H; exact H
       clear H
       have H := H1
       clear H1
       exact absurd H (by simp)
     ·replace c55 := Bool.eq_false_iff.mpr c55
      subst c55
      have H1 : (none) = some r := by rw [if_neg (show ¬ (false = true) by decide)] at H; exact H
      clear H
      have H := H1
      clear H1
      exact absurd H (by simp)
    ·replace c53 := Bool.eq_false_iff.mpr c53
     subst c53
     have H1 : (none) = some r := by rw [if_neg (show ¬ (false = true) by decide)] at H; exact H
     clear H
     have H := H1
     clear H1
     exact absurd H (by simp)

/-- THE ONE PURE STATEMENT of q_CycleKnown: yours. -/
def q_CycleKnown.Pure : Prop := ∃ k, q_CycleKnown.f k  = some true
theorem q_CycleKnown.walk (P : q_CycleKnown.Pure)  (w : World)  :
  Calls Try.prog 4 #[] w fun e w' => e = .returned (.bool true) ∧ Below w.heap.size w w' := by
 obtain ⟨k, h⟩ := P  
 refine (q_CycleKnown.calls k  true w h).mono ?_
 rintro e w' ⟨rfl, hd⟩
 exact ⟨rfl, hd⟩

end Go.Proofs.Ytmjmdnpenpdmhaa.P
