-- Printed by wip/myprint.py of this repo (over the kit's printer). Not trusted: Lean checks it.
import Derived.Test.YtofffhnhinolnaaP0
import Derived.Test.YtofffhnhinolnaaE23
import Derived.Test.YtofffhnhinolnaaP0doora
import Derived.Test.YtofffhnhinolnaaP0tipstaffkit
import Derived.Test.YtofffhnhinolnaaP0tipstafflaw18
import Derived.Test.YtofffhnhinolnaaP1door
import Derived.Test.YtofffhnhinolnaaP1tipstafflaw18
import Derived.Test.YtofffhnhinolnaaRa
namespace Go.Proofs.Ytofffhnhinolnaa.P
open Go.RowKit Go.Proofs.YtofffhnhinolnaaW.PrintWords Go.Proofs.YtofffhnhinolnaaW.PrintLast Go.Proofs.YtofffhnhinolnaaW.PrintMore
attribute [local go_sem] max2_int min2_int max_two min_two max_three min_three max_four min_four   -- for this text's walks alone
set_option linter.unusedVariables false
set_option linter.unusedSimpArgs false

attribute [local go_sem high] eqA23
/-! ### q_DoorCycles: function 6 -/
mutual
def q_DoorCycles.j0 : Nat → List Bool → Int → Int → Bool → Int → Int → Int → Int → Int → Int → Int → Option (Bool)
 | 0, _, _, _, _, _, _, _, _, _, _, _ => none
 | k + 1, x1, x2, x8, x47, x336000, x336001, x336002, x344000, x344001, x344002, x344003 => if x47 = true then (none) else ((kit_Mod.f x2 (wrap64 (2 * x8))).bind fun t344 => (q_DoorCycles.l0 k x1 x8 t344 0 x336000 x336001 x336002 x344000 x344001 x344002 x344003))
def q_DoorCycles.l0 : Nat → List Bool → Int → Int → Int → Int → Int → Int → Int → Int → Int → Int → Option (Bool)
 | 0, _, _, _, _, _, _, _, _, _, _, _ => none
 | k + 1, x1, x8, x12, x13, x336000, x336001, x336002, x344000, x344001, x344002, x344003 => if x13 < x8 then (if x13 = x12 then ((door_Force.f k x344000 x344001 x344002 x344003 x336000 x336001 x336002).bind fun bt346 => (if bt346.2.2.2.2 = 0 then (q_DoorCycles.j2 k x1 x8 x12 x13 x344001 (bt346.2.1 != x344001) x336000 x336001 x336002 bt346.1 bt346.2.1 bt346.2.2.1 bt346.2.2.2.1) else (q_DoorCycles.j2 k x1 x8 x12 x13 x344001 true x336000 x336001 x336002 bt346.1 bt346.2.1 bt346.2.2.1 bt346.2.2.2.1))) else (if x13 < (x1.length : Int) then (if 0 ≤ x13 then ((door_Step.f k x344000 x344001 x344002 x344003 x336000 x336001 x336002 (rdOf false x1 x13)).bind fun bt370 => (if bt370.2.2.2.2.2 = 0 then (if bt370.2.1 < 0 then (none) else (if bt370.2.1 > x336000 then (none) else (if bt370.2.1 > (wrap64 (x344001 + 1)) then (none) else (if bt370.2.1 < (wrap64 (x344001 - 1)) then (none) else (if bt370.2.1 > (wrap64 ((wrap64 (x8 - x13)) - 1)) then (none) else (q_DoorCycles.l0 k x1 x8 x12 (wrap64 (x13 + 1)) x336000 x336001 x336002 bt370.1 bt370.2.1 bt370.2.2.1 bt370.2.2.2.1)))))) else (none))) else (none)) else ((door_Step.f k x344000 x344001 x344002 x344003 x336000 x336001 x336002 false).bind fun bt377 => (if bt377.2.2.2.2.2 = 0 then (if bt377.2.1 < 0 then (none) else (if bt377.2.1 > x336000 then (none) else (if bt377.2.1 > (wrap64 (x344001 + 1)) then (none) else (if bt377.2.1 < (wrap64 (x344001 - 1)) then (none) else (if bt377.2.1 > (wrap64 ((wrap64 (x8 - x13)) - 1)) then (none) else (q_DoorCycles.l0 k x1 x8 x12 (wrap64 (x13 + 1)) x336000 x336001 x336002 bt377.1 bt377.2.1 bt377.2.2.1 bt377.2.2.2.1)))))) else (none))))) else (if (x344000 == 0 && (x344001 == 0 && (x344002 == 0 && (x344003 == 0)))) = true then ((q_awake.f k).bind fun t345 => (if t345 = true then (some true) else (none))) else (none))
def q_DoorCycles.j2 : Nat → List Bool → Int → Int → Int → Int → Bool → Int → Int → Int → Int → Int → Int → Int → Option (Bool)
 | 0, _, _, _, _, _, _, _, _, _, _, _, _, _ => none
 | k + 1, x1, x8, x12, x13, x14, x75, x336000, x336001, x336002, x344000, x344001, x344002, x344003 => if x75 = true then (none) else ((door_Rest.f x344000 x344001 x344002 x344003 x336000 x336001 x336002).bind fun bt351 => (if bt351.2.2 = 0 then (if bt351.1 = x14 then (q_DoorCycles.j3 k x1 x8 x12 x13 (bt351.2.1 != x14) x336000 x336001 x336002 x344000 x344001 x344002 x344003) else (q_DoorCycles.j3 k x1 x8 x12 x13 true x336000 x336001 x336002 x344000 x344001 x344002 x344003)) else (q_DoorCycles.j3 k x1 x8 x12 x13 true x336000 x336001 x336002 x344000 x344001 x344002 x344003)))
def q_DoorCycles.j3 : Nat → List Bool → Int → Int → Int → Bool → Int → Int → Int → Int → Int → Int → Int → Option (Bool)
 | 0, _, _, _, _, _, _, _, _, _, _, _, _ => none
 | k + 1, x1, x8, x12, x13, x94, x336000, x336001, x336002, x344000, x344001, x344002, x344003 => if x94 = true then (none) else (if x13 < (x1.length : Int) then (if 0 ≤ x13 then ((door_Step.f k x344000 x344001 x344002 x344003 x336000 x336001 x336002 (rdOf false x1 x13)).bind fun bt355 => (if bt355.2.2.2.2.2 = 0 then (if bt355.2.1 < 0 then (none) else (if bt355.2.1 > x336000 then (none) else (if bt355.2.1 > (wrap64 (x344001 + 1)) then (none) else (if bt355.2.1 < (wrap64 (x344001 - 1)) then (none) else (if bt355.2.1 > (wrap64 ((wrap64 (x8 - x13)) - 1)) then (none) else (q_DoorCycles.l0 k x1 x8 x12 (wrap64 (x13 + 1)) x336000 x336001 x336002 bt355.1 bt355.2.1 bt355.2.2.1 bt355.2.2.2.1)))))) else (none))) else (none)) else ((door_Step.f k x344000 x344001 x344002 x344003 x336000 x336001 x336002 false).bind fun bt362 => (if bt362.2.2.2.2.2 = 0 then (if bt362.2.1 < 0 then (none) else (if bt362.2.1 > x336000 then (none) else (if bt362.2.1 > (wrap64 (x344001 + 1)) then (none) else (if bt362.2.1 < (wrap64 (x344001 - 1)) then (none) else (if bt362.2.1 > (wrap64 ((wrap64 (x8 - x13)) - 1)) then (none) else (q_DoorCycles.l0 k x1 x8 x12 (wrap64 (x13 + 1)) x336000 x336001 x336002 bt362.1 bt362.2.1 bt362.2.2.1 bt362.2.2.2.1)))))) else (none))))
end
def q_DoorCycles.f (k : Nat) (a0 : Int) (l1 : List Bool) (a2 : Int) : Option (Bool) := (q_made.f a0).bind fun bt332 => ((door_Worst.f bt332.1 bt332.2.1 bt332.2.2).bind fun bt336 => ((door_Open.f k 0 0 0 0 bt332.1 bt332.2.1 bt332.2.2).bind fun bt338 => (if bt336.2 = 0 then (if bt338.2.2.2.2 = 0 then (if bt336.1 < 1 then (q_DoorCycles.j0 k l1 a2 bt336.1 true bt332.1 bt332.2.1 bt332.2.2 bt338.1 bt338.2.1 bt338.2.2.1 bt338.2.2.2.1) else (q_DoorCycles.j0 k l1 a2 bt336.1 (decide (bt336.1 > 300)) bt332.1 bt332.2.1 bt332.2.2 bt338.1 bt338.2.1 bt338.2.2.1 bt338.2.2.2.1)) else (q_DoorCycles.j0 k l1 a2 bt336.1 true bt332.1 bt332.2.1 bt332.2.2 bt338.1 bt338.2.1 bt338.2.2.1 bt338.2.2.2.1)) else (q_DoorCycles.j0 k l1 a2 bt336.1 true bt332.1 bt332.2.1 bt332.2.2 bt338.1 bt338.2.1 bt338.2.2.1 bt338.2.2.2.1))))
theorem q_DoorCycles.mono_l : ∀ k, (∀ y0 y1 y2 y3 y4 y5 y6 y7 y8 y9 y10, LeO (q_DoorCycles.j0 k y0 y1 y2 y3 y4 y5 y6 y7 y8 y9 y10) (q_DoorCycles.j0 (k + 1) y0 y1 y2 y3 y4 y5 y6 y7 y8 y9 y10)) ∧ (∀ y0 y1 y2 y3 y4 y5 y6 y7 y8 y9 y10, LeO (q_DoorCycles.l0 k y0 y1 y2 y3 y4 y5 y6 y7 y8 y9 y10) (q_DoorCycles.l0 (k + 1) y0 y1 y2 y3 y4 y5 y6 y7 y8 y9 y10)) ∧ (∀ y0 y1 y2 y3 y4 y5 y6 y7 y8 y9 y10 y11 y12, LeO (q_DoorCycles.j2 k y0 y1 y2 y3 y4 y5 y6 y7 y8 y9 y10 y11 y12) (q_DoorCycles.j2 (k + 1) y0 y1 y2 y3 y4 y5 y6 y7 y8 y9 y10 y11 y12)) ∧ (∀ y0 y1 y2 y3 y4 y5 y6 y7 y8 y9 y10 y11, LeO (q_DoorCycles.j3 k y0 y1 y2 y3 y4 y5 y6 y7 y8 y9 y10 y11) (q_DoorCycles.j3 (k + 1) y0 y1 y2 y3 y4 y5 y6 y7 y8 y9 y10 y11))
 | 0 => ⟨fun _ _ _ _ _ _ _ _ _ _ _ r h => by simp [q_DoorCycles.j0] at h, fun _ _ _ _ _ _ _ _ _ _ _ r h => by simp [q_DoorCycles.l0] at h, fun _ _ _ _ _ _ _ _ _ _ _ _ _ r h => by simp [q_DoorCycles.j2] at h, fun _ _ _ _ _ _ _ _ _ _ _ _ r h => by simp [q_DoorCycles.j3] at h⟩
 | k + 1 => by
  obtain ⟨ih0, ih1, ih2, ih3⟩ := q_DoorCycles.mono_l k
  refine ⟨?_, ?_, ?_, ?_⟩
  ·intro y0 y1 y2 y3 y4 y5 y6 y7 y8 y9 y10
   unfold q_DoorCycles.j0
   repeat' first
   | (with_reducible exact ih0 _ _ _ _ _ _ _ _ _ _ _)
   | (with_reducible exact ih1 _ _ _ _ _ _ _ _ _ _ _)
   | (with_reducible exact ih2 _ _ _ _ _ _ _ _ _ _ _ _ _)
   | (with_reducible exact ih3 _ _ _ _ _ _ _ _ _ _ _ _)
   | (with_reducible exact door_Force.mono _ _ _ _ _ _ _ _)
   | (with_reducible exact door_Open.mono _ _ _ _ _ _ _ _)
   | (with_reducible exact door_Step.mono _ _ _ _ _ _ _ _ _)
   | (with_reducible exact q_awake.mono _)
   | (with_reducible exact LeO.refl _)
   | (with_reducible exact LeO.none _)
   | (with_reducible refine LeO.ite ?_ ?_)
   | (with_reducible refine LeO.bind ?_ (fun _ => ?_))
   | exact ih0 _ _ _ _ _ _ _ _ _ _ _
   | exact ih1 _ _ _ _ _ _ _ _ _ _ _
   | exact ih2 _ _ _ _ _ _ _ _ _ _ _ _ _
   | exact ih3 _ _ _ _ _ _ _ _ _ _ _ _
   | exact door_Force.mono _ _ _ _ _ _ _ _
   | exact door_Open.mono _ _ _ _ _ _ _ _
   | exact door_Step.mono _ _ _ _ _ _ _ _ _
   | exact q_awake.mono _
   | exact LeO.none _
   | refine LeO.ite ?_ ?_
   | refine LeO.bind ?_ (fun _ => ?_)
  ·intro y0 y1 y2 y3 y4 y5 y6 y7 y8 y9 y10
   unfold q_DoorCycles.l0
   repeat' first
   | (with_reducible exact ih0 _ _ _ _ _ _ _ _ _ _ _)
   | (with_reducible exact ih1 _ _ _ _ _ _ _ _ _ _ _)
   | (with_reducible exact ih2 _ _ _ _ _ _ _ _ _ _ _ _ _)
   | (with_reducible exact ih3 _ _ _ _ _ _ _ _ _ _ _ _)
   | (with_reducible exact door_Force.mono _ _ _ _ _ _ _ _)
   | (with_reducible exact door_Open.mono _ _ _ _ _ _ _ _)
   | (with_reducible exact door_Step.mono _ _ _ _ _ _ _ _ _)
   | (with_reducible exact q_awake.mono _)
   | (with_reducible exact LeO.refl _)
   | (with_reducible exact LeO.none _)
   | (with_reducible refine LeO.ite ?_ ?_)
   | (with_reducible refine LeO.bind ?_ (fun _ => ?_))
   | exact ih0 _ _ _ _ _ _ _ _ _ _ _
   | exact ih1 _ _ _ _ _ _ _ _ _ _ _
   | exact ih2 _ _ _ _ _ _ _ _ _ _ _ _ _
   | exact ih3 _ _ _ _ _ _ _ _ _ _ _ _
   | exact door_Force.mono _ _ _ _ _ _ _ _
   | exact door_Open.mono _ _ _ _ _ _ _ _
   | exact door_Step.mono _ _ _ _ _ _ _ _ _
   | exact q_awake.mono _
   | exact LeO.none _
   | refine LeO.ite ?_ ?_
   | refine LeO.bind ?_ (fun _ => ?_)
  ·intro y0 y1 y2 y3 y4 y5 y6 y7 y8 y9 y10 y11 y12
   unfold q_DoorCycles.j2
   repeat' first
   | (with_reducible exact ih0 _ _ _ _ _ _ _ _ _ _ _)
   | (with_reducible exact ih1 _ _ _ _ _ _ _ _ _ _ _)
   | (with_reducible exact ih2 _ _ _ _ _ _ _ _ _ _ _ _ _)
   | (with_reducible exact ih3 _ _ _ _ _ _ _ _ _ _ _ _)
   | (with_reducible exact door_Force.mono _ _ _ _ _ _ _ _)
   | (with_reducible exact door_Open.mono _ _ _ _ _ _ _ _)
   | (with_reducible exact door_Step.mono _ _ _ _ _ _ _ _ _)
   | (with_reducible exact q_awake.mono _)
   | (with_reducible exact LeO.refl _)
   | (with_reducible exact LeO.none _)
   | (with_reducible refine LeO.ite ?_ ?_)
   | (with_reducible refine LeO.bind ?_ (fun _ => ?_))
   | exact ih0 _ _ _ _ _ _ _ _ _ _ _
   | exact ih1 _ _ _ _ _ _ _ _ _ _ _
   | exact ih2 _ _ _ _ _ _ _ _ _ _ _ _ _
   | exact ih3 _ _ _ _ _ _ _ _ _ _ _ _
   | exact door_Force.mono _ _ _ _ _ _ _ _
   | exact door_Open.mono _ _ _ _ _ _ _ _
   | exact door_Step.mono _ _ _ _ _ _ _ _ _
   | exact q_awake.mono _
   | exact LeO.none _
   | refine LeO.ite ?_ ?_
   | refine LeO.bind ?_ (fun _ => ?_)
  ·intro y0 y1 y2 y3 y4 y5 y6 y7 y8 y9 y10 y11
   unfold q_DoorCycles.j3
   repeat' first
   | (with_reducible exact ih0 _ _ _ _ _ _ _ _ _ _ _)
   | (with_reducible exact ih1 _ _ _ _ _ _ _ _ _ _ _)
   | (with_reducible exact ih2 _ _ _ _ _ _ _ _ _ _ _ _ _)
   | (with_reducible exact ih3 _ _ _ _ _ _ _ _ _ _ _ _)
   | (with_reducible exact door_Force.mono _ _ _ _ _ _ _ _)
   | (with_reducible exact door_Open.mono _ _ _ _ _ _ _ _)
   | (with_reducible exact door_Step.mono _ _ _ _ _ _ _ _ _)
   | (with_reducible exact q_awake.mono _)
   | (with_reducible exact LeO.refl _)
   | (with_reducible exact LeO.none _)
   | (with_reducible refine LeO.ite ?_ ?_)
   | (with_reducible refine LeO.bind ?_ (fun _ => ?_))
   | exact ih0 _ _ _ _ _ _ _ _ _ _ _
   | exact ih1 _ _ _ _ _ _ _ _ _ _ _
   | exact ih2 _ _ _ _ _ _ _ _ _ _ _ _ _
   | exact ih3 _ _ _ _ _ _ _ _ _ _ _ _
   | exact door_Force.mono _ _ _ _ _ _ _ _
   | exact door_Open.mono _ _ _ _ _ _ _ _
   | exact door_Step.mono _ _ _ _ _ _ _ _ _
   | exact q_awake.mono _
   | exact LeO.none _
   | refine LeO.ite ?_ ?_
   | refine LeO.bind ?_ (fun _ => ?_)
theorem q_DoorCycles.mono : ∀ a0 a1 a2 k, LeO (q_DoorCycles.f k a0 a1 a2) (q_DoorCycles.f (k + 1) a0 a1 a2) := by
 intro a0 a1 a2 k
 obtain ⟨ih0, ih1, ih2, ih3⟩ := q_DoorCycles.mono_l k
 unfold q_DoorCycles.f
 repeat' first
   | (with_reducible exact ih0 _ _ _ _ _ _ _ _ _ _ _)
   | (with_reducible exact ih1 _ _ _ _ _ _ _ _ _ _ _)
   | (with_reducible exact ih2 _ _ _ _ _ _ _ _ _ _ _ _ _)
   | (with_reducible exact ih3 _ _ _ _ _ _ _ _ _ _ _ _)
   | (with_reducible exact door_Force.mono _ _ _ _ _ _ _ _)
   | (with_reducible exact door_Open.mono _ _ _ _ _ _ _ _)
   | (with_reducible exact door_Step.mono _ _ _ _ _ _ _ _ _)
   | (with_reducible exact q_awake.mono _)
   | (with_reducible exact LeO.refl _)
   | (with_reducible exact LeO.none _)
   | (with_reducible refine LeO.ite ?_ ?_)
   | (with_reducible refine LeO.bind ?_ (fun _ => ?_))
   | exact ih0 _ _ _ _ _ _ _ _ _ _ _
   | exact ih1 _ _ _ _ _ _ _ _ _ _ _
   | exact ih2 _ _ _ _ _ _ _ _ _ _ _ _ _
   | exact ih3 _ _ _ _ _ _ _ _ _ _ _ _
   | exact door_Force.mono _ _ _ _ _ _ _ _
   | exact door_Open.mono _ _ _ _ _ _ _ _
   | exact door_Step.mono _ _ _ _ _ _ _ _ _
   | exact q_awake.mono _
   | exact LeO.none _
   | refine LeO.ite ?_ ?_
   | refine LeO.bind ?_ (fun _ => ?_)
def q_DoorCycles.T18 : Bool × List (List Nat × List Nat) := (true, [([], []), ([], []), ([], []), ([], []), ([3], [3]), ([2, 4], [2, 4]), ([5], [5]), ([6], [6]), ([6], [6]), ([7, 8, 6], [6, 7, 8]), ([9, 6], [6, 9]), ([6, 10], [6, 10]), ([0, 1, 11, 6], [0, 1, 11]), ([12], [12]), ([13], [13]), ([13], [13]), ([13], [13]), ([], []), ([17, 14, 12, 0, 1, 2, 3, 4, 5, 6, 7, 8, 9, 10, 11, 12, 13, 14, 17], [14, 17]), ([15, 18, 0, 1, 2, 3, 4, 5, 6, 7, 8, 9, 10, 11, 12, 13, 14, 15, 17, 18], [15]), ([16, 19, 0, 1, 2, 3, 4, 5, 6, 7, 8, 9, 10, 11, 12, 13, 14, 15, 16, 17, 18, 19], [16])])
def q_DoorCycles.B18 : List Nat := [0, 0, 0, 0, 8, 28, 60, 124, 124, 508, 1020, 2044, 4095, 8191, 16383, 16383, 16383, 0, 163839, 458751, 1048575]
theorem q_DoorCycles.tab18 : rtab .any (opsOf Try.f6 18) = q_DoorCycles.T18 := by kernel_rfl
theorem q_DoorCycles.bits18 : waitsOk q_DoorCycles.T18.2 q_DoorCycles.B18 = true := by kernel_rfl
set_option maxHeartbeats 8000000 in
set_option maxRecDepth 100000 in
theorem q_DoorCycles.calls (k : Nat) (a0 : Int) (A1 : Option Addr) (c1 : Nat) (l1 : List Bool) (a2 : Int) (r : Bool) (w : World) (hr1 : Kd.C Kd.bool w A1 l1.length l1) (hc1 : l1.length ≤ c1) (h : q_DoorCycles.f k a0 l1 a2 = some r) :
  Calls Try.prog 6 #[.int .i64 a0, .slice A1 l1.length c1, .int .i64 a2] w fun e w' => e = .returned (.bool r) ∧ Below w.heap.size w w' := by
 have hu25 := Try.underlying25
 have hu23 := Try.underlying23
 have HR1 := Aside0.mk hr1
 have HC1 := Aside0.mk hc1
 clear hr1 hc1
 have HB := Aside0.mk (Below.refl w.heap.size w)
 have H : ((q_made.f a0).bind fun bt332 => ((door_Worst.f bt332.1 bt332.2.1 bt332.2.2).bind fun bt336 => ((door_Open.f k 0 0 0 0 bt332.1 bt332.2.1 bt332.2.2).bind fun bt338 => (if bt336.2 = 0 then (if bt338.2.2.2.2 = 0 then (if bt336.1 < 1 then (q_DoorCycles.j0 k l1 a2 bt336.1 true bt332.1 bt332.2.1 bt332.2.2 bt338.1 bt338.2.1 bt338.2.2.1 bt338.2.2.2.1) else (q_DoorCycles.j0 k l1 a2 bt336.1 (decide (bt336.1 > 300)) bt332.1 bt332.2.1 bt332.2.2 bt338.1 bt338.2.1 bt338.2.2.1 bt338.2.2.2.1)) else (q_DoorCycles.j0 k l1 a2 bt336.1 true bt332.1 bt332.2.1 bt332.2.2 bt338.1 bt338.2.1 bt338.2.2.1 bt338.2.2.2.1)) else (q_DoorCycles.j0 k l1 a2 bt336.1 true bt332.1 bt332.2.1 bt332.2.2 bt338.1 bt338.2.1 bt338.2.2.1 bt338.2.2.2.1))))) = some r := h
 clear h
 replace H := Option.bind_eq_some_iff.mp H
 obtain ⟨⟨t332, t333, t334⟩, A40, H⟩ := H
 replace H : ((door_Worst.f t332 t333 t334).bind fun bt336 => ((door_Open.f k 0 0 0 0 t332 t333 t334).bind fun bt338 => (if bt336.2 = 0 then (if bt338.2.2.2.2 = 0 then (if bt336.1 < 1 then (q_DoorCycles.j0 k l1 a2 bt336.1 true t332 t333 t334 bt338.1 bt338.2.1 bt338.2.2.1 bt338.2.2.2.1) else (q_DoorCycles.j0 k l1 a2 bt336.1 (decide (bt336.1 > 300)) t332 t333 t334 bt338.1 bt338.2.1 bt338.2.2.1 bt338.2.2.2.1)) else (q_DoorCycles.j0 k l1 a2 bt336.1 true t332 t333 t334 bt338.1 bt338.2.1 bt338.2.2.1 bt338.2.2.2.1)) else (q_DoorCycles.j0 k l1 a2 bt336.1 true t332 t333 t334 bt338.1 bt338.2.1 bt338.2.2.1 bt338.2.2.2.1)))) = some r := H
 have A4 := Aside0.mk A40
 clear A40
 replace H := Option.bind_eq_some_iff.mp H
 obtain ⟨⟨t336, t337⟩, A50, H⟩ := H
 replace H : ((door_Open.f k 0 0 0 0 t332 t333 t334).bind fun bt338 => (if t337 = 0 then (if bt338.2.2.2.2 = 0 then (if t336 < 1 then (q_DoorCycles.j0 k l1 a2 t336 true t332 t333 t334 bt338.1 bt338.2.1 bt338.2.2.1 bt338.2.2.2.1) else (q_DoorCycles.j0 k l1 a2 t336 (decide (t336 > 300)) t332 t333 t334 bt338.1 bt338.2.1 bt338.2.2.1 bt338.2.2.2.1)) else (q_DoorCycles.j0 k l1 a2 t336 true t332 t333 t334 bt338.1 bt338.2.1 bt338.2.2.1 bt338.2.2.2.1)) else (q_DoorCycles.j0 k l1 a2 t336 true t332 t333 t334 bt338.1 bt338.2.1 bt338.2.2.1 bt338.2.2.2.1))) = some r := H
 have A5 := Aside0.mk A50
 clear A50
 replace H := Option.bind_eq_some_iff.mp H
 obtain ⟨⟨t338, t339, t340, t341, t342⟩, A60, H⟩ := H
 replace H : (if t337 = 0 then (if t342 = 0 then (if t336 < 1 then (q_DoorCycles.j0 k l1 a2 t336 true t332 t333 t334 t338 t339 t340 t341) else (q_DoorCycles.j0 k l1 a2 t336 (decide (t336 > 300)) t332 t333 t334 t338 t339 t340 t341)) else (q_DoorCycles.j0 k l1 a2 t336 true t332 t333 t334 t338 t339 t340 t341)) else (q_DoorCycles.j0 k l1 a2 t336 true t332 t333 t334 t338 t339 t340 t341)) = some r := H
 have A6 := Aside0.mk A60
 clear A60
 have HC7 := Aside0.mk H
 clear H
 go_enter Try.func6, Try.ntmps6
 go_upto_region 4 with (first | ((with_reducible refine gate_callee (f := 27) rfl ?_); refine goesL_ (some 22) rfl rfl Try.func27 (by kernel_rfl) rfl #[.int .i64 a0] rfl (by (try simp only [List.map_toArray, List.map_cons, List.map_nil]); first | done | rfl | (simp only [List.length_drop, List.length_take]; rfl)) ?_; (with_reducible refine (q_made.calls a0 t332 t333 t334 _ A4.out).mono ?_); rintro e w8 ⟨rfl, hb⟩; refine ⟨_, rfl, ?_⟩; have n0_ := Aside0.mk (below_step (by repeat (first | (with_reducible first | exact HB.out | apply below_alloc | apply pw_below_drewN | apply below_drew1) | exact HB.out)) hb); clear HB; have HB := n0_; clear n0_; (try clear hb); (try clear hb2); (try clear hk); (try clear hi)) | ((with_reducible refine gate_dst (N := 7) rfl ?_); refine box_event ?hg (N := 7) ?hd (cs := #[.int .i64 0, .int .i64 0, .int .i64 0]) (t := 25) ?hr ?_; (case hd => rfl); (case hg => rfl); (case hr => first | (go_simp; done) | (go_simp; rfl)); intro gb335 hg w9 hbox hb; have n0_ := Aside0.mk (below_step (by repeat (first | (with_reducible first | exact HB.out | apply below_alloc | apply pw_below_drewN | apply below_drew1) | exact HB.out)) hb); have n1_ := Aside0.mk (hbox); have n2_ := Aside0.mk ((by rw [hg]; exact (below_size (by repeat (first | (with_reducible first | exact HB.out | apply below_alloc | apply pw_below_drewN | apply below_drew1) | exact HB.out))) : w.heap.size ≤ gb335)); have n3_ := Aside0.mk ((by rw [hg]; exact (below_size (by repeat (first | (with_reducible first | exact HB.out | apply below_alloc | apply pw_below_drewN | apply below_drew1) | exact HB.out))) : w.heap.size ≤ gb335)); clear HB; have HB := n0_; have BK335 := n1_; have GW335 := n2_; have GE335 := n3_; clear n0_ n1_ n2_ n3_; clear hb hbox hg; have hcz10_0 : w9.cell? ⟨gb335, 0, none⟩ = some (.int .i64 0) := (blk_cell BK335.out 0).trans rfl; have hcz10_1 : w9.cell? ⟨gb335, 1, none⟩ = some (.int .i64 0) := (blk_cell BK335.out 1).trans rfl; have hcz10_2 : w9.cell? ⟨gb335, 2, none⟩ = some (.int .i64 0) := (blk_cell BK335.out 2).trans rfl; have hfz10_0 := blk_frozen BK335.out 0; have hfz10_1 := blk_frozen BK335.out 1; have hfz10_2 := blk_frozen BK335.out 2) | ((with_reducible refine gate_callee (f := 20) rfl ?_); refine goesL_ (some 25) rfl rfl Try.func20 (by kernel_rfl) rfl #[.agg #[.int .i64 t332, .int .i64 t333, .int .i64 t334]] rfl (by (try simp only [List.map_toArray, List.map_cons, List.map_nil]); first | done | rfl | (simp only [List.length_drop, List.length_take]; rfl)) ?_; (with_reducible refine (door_Worst.calls t332 t333 t334 t336 t337 _ A5.out).mono ?_); rintro e w11 ⟨rfl, hb⟩; refine ⟨_, rfl, ?_⟩; have n0_ := Aside0.mk (blk_below (g := gb335) (o := .cells #[.int .i64 t332, .int .i64 t333, .int .i64 t334] 25 (0, 0)) (by (with_reducible repeat (first | refine blk_drewN ?_ _ | refine blk_drew ?_ | refine blk_alloc ?_ _)); refine blk_put (cs := #[.int .i64 t332, .int .i64 t333, .int .i64 0]) ?_ 2 _ rfl; (with_reducible repeat (first | refine blk_drewN ?_ _ | refine blk_drew ?_ | refine blk_alloc ?_ _)); refine blk_put (cs := #[.int .i64 t332, .int .i64 0, .int .i64 0]) ?_ 1 _ rfl; (with_reducible repeat (first | refine blk_drewN ?_ _ | refine blk_drew ?_ | refine blk_alloc ?_ _)); refine blk_put (cs := #[.int .i64 0, .int .i64 0, .int .i64 0]) ?_ 0 _ rfl; (with_reducible repeat (first | refine blk_drewN ?_ _ | refine blk_drew ?_ | refine blk_alloc ?_ _)); exact BK335.out) hb); have n1_ := Aside0.mk (below_step (by repeat (first | (with_reducible first | exact HB.out | apply below_alloc | apply pw_below_drewN | apply below_drew1 | refine below_set ?_ GE335.out) | exact HB.out)) hb); clear BK335; clear HB; have BK335 := n0_; have HB := n1_; clear n0_ n1_; (try clear hb); (try clear hb2); (try clear hk); (try clear hi); have hcz12_0 : w11.cell? ⟨gb335, 0, none⟩ = some (.int .i64 t332) := (blk_cell BK335.out 0).trans rfl; have hcz12_1 : w11.cell? ⟨gb335, 1, none⟩ = some (.int .i64 t333) := (blk_cell BK335.out 1).trans rfl; have hcz12_2 : w11.cell? ⟨gb335, 2, none⟩ = some (.int .i64 t334) := (blk_cell BK335.out 2).trans rfl; have hfz12_0 := blk_frozen BK335.out 0; have hfz12_1 := blk_frozen BK335.out 1; have hfz12_2 := blk_frozen BK335.out 2) | ((with_reducible refine gate_callee (f := 15) rfl ?_); refine goesL_ (some 31) rfl rfl Try.func15 (by kernel_rfl) rfl #[.agg #[.int .i64 0, .int .i64 0, .int .i64 0, .int .i64 0], .agg #[.int .i64 t332, .int .i64 t333, .int .i64 t334]] rfl (by (try simp only [List.map_toArray, List.map_cons, List.map_nil]); first | done | rfl | (simp only [List.length_drop, List.length_take]; rfl)) ?_; (with_reducible refine (door_Open.calls k 0 0 0 0 t332 t333 t334 t338 t339 t340 t341 t342 _ A6.out).mono ?_); rintro e w13 ⟨rfl, hb⟩; refine ⟨_, rfl, ?_⟩; have n0_ := Aside0.mk (blk_below (g := gb335) (o := .cells #[.int .i64 t332, .int .i64 t333, .int .i64 t334] 25 (0, 0)) (by (with_reducible repeat (first | refine blk_drewN ?_ _ | refine blk_drew ?_ | refine blk_alloc ?_ _)); exact BK335.out) hb); have n1_ := Aside0.mk (below_step (by repeat (first | (with_reducible first | exact HB.out | apply below_alloc | apply pw_below_drewN | apply below_drew1 | refine below_set ?_ GE335.out) | exact HB.out)) hb); clear BK335; clear HB; have BK335 := n0_; have HB := n1_; clear n0_ n1_; (try clear hb); (try clear hb2); (try clear hk); (try clear hi)) | ((with_reducible refine gate_dst (N := 10) rfl ?_); refine box_event ?hg (N := 10) ?hd (cs := #[.int .i64 0, .int .i64 0, .int .i64 0, .int .i64 0]) (t := 23) ?hr ?_; (case hd => rfl); (case hg => rfl); (case hr => first | (go_simp; done) | (go_simp; rfl)); intro gb343 hg w14 hbox hb; have n0_ := Aside0.mk (blk_below (g := gb335) (o := .cells #[.int .i64 t332, .int .i64 t333, .int .i64 t334] 25 (0, 0)) (by (with_reducible repeat (first | refine blk_drewN ?_ _ | refine blk_drew ?_ | refine blk_alloc ?_ _)); exact BK335.out) hb); have n1_ := Aside0.mk (below_step (by repeat (first | (with_reducible first | exact HB.out | apply below_alloc | apply pw_below_drewN | apply below_drew1 | refine below_set ?_ GE335.out) | exact HB.out)) hb); have n2_ := Aside0.mk (hbox); have n3_ := Aside0.mk ((by rw [hg]; exact (below_size (by repeat (first | (with_reducible first | exact HB.out | apply below_alloc | apply pw_below_drewN | apply below_drew1 | refine below_set ?_ GE335.out) | exact HB.out))) : w.heap.size ≤ gb343)); have n4_ := Aside0.mk ((by rw [hg]; exact (below_size (by repeat (first | (with_reducible first | exact HB.out | apply below_alloc | apply pw_below_drewN | apply below_drew1 | refine below_set ?_ GE335.out) | exact HB.out))) : w.heap.size ≤ gb343)); have n5_ := Aside0.mk ((by rw [hg]; exact Nat.ne_of_lt (blk_lt (g := gb335) (o := .cells #[.int .i64 t332, .int .i64 t333, .int .i64 t334] 25 (0, 0)) (by (with_reducible repeat (first | refine blk_drewN ?_ _ | refine blk_drew ?_ | refine blk_alloc ?_ _)); exact BK335.out)) : gb335 ≠ gb343)); have n6_ := Aside0.mk ((by rw [hg]; exact Nat.ne_of_gt (blk_lt (g := gb335) (o := .cells #[.int .i64 t332, .int .i64 t333, .int .i64 t334] 25 (0, 0)) (by (with_reducible repeat (first | refine blk_drewN ?_ _ | refine blk_drew ?_ | refine blk_alloc ?_ _)); exact BK335.out)) : gb343 ≠ gb335)); clear BK335; clear HB; have BK335 := n0_; have HB := n1_; have BK343 := n2_; have GW343 := n3_; have GE343 := n4_; have NB335_343 := n5_; have NB343_335 := n6_; clear n0_ n1_ n2_ n3_ n4_ n5_ n6_; clear hb hbox hg; have hnb15 := NB343_335.out; have hnc15 := NB335_343.out; have hcz16_0 : w14.cell? ⟨gb343, 0, none⟩ = some (.int .i64 0) := (blk_cell BK343.out 0).trans rfl; have hcz16_1 : w14.cell? ⟨gb343, 1, none⟩ = some (.int .i64 0) := (blk_cell BK343.out 1).trans rfl; have hcz16_2 : w14.cell? ⟨gb343, 2, none⟩ = some (.int .i64 0) := (blk_cell BK343.out 2).trans rfl; have hcz16_3 : w14.cell? ⟨gb343, 3, none⟩ = some (.int .i64 0) := (blk_cell BK343.out 3).trans rfl; have hfz16_0 := blk_frozen BK343.out 0; have hfz16_1 := blk_frozen BK343.out 1; have hfz16_2 := blk_frozen BK343.out 2; have hfz16_3 := blk_frozen BK343.out 3))
 (try simp only [Act.put, List.setIfInBounds_toArray, List.set_cons_zero, List.set_cons_succ])
 go_cut [47] (fun v47 wc => ∃ (kq : Nat) (x47_6 : Bool), v47 = .bool x47_6 ∧ Aside0 (q_DoorCycles.j0 kq l1 a2 t336 x47_6 t332 t333 t334 t338 t339 t340 t341 = some r) ∧ Aside0 (kq ≤ k) ∧ Aside0 (wc.heap[gb335]? = some (.cells #[.int .i64 t332, .int .i64 t333, .int .i64 t334] 25 (0, 0))) ∧ Aside0 (wc.heap[gb343]? = some (.cells #[.int .i64 t338, .int .i64 t339, .int .i64 t340, .int .i64 t341] 23 (0, 0))) ∧ Aside0 (Below w.heap.size w wc))
 case first =>
  have H := HC7.out
  clear HC7
  by_cases c17 : t337 = 0
  ·rw [if_pos c17] at H
   have c17b0 : (t337 == 0) = true := beq_iff_eq.mpr c17
   have c17b1 : (t337 != 0) = false := bne_eq_false_iff_eq.mpr c17
   clear c17
   (first | rw [c17b0] | (simp only [i64_w, i32_w]; rw [c17b0]) | skip)
   by_cases c18 : t342 = 0
   ·rw [if_pos c18] at H
    have c18b0 : (t342 == 0) = true := beq_iff_eq.mpr c18
    have c18b1 : (t342 != 0) = false := bne_eq_false_iff_eq.mpr c18
    clear c18
    by_cases c19 : t336 < 1
    ·rw [if_pos c19] at H
     have c19b0 : decide (t336 < 1) = true := decide_eq_true c19
     clear c19
     have H' := Aside0.mk H
     clear H
     go_wp2
     go_meet
     case rel => exact ⟨_, (true), (by first | rfl | (simp; done) | (simp [*]; done)), H', ⟨by first | omega | exact Nat.le_refl _⟩, ⟨by (with_reducible repeat (first | refine blk_drewN ?_ _ | refine blk_drew ?_ | refine blk_alloc ?_ _)); refine blk_far ?_ NB335_343.out _; (with_reducible repeat (first | refine blk_drewN ?_ _ | refine blk_drew ?_ | refine blk_alloc ?_ _)); refine blk_far ?_ NB335_343.out _; (with_reducible repeat (first | refine blk_drewN ?_ _ | refine blk_drew ?_ | refine blk_alloc ?_ _)); refine blk_far ?_ NB335_343.out _; (with_reducible repeat (first | refine blk_drewN ?_ _ | refine blk_drew ?_ | refine blk_alloc ?_ _)); refine blk_far ?_ NB335_343.out _; (with_reducible repeat (first | refine blk_drewN ?_ _ | refine blk_drew ?_ | refine blk_alloc ?_ _)); exact BK335.out⟩, ⟨by (with_reducible repeat (first | refine blk_drewN ?_ _ | refine blk_drew ?_ | refine blk_alloc ?_ _)); refine blk_put (cs := #[.int .i64 t338, .int .i64 t339, .int .i64 t340, .int .i64 0]) ?_ 3 _ rfl; (with_reducible repeat (first | refine blk_drewN ?_ _ | refine blk_drew ?_ | refine blk_alloc ?_ _)); refine blk_put (cs := #[.int .i64 t338, .int .i64 t339, .int .i64 0, .int .i64 0]) ?_ 2 _ rfl; (with_reducible repeat (first | refine blk_drewN ?_ _ | refine blk_drew ?_ | refine blk_alloc ?_ _)); refine blk_put (cs := #[.int .i64 t338, .int .i64 0, .int .i64 0, .int .i64 0]) ?_ 1 _ rfl; (with_reducible repeat (first | refine blk_drewN ?_ _ | refine blk_drew ?_ | refine blk_alloc ?_ _)); refine blk_put (cs := #[.int .i64 0, .int .i64 0, .int .i64 0, .int .i64 0]) ?_ 0 _ rfl; (with_reducible repeat (first | refine blk_drewN ?_ _ | refine blk_drew ?_ | refine blk_alloc ?_ _)); exact BK343.out⟩, ⟨by repeat (first | (with_reducible first | exact HB.out | apply below_alloc | apply pw_below_drewN | apply below_drew1 | refine below_set ?_ GE335.out | refine below_set ?_ GE343.out) | exact HB.out)⟩⟩
    ·rw [if_neg c19] at H
     have c19b0 : decide (t336 < 1) = false := decide_eq_false c19
     clear c19
     have H' := Aside0.mk H
     clear H
     go_wp2
     go_meet
     case rel => exact ⟨_, (decide (t336 > 300)), (by first | rfl | (simp; done) | (simp [*]; done)), H', ⟨by first | omega | exact Nat.le_refl _⟩, ⟨by (with_reducible repeat (first | refine blk_drewN ?_ _ | refine blk_drew ?_ | refine blk_alloc ?_ _)); refine blk_far ?_ NB335_343.out _; (with_reducible repeat (first | refine blk_drewN ?_ _ | refine blk_drew ?_ | refine blk_alloc ?_ _)); refine blk_far ?_ NB335_343.out _; (with_reducible repeat (first | refine blk_drewN ?_ _ | refine blk_drew ?_ | refine blk_alloc ?_ _)); refine blk_far ?_ NB335_343.out _; (with_reducible repeat (first | refine blk_drewN ?_ _ | refine blk_drew ?_ | refine blk_alloc ?_ _)); refine blk_far ?_ NB335_343.out _; (with_reducible repeat (first | refine blk_drewN ?_ _ | refine blk_drew ?_ | refine blk_alloc ?_ _)); exact BK335.out⟩, ⟨by (with_reducible repeat (first | refine blk_drewN ?_ _ | refine blk_drew ?_ | refine blk_alloc ?_ _)); refine blk_put (cs := #[.int .i64 t338, .int .i64 t339, .int .i64 t340, .int .i64 0]) ?_ 3 _ rfl; (with_reducible repeat (first | refine blk_drewN ?_ _ | refine blk_drew ?_ | refine blk_alloc ?_ _)); refine blk_put (cs := #[.int .i64 t338, .int .i64 t339, .int .i64 0, .int .i64 0]) ?_ 2 _ rfl; (with_reducible repeat (first | refine blk_drewN ?_ _ | refine blk_drew ?_ | refine blk_alloc ?_ _)); refine blk_put (cs := #[.int .i64 t338, .int .i64 0, .int .i64 0, .int .i64 0]) ?_ 1 _ rfl; (with_reducible repeat (first | refine blk_drewN ?_ _ | refine blk_drew ?_ | refine blk_alloc ?_ _)); refine blk_put (cs := #[.int .i64 0, .int .i64 0, .int .i64 0, .int .i64 0]) ?_ 0 _ rfl; (with_reducible repeat (first | refine blk_drewN ?_ _ | refine blk_drew ?_ | refine blk_alloc ?_ _)); exact BK343.out⟩, ⟨by repeat (first | (with_reducible first | exact HB.out | apply below_alloc | apply pw_below_drewN | apply below_drew1 | refine below_set ?_ GE335.out | refine below_set ?_ GE343.out) | exact HB.out)⟩⟩
   ·rw [if_neg c18] at H
    have c18b0 : (t342 == 0) = false := beq_eq_false_iff_ne.mpr c18
    have c18b1 : (t342 != 0) = true := bne_iff_ne.mpr c18
    have H' := Aside0.mk H
    clear H
    go_wp2
    go_meet
    case rel => exact ⟨_, (true), (by first | rfl | (simp; done) | (simp [*]; done)), H', ⟨by first | omega | exact Nat.le_refl _⟩, ⟨by (with_reducible repeat (first | refine blk_drewN ?_ _ | refine blk_drew ?_ | refine blk_alloc ?_ _)); refine blk_far ?_ NB335_343.out _; (with_reducible repeat (first | refine blk_drewN ?_ _ | refine blk_drew ?_ | refine blk_alloc ?_ _)); refine blk_far ?_ NB335_343.out _; (with_reducible repeat (first | refine blk_drewN ?_ _ | refine blk_drew ?_ | refine blk_alloc ?_ _)); refine blk_far ?_ NB335_343.out _; (with_reducible repeat (first | refine blk_drewN ?_ _ | refine blk_drew ?_ | refine blk_alloc ?_ _)); refine blk_far ?_ NB335_343.out _; (with_reducible repeat (first | refine blk_drewN ?_ _ | refine blk_drew ?_ | refine blk_alloc ?_ _)); exact BK335.out⟩, ⟨by (with_reducible repeat (first | refine blk_drewN ?_ _ | refine blk_drew ?_ | refine blk_alloc ?_ _)); refine blk_put (cs := #[.int .i64 t338, .int .i64 t339, .int .i64 t340, .int .i64 0]) ?_ 3 _ rfl; (with_reducible repeat (first | refine blk_drewN ?_ _ | refine blk_drew ?_ | refine blk_alloc ?_ _)); refine blk_put (cs := #[.int .i64 t338, .int .i64 t339, .int .i64 0, .int .i64 0]) ?_ 2 _ rfl; (with_reducible repeat (first | refine blk_drewN ?_ _ | refine blk_drew ?_ | refine blk_alloc ?_ _)); refine blk_put (cs := #[.int .i64 t338, .int .i64 0, .int .i64 0, .int .i64 0]) ?_ 1 _ rfl; (with_reducible repeat (first | refine blk_drewN ?_ _ | refine blk_drew ?_ | refine blk_alloc ?_ _)); refine blk_put (cs := #[.int .i64 0, .int .i64 0, .int .i64 0, .int .i64 0]) ?_ 0 _ rfl; (with_reducible repeat (first | refine blk_drewN ?_ _ | refine blk_drew ?_ | refine blk_alloc ?_ _)); exact BK343.out⟩, ⟨by repeat (first | (with_reducible first | exact HB.out | apply below_alloc | apply pw_below_drewN | apply below_drew1 | refine below_set ?_ GE335.out | refine below_set ?_ GE343.out) | exact HB.out)⟩⟩
  ·rw [if_neg c17] at H
   have c17b0 : (t337 == 0) = false := beq_eq_false_iff_ne.mpr c17
   have c17b1 : (t337 != 0) = true := bne_iff_ne.mpr c17
   (first | rw [c17b0] | (simp only [i64_w, i32_w]; rw [c17b0]) | skip)
   have H' := Aside0.mk H
   clear H
   go_wp2
   go_meet
   case rel => exact ⟨_, (true), (by first | rfl | (simp; done) | (simp [*]; done)), H', ⟨by first | omega | exact Nat.le_refl _⟩, ⟨by (with_reducible repeat (first | refine blk_drewN ?_ _ | refine blk_drew ?_ | refine blk_alloc ?_ _)); refine blk_far ?_ NB335_343.out _; (with_reducible repeat (first | refine blk_drewN ?_ _ | refine blk_drew ?_ | refine blk_alloc ?_ _)); refine blk_far ?_ NB335_343.out _; (with_reducible repeat (first | refine blk_drewN ?_ _ | refine blk_drew ?_ | refine blk_alloc ?_ _)); refine blk_far ?_ NB335_343.out _; (with_reducible repeat (first | refine blk_drewN ?_ _ | refine blk_drew ?_ | refine blk_alloc ?_ _)); refine blk_far ?_ NB335_343.out _; (with_reducible repeat (first | refine blk_drewN ?_ _ | refine blk_drew ?_ | refine blk_alloc ?_ _)); exact BK335.out⟩, ⟨by (with_reducible repeat (first | refine blk_drewN ?_ _ | refine blk_drew ?_ | refine blk_alloc ?_ _)); refine blk_put (cs := #[.int .i64 t338, .int .i64 t339, .int .i64 t340, .int .i64 0]) ?_ 3 _ rfl; (with_reducible repeat (first | refine blk_drewN ?_ _ | refine blk_drew ?_ | refine blk_alloc ?_ _)); refine blk_put (cs := #[.int .i64 t338, .int .i64 t339, .int .i64 0, .int .i64 0]) ?_ 2 _ rfl; (with_reducible repeat (first | refine blk_drewN ?_ _ | refine blk_drew ?_ | refine blk_alloc ?_ _)); refine blk_put (cs := #[.int .i64 t338, .int .i64 0, .int .i64 0, .int .i64 0]) ?_ 1 _ rfl; (with_reducible repeat (first | refine blk_drewN ?_ _ | refine blk_drew ?_ | refine blk_alloc ?_ _)); refine blk_put (cs := #[.int .i64 0, .int .i64 0, .int .i64 0, .int .i64 0]) ?_ 0 _ rfl; (with_reducible repeat (first | refine blk_drewN ?_ _ | refine blk_drew ?_ | refine blk_alloc ?_ _)); exact BK343.out⟩, ⟨by repeat (first | (with_reducible first | exact HB.out | apply below_alloc | apply pw_below_drewN | apply below_drew1 | refine below_set ?_ GE335.out | refine below_set ?_ GE343.out) | exact HB.out)⟩⟩
 case rest =>
  clear HC7
  try clear c1
  try clear c2
  try clear p2
  try clear c6
  try clear c15
  try clear c17
  try clear c17b0
  try clear c17b1
  try clear c18
  try clear c18b0
  try clear c18b1
  try clear c19
  try clear c19b0
  try clear hcz10_0
  try clear hcz10_1
  try clear hcz10_2
  try clear hcz12_0
  try clear hcz12_1
  try clear hcz12_2
  try clear hcz16_0
  try clear hcz16_1
  try clear hcz16_2
  try clear hcz16_3
  try clear hfz10_0
  try clear hfz10_1
  try clear hfz10_2
  try clear hfz12_0
  try clear hfz12_1
  try clear hfz12_2
  try clear hfz16_0
  try clear hfz16_1
  try clear hfz16_2
  try clear hfz16_3
  obtain ⟨kq, x47_6, rfl, HA, HJ6, BK335, BK343, HB⟩ := hcut
  cases kq with
  | zero => exact absurd HA.out (by simp [q_DoorCycles.j0])
  | succ kj6 =>
   have H := HA.out
   clear HA
   simp only [q_DoorCycles.j0] at H
   by_cases c20 : x47_6 = true
   ·subst c20
    have H1 : (none) = some r := by rw [if_pos rfl] at H; exact H
    clear H
    have H := H1
    clear H1
    exact absurd H (by simp)
   ·replace c20 := Bool.eq_false_iff.mpr c20
    subst c20
    have H1 : ((kit_Mod.f a2 (wrap64 (2 * t336))).bind fun t344 => (q_DoorCycles.l0 kj6 l1 t336 t344 0 t332 t333 t334 t338 t339 t340 t341)) = some r := by rw [if_neg (show ¬ (false = true) by decide)] at H; exact H
    clear H
    have H := H1
    clear H1
    replace H := Option.bind_eq_some_iff.mp H
    obtain ⟨t344, A210, H⟩ := H
    replace H : (q_DoorCycles.l0 kj6 l1 t336 t344 0 t332 t333 t334 t338 t339 t340 t341) = some r := H
    have A21 := Aside0.mk A210
    clear A210
    have H' := Aside0.mk H
    clear H
    go_wp2_with (first | ((with_reducible refine gate_callee (f := 28) rfl ?_); refine goesL_ (some 51) rfl rfl Try.func28 (by kernel_rfl) rfl #[.int .i64 a2, .int .i64 (wrap64 (2 * t336))] rfl (by (try simp only [List.map_toArray, List.map_cons, List.map_nil]); first | done | rfl | (simp only [List.length_drop, List.length_take]; rfl)) ?_; (with_reducible refine (kit_Mod.calls a2 (wrap64 (2 * t336)) t344 _ A21.out).mono ?_); rintro e w' ⟨rfl, ⟨nd, rfl⟩⟩; refine ⟨_, rfl, ?_⟩))
    go_loopg [13] kj6 (fun kq v13 w' => ∃ (x13_2 : Int) (x344000_2 : Int) (x344001_2 : Int) (x344002_2 : Int) (x344003_2 : Int), v13 = .int .i64 x13_2 ∧ Aside0 (q_DoorCycles.l0 kq l1 t336 t344 x13_2 t332 t333 t334 x344000_2 x344001_2 x344002_2 x344003_2 = some r) ∧ Aside0 (kq ≤ kj6) ∧ Aside0 (w'.heap[gb335]? = some (.cells #[.int .i64 t332, .int .i64 t333, .int .i64 t334] 25 (0, 0))) ∧ Aside0 (w'.heap[gb343]? = some (.cells #[.int .i64 x344000_2, .int .i64 x344001_2, .int .i64 x344002_2, .int .i64 x344003_2] 23 (0, 0))) ∧ Aside0 (Below w.heap.size w w'))
    case atStart => exact ⟨(0), (t338), (t339), (t340), (t341), (by first | rfl | (simp; done) | (simp [*]; done)), H', ⟨Nat.le_refl _⟩, ⟨by (with_reducible repeat (first | refine blk_drewN ?_ _ | refine blk_drew ?_ | refine blk_alloc ?_ _)); exact BK335.out⟩, ⟨by (with_reducible repeat (first | refine blk_drewN ?_ _ | refine blk_drew ?_ | refine blk_alloc ?_ _)); exact BK343.out⟩, ⟨by repeat (first | (with_reducible first | exact HB.out | apply below_alloc | apply pw_below_drewN | apply below_drew1 | refine below_set ?_ GE335.out | refine below_set ?_ GE343.out) | exact HB.out)⟩⟩
    case round =>
     clear H'
     try clear c1
     try clear c2
     try clear p2
     try clear c6
     try clear p6
     try clear c15
     try clear c17
     try clear c17b0
     try clear c17b1
     try clear c18
     try clear c18b0
     try clear c18b1
     try clear c19
     try clear c19b0
     try clear c20
     try clear hcz10_0
     try clear hcz10_1
     try clear hcz10_2
     try clear hcz12_0
     try clear hcz12_1
     try clear hcz12_2
     try clear hcz16_0
     try clear hcz16_1
     try clear hcz16_2
     try clear hcz16_3
     try clear hfz10_0
     try clear hfz10_1
     try clear hfz10_2
     try clear hfz12_0
     try clear hfz12_1
     try clear hfz12_2
     try clear hfz16_0
     try clear hfz16_1
     try clear hfz16_2
     try clear hfz16_3
     try clear p2
     obtain ⟨x13_2, x344000_2, x344001_2, x344002_2, x344003_2, rfl, HA, HK2, BK335, BK343, HB⟩ := hrel
     cases gk with
     | zero => exact absurd HA.out (by simp [q_DoorCycles.l0])
     | succ k2 =>
      have H := HA.out
      clear HA
      simp only [q_DoorCycles.l0] at H
      by_cases c22 : x13_2 < t336
      ·rw [if_pos c22] at H
       have c22b0 : decide (x13_2 < t336) = true := decide_eq_true c22
       clear c22
       by_cases c23 : x13_2 = t344
       ·rw [if_pos c23] at H
        have c23b0 : (x13_2 == t344) = true := beq_iff_eq.mpr c23
        have c23b1 : (x13_2 != t344) = false := bne_eq_false_iff_eq.mpr c23
        clear c23
        replace H := Option.bind_eq_some_iff.mp H
        obtain ⟨⟨t346, t347, t348, t349, t350⟩, A240, H⟩ := H
        replace H : (if t350 = 0 then (q_DoorCycles.j2 k2 l1 t336 t344 x13_2 x344001_2 (t347 != x344001_2) t332 t333 t334 t346 t347 t348 t349) else (q_DoorCycles.j2 k2 l1 t336 t344 x13_2 x344001_2 true t332 t333 t334 t346 t347 t348 t349)) = some r := H
        have A24 := Aside0.mk A240
        clear A240
        have HC25 := Aside0.mk H
        clear H
        have hnb26 := NB343_335.out
        have hnc26 := NB335_343.out
        have hcz27_0 : wr.cell? ⟨gb343, 0, none⟩ = some (.int .i64 x344000_2) := (blk_cell BK343.out 0).trans rfl
        have hcz27_1 : wr.cell? ⟨gb343, 1, none⟩ = some (.int .i64 x344001_2) := (blk_cell BK343.out 1).trans rfl
        have hcz27_2 : wr.cell? ⟨gb343, 2, none⟩ = some (.int .i64 x344002_2) := (blk_cell BK343.out 2).trans rfl
        have hcz27_3 : wr.cell? ⟨gb343, 3, none⟩ = some (.int .i64 x344003_2) := (blk_cell BK343.out 3).trans rfl
        have hfz27_0 := blk_frozen BK343.out 0
        have hfz27_1 := blk_frozen BK343.out 1
        have hfz27_2 := blk_frozen BK343.out 2
        have hfz27_3 := blk_frozen BK343.out 3
        have hcz28_0 : wr.cell? ⟨gb335, 0, none⟩ = some (.int .i64 t332) := (blk_cell BK335.out 0).trans rfl
        have hcz28_1 : wr.cell? ⟨gb335, 1, none⟩ = some (.int .i64 t333) := (blk_cell BK335.out 1).trans rfl
        have hcz28_2 : wr.cell? ⟨gb335, 2, none⟩ = some (.int .i64 t334) := (blk_cell BK335.out 2).trans rfl
        have hfz28_0 := blk_frozen BK335.out 0
        have hfz28_1 := blk_frozen BK335.out 1
        have hfz28_2 := blk_frozen BK335.out 2
        go_upto_region 13 with (first | ((with_reducible refine gate_callee (f := 17) rfl ?_); refine goesL_ (some 65) rfl rfl Try.func17 (by kernel_rfl) rfl #[.agg #[.int .i64 x344000_2, .int .i64 x344001_2, .int .i64 x344002_2, .int .i64 x344003_2], .agg #[.int .i64 t332, .int .i64 t333, .int .i64 t334]] rfl (by (try simp only [List.map_toArray, List.map_cons, List.map_nil]); first | done | rfl | (simp only [List.length_drop, List.length_take]; rfl)) ?_; (with_reducible refine (door_Force.calls k2 x344000_2 x344001_2 x344002_2 x344003_2 t332 t333 t334 t346 t347 t348 t349 t350 _ A24.out).mono ?_); rintro e w29 ⟨rfl, hb⟩; refine ⟨_, rfl, ?_⟩; have n0_ := Aside0.mk (blk_below (g := gb335) (o := .cells #[.int .i64 t332, .int .i64 t333, .int .i64 t334] 25 (0, 0)) (by (with_reducible repeat (first | refine blk_drewN ?_ _ | refine blk_drew ?_ | refine blk_alloc ?_ _)); exact BK335.out) hb); have n1_ := Aside0.mk (blk_below (g := gb343) (o := .cells #[.int .i64 x344000_2, .int .i64 x344001_2, .int .i64 x344002_2, .int .i64 x344003_2] 23 (0, 0)) (by (with_reducible repeat (first | refine blk_drewN ?_ _ | refine blk_drew ?_ | refine blk_alloc ?_ _)); exact BK343.out) hb); have n2_ := Aside0.mk (below_step (by repeat (first | (with_reducible first | exact HB.out | apply below_alloc | apply pw_below_drewN | apply below_drew1 | refine below_set ?_ GE335.out | refine below_set ?_ GE343.out) | exact HB.out)) hb); clear BK335; clear BK343; clear HB; have BK335 := n0_; have BK343 := n1_; have HB := n2_; clear n0_ n1_ n2_; (try clear hb); (try clear hb2); (try clear hk); (try clear hi); have hcz30_0 : w29.cell? ⟨gb343, 0, none⟩ = some (.int .i64 x344000_2) := (blk_cell BK343.out 0).trans rfl; have hcz30_1 : w29.cell? ⟨gb343, 1, none⟩ = some (.int .i64 x344001_2) := (blk_cell BK343.out 1).trans rfl; have hcz30_2 : w29.cell? ⟨gb343, 2, none⟩ = some (.int .i64 x344002_2) := (blk_cell BK343.out 2).trans rfl; have hcz30_3 : w29.cell? ⟨gb343, 3, none⟩ = some (.int .i64 x344003_2) := (blk_cell BK343.out 3).trans rfl; have hfz30_0 := blk_frozen BK343.out 0; have hfz30_1 := blk_frozen BK343.out 1; have hfz30_2 := blk_frozen BK343.out 2; have hfz30_3 := blk_frozen BK343.out 3))
        (try simp only [Act.put, List.setIfInBounds_toArray, List.set_cons_zero, List.set_cons_succ])
        go_cut [75] (fun v75 wc => ∃ (kq : Nat) (x75_24 : Bool), v75 = .bool x75_24 ∧ Aside0 (q_DoorCycles.j2 kq l1 t336 t344 x13_2 x344001_2 x75_24 t332 t333 t334 t346 t347 t348 t349 = some r) ∧ Aside0 (kq ≤ k2) ∧ Aside0 (wc.heap[gb335]? = some (.cells #[.int .i64 t332, .int .i64 t333, .int .i64 t334] 25 (0, 0))) ∧ Aside0 (wc.heap[gb343]? = some (.cells #[.int .i64 t346, .int .i64 t347, .int .i64 t348, .int .i64 t349] 23 (0, 0))) ∧ Aside0 (Below w.heap.size w wc))
        case first =>
         have H := HC25.out
         clear HC25
         by_cases c31 : t350 = 0
         ·rw [if_pos c31] at H
          have c31b0 : (t350 == 0) = true := beq_iff_eq.mpr c31
          have c31b1 : (t350 != 0) = false := bne_eq_false_iff_eq.mpr c31
          clear c31
          (first | rw [c31b0] | (simp only [i64_w, i32_w]; rw [c31b0]) | skip)
          have H' := Aside0.mk H
          clear H
          have hnb32 := NB343_335.out
          have hnc32 := NB335_343.out
          have hcz33_0 : w29.cell? ⟨gb343, 0, none⟩ = some (.int .i64 x344000_2) := (blk_cell BK343.out 0).trans rfl
          have hcz33_1 : w29.cell? ⟨gb343, 1, none⟩ = some (.int .i64 x344001_2) := (blk_cell BK343.out 1).trans rfl
          have hcz33_2 : w29.cell? ⟨gb343, 2, none⟩ = some (.int .i64 x344002_2) := (blk_cell BK343.out 2).trans rfl
          have hcz33_3 : w29.cell? ⟨gb343, 3, none⟩ = some (.int .i64 x344003_2) := (blk_cell BK343.out 3).trans rfl
          have hfz33_0 := blk_frozen BK343.out 0
          have hfz33_1 := blk_frozen BK343.out 1
          have hfz33_2 := blk_frozen BK343.out 2
          have hfz33_3 := blk_frozen BK343.out 3
          go_wp2
          go_meet
          case rel => exact ⟨_, ((t347 != x344001_2)), (by first | rfl | (simp; done) | (simp [*]; done)), H', ⟨by have := HJ6.out; have := HK2.out; first | omega | exact Nat.le_refl _⟩, ⟨by (with_reducible repeat (first | refine blk_drewN ?_ _ | refine blk_drew ?_ | refine blk_alloc ?_ _)); refine blk_far ?_ NB335_343.out _; (with_reducible repeat (first | refine blk_drewN ?_ _ | refine blk_drew ?_ | refine blk_alloc ?_ _)); refine blk_far ?_ NB335_343.out _; (with_reducible repeat (first | refine blk_drewN ?_ _ | refine blk_drew ?_ | refine blk_alloc ?_ _)); refine blk_far ?_ NB335_343.out _; (with_reducible repeat (first | refine blk_drewN ?_ _ | refine blk_drew ?_ | refine blk_alloc ?_ _)); refine blk_far ?_ NB335_343.out _; (with_reducible repeat (first | refine blk_drewN ?_ _ | refine blk_drew ?_ | refine blk_alloc ?_ _)); exact BK335.out⟩, ⟨by (with_reducible repeat (first | refine blk_drewN ?_ _ | refine blk_drew ?_ | refine blk_alloc ?_ _)); refine blk_put (cs := #[.int .i64 t346, .int .i64 t347, .int .i64 t348, .int .i64 x344003_2]) ?_ 3 _ rfl; (with_reducible repeat (first | refine blk_drewN ?_ _ | refine blk_drew ?_ | refine blk_alloc ?_ _)); refine blk_put (cs := #[.int .i64 t346, .int .i64 t347, .int .i64 x344002_2, .int .i64 x344003_2]) ?_ 2 _ rfl; (with_reducible repeat (first | refine blk_drewN ?_ _ | refine blk_drew ?_ | refine blk_alloc ?_ _)); refine blk_put (cs := #[.int .i64 t346, .int .i64 x344001_2, .int .i64 x344002_2, .int .i64 x344003_2]) ?_ 1 _ rfl; (with_reducible repeat (first | refine blk_drewN ?_ _ | refine blk_drew ?_ | refine blk_alloc ?_ _)); refine blk_put (cs := #[.int .i64 x344000_2, .int .i64 x344001_2, .int .i64 x344002_2, .int .i64 x344003_2]) ?_ 0 _ rfl; (with_reducible repeat (first | refine blk_drewN ?_ _ | refine blk_drew ?_ | refine blk_alloc ?_ _)); exact BK343.out⟩, ⟨by repeat (first | (with_reducible first | exact HB.out | apply below_alloc | apply pw_below_drewN | apply below_drew1 | refine below_set ?_ GE335.out | refine below_set ?_ GE343.out) | exact HB.out)⟩⟩
         ·rw [if_neg c31] at H
          have c31b0 : (t350 == 0) = false := beq_eq_false_iff_ne.mpr c31
          have c31b1 : (t350 != 0) = true := bne_iff_ne.mpr c31
          (first | rw [c31b0] | (simp only [i64_w, i32_w]; rw [c31b0]) | skip)
          have H' := Aside0.mk H
          clear H
          go_wp2
          go_meet
          case rel => exact ⟨_, (true), (by first | rfl | (simp; done) | (simp [*]; done)), H', ⟨by have := HJ6.out; have := HK2.out; first | omega | exact Nat.le_refl _⟩, ⟨by (with_reducible repeat (first | refine blk_drewN ?_ _ | refine blk_drew ?_ | refine blk_alloc ?_ _)); refine blk_far ?_ NB335_343.out _; (with_reducible repeat (first | refine blk_drewN ?_ _ | refine blk_drew ?_ | refine blk_alloc ?_ _)); refine blk_far ?_ NB335_343.out _; (with_reducible repeat (first | refine blk_drewN ?_ _ | refine blk_drew ?_ | refine blk_alloc ?_ _)); refine blk_far ?_ NB335_343.out _; (with_reducible repeat (first | refine blk_drewN ?_ _ | refine blk_drew ?_ | refine blk_alloc ?_ _)); refine blk_far ?_ NB335_343.out _; (with_reducible repeat (first | refine blk_drewN ?_ _ | refine blk_drew ?_ | refine blk_alloc ?_ _)); exact BK335.out⟩, ⟨by (with_reducible repeat (first | refine blk_drewN ?_ _ | refine blk_drew ?_ | refine blk_alloc ?_ _)); refine blk_put (cs := #[.int .i64 t346, .int .i64 t347, .int .i64 t348, .int .i64 x344003_2]) ?_ 3 _ rfl; (with_reducible repeat (first | refine blk_drewN ?_ _ | refine blk_drew ?_ | refine blk_alloc ?_ _)); refine blk_put (cs := #[.int .i64 t346, .int .i64 t347, .int .i64 x344002_2, .int .i64 x344003_2]) ?_ 2 _ rfl; (with_reducible repeat (first | refine blk_drewN ?_ _ | refine blk_drew ?_ | refine blk_alloc ?_ _)); refine blk_put (cs := #[.int .i64 t346, .int .i64 x344001_2, .int .i64 x344002_2, .int .i64 x344003_2]) ?_ 1 _ rfl; (with_reducible repeat (first | refine blk_drewN ?_ _ | refine blk_drew ?_ | refine blk_alloc ?_ _)); refine blk_put (cs := #[.int .i64 x344000_2, .int .i64 x344001_2, .int .i64 x344002_2, .int .i64 x344003_2]) ?_ 0 _ rfl; (with_reducible repeat (first | refine blk_drewN ?_ _ | refine blk_drew ?_ | refine blk_alloc ?_ _)); exact BK343.out⟩, ⟨by repeat (first | (with_reducible first | exact HB.out | apply below_alloc | apply pw_below_drewN | apply below_drew1 | refine below_set ?_ GE335.out | refine below_set ?_ GE343.out) | exact HB.out)⟩⟩
        case rest =>
         clear HC25
         try clear c1
         try clear c2
         try clear p2
         try clear c3
         try clear c6
         try clear p6
         try clear c15
         try clear c17
         try clear c17b0
         try clear c17b1
         try clear c18
         try clear c18b0
         try clear c18b1
         try clear c19
         try clear c19b0
         try clear c20
         try clear c22
         try clear c22b0
         try clear c23
         try clear c23b0
         try clear c23b1
         try clear c26
         try clear c27
         try clear c28
         try clear c31
         try clear c31b0
         try clear c31b1
         try clear c32
         try clear hcz10_0
         try clear hcz10_1
         try clear hcz10_2
         try clear hcz12_0
         try clear hcz12_1
         try clear hcz12_2
         try clear hcz16_0
         try clear hcz16_1
         try clear hcz16_2
         try clear hcz16_3
         try clear hcz27_0
         try clear hcz27_1
         try clear hcz27_2
         try clear hcz27_3
         try clear hcz28_0
         try clear hcz28_1
         try clear hcz28_2
         try clear hcz30_0
         try clear hcz30_1
         try clear hcz30_2
         try clear hcz30_3
         try clear hcz33_0
         try clear hcz33_1
         try clear hcz33_2
         try clear hcz33_3
         try clear hfz10_0
         try clear hfz10_1
         try clear hfz10_2
         try clear hfz12_0
         try clear hfz12_1
         try clear hfz12_2
         try clear hfz16_0
         try clear hfz16_1
         try clear hfz16_2
         try clear hfz16_3
         try clear hfz27_0
         try clear hfz27_1
         try clear hfz27_2
         try clear hfz27_3
         try clear hfz28_0
         try clear hfz28_1
         try clear hfz28_2
         try clear hfz30_0
         try clear hfz30_1
         try clear hfz30_2
         try clear hfz30_3
         try clear hfz33_0
         try clear hfz33_1
         try clear hfz33_2
         try clear hfz33_3
         try clear p2
         try clear p6
         obtain ⟨kq, x75_24, rfl, HA, HJ24, BK335, BK343, HB⟩ := hcut
         cases kq with
         | zero => exact absurd HA.out (by simp [q_DoorCycles.j2])
         | succ kj24 =>
          have H := HA.out
          clear HA
          simp only [q_DoorCycles.j2] at H
          by_cases c34 : x75_24 = true
          ·subst c34
           have H1 : (none) = some r := by rw [if_pos rfl] at H; exact H
           clear H
           have H := H1
           clear H1
           exact absurd H (by simp)
          ·replace c34 := Bool.eq_false_iff.mpr c34
           subst c34
           have H1 : ((door_Rest.f t346 t347 t348 t349 t332 t333 t334).bind fun bt351 => (if bt351.2.2 = 0 then (if bt351.1 = x344001_2 then (q_DoorCycles.j3 kj24 l1 t336 t344 x13_2 (bt351.2.1 != x344001_2) t332 t333 t334 t346 t347 t348 t349) else (q_DoorCycles.j3 kj24 l1 t336 t344 x13_2 true t332 t333 t334 t346 t347 t348 t349)) else (q_DoorCycles.j3 kj24 l1 t336 t344 x13_2 true t332 t333 t334 t346 t347 t348 t349))) = some r := by rw [if_neg (show ¬ (false = true) by decide)] at H; exact H
           clear H
           have H := H1
           clear H1
           replace H := Option.bind_eq_some_iff.mp H
           obtain ⟨⟨t351, t352, t353⟩, A350, H⟩ := H
           replace H : (if t353 = 0 then (if t351 = x344001_2 then (q_DoorCycles.j3 kj24 l1 t336 t344 x13_2 (t352 != x344001_2) t332 t333 t334 t346 t347 t348 t349) else (q_DoorCycles.j3 kj24 l1 t336 t344 x13_2 true t332 t333 t334 t346 t347 t348 t349)) else (q_DoorCycles.j3 kj24 l1 t336 t344 x13_2 true t332 t333 t334 t346 t347 t348 t349)) = some r := H
           have A35 := Aside0.mk A350
           clear A350
           have HC36 := Aside0.mk H
           clear H
           have hnb37 := NB343_335.out
           have hnc37 := NB335_343.out
           have hcz38_0 : wc.cell? ⟨gb343, 0, none⟩ = some (.int .i64 t346) := (blk_cell BK343.out 0).trans rfl
           have hcz38_1 : wc.cell? ⟨gb343, 1, none⟩ = some (.int .i64 t347) := (blk_cell BK343.out 1).trans rfl
           have hcz38_2 : wc.cell? ⟨gb343, 2, none⟩ = some (.int .i64 t348) := (blk_cell BK343.out 2).trans rfl
           have hcz38_3 : wc.cell? ⟨gb343, 3, none⟩ = some (.int .i64 t349) := (blk_cell BK343.out 3).trans rfl
           have hfz38_0 := blk_frozen BK343.out 0
           have hfz38_1 := blk_frozen BK343.out 1
           have hfz38_2 := blk_frozen BK343.out 2
           have hfz38_3 := blk_frozen BK343.out 3
           have hcz39_0 : wc.cell? ⟨gb335, 0, none⟩ = some (.int .i64 t332) := (blk_cell BK335.out 0).trans rfl
           have hcz39_1 : wc.cell? ⟨gb335, 1, none⟩ = some (.int .i64 t333) := (blk_cell BK335.out 1).trans rfl
           have hcz39_2 : wc.cell? ⟨gb335, 2, none⟩ = some (.int .i64 t334) := (blk_cell BK335.out 2).trans rfl
           have hfz39_0 := blk_frozen BK335.out 0
           have hfz39_1 := blk_frozen BK335.out 1
           have hfz39_2 := blk_frozen BK335.out 2
           go_upto_region 16 with (first | ((with_reducible refine gate_callee (f := 22) rfl ?_); refine goesL_ (some 79) rfl rfl Try.func22 (by kernel_rfl) rfl #[.agg #[.int .i64 t346, .int .i64 t347, .int .i64 t348, .int .i64 t349], .agg #[.int .i64 t332, .int .i64 t333, .int .i64 t334]] rfl (by (try simp only [List.map_toArray, List.map_cons, List.map_nil]); first | done | rfl | (simp only [List.length_drop, List.length_take]; rfl)) ?_; (with_reducible refine (door_Rest.calls t346 t347 t348 t349 t332 t333 t334 t351 t352 t353 _ A35.out).mono ?_); rintro e w40 ⟨rfl, hb⟩; refine ⟨_, rfl, ?_⟩; have n0_ := Aside0.mk (blk_below (g := gb335) (o := .cells #[.int .i64 t332, .int .i64 t333, .int .i64 t334] 25 (0, 0)) (by (with_reducible repeat (first | refine blk_drewN ?_ _ | refine blk_drew ?_ | refine blk_alloc ?_ _)); exact BK335.out) hb); have n1_ := Aside0.mk (blk_below (g := gb343) (o := .cells #[.int .i64 t346, .int .i64 t347, .int .i64 t348, .int .i64 t349] 23 (0, 0)) (by (with_reducible repeat (first | refine blk_drewN ?_ _ | refine blk_drew ?_ | refine blk_alloc ?_ _)); exact BK343.out) hb); have n2_ := Aside0.mk (below_step (by repeat (first | (with_reducible first | exact HB.out | apply below_alloc | apply pw_below_drewN | apply below_drew1 | refine below_set ?_ GE335.out | refine below_set ?_ GE343.out) | exact HB.out)) hb); clear BK335; clear BK343; clear HB; have BK335 := n0_; have BK343 := n1_; have HB := n2_; clear n0_ n1_ n2_; (try clear hb); (try clear hb2); (try clear hk); (try clear hi)))
           (try simp only [Act.put, List.setIfInBounds_toArray, List.set_cons_zero, List.set_cons_succ])
           go_cut [94] (fun v94 wc => ∃ (kq : Nat) (x94_35 : Bool), v94 = .bool x94_35 ∧ Aside0 (q_DoorCycles.j3 kq l1 t336 t344 x13_2 x94_35 t332 t333 t334 t346 t347 t348 t349 = some r) ∧ Aside0 (kq ≤ kj24) ∧ Aside0 (wc.heap[gb335]? = some (.cells #[.int .i64 t332, .int .i64 t333, .int .i64 t334] 25 (0, 0))) ∧ Aside0 (wc.heap[gb343]? = some (.cells #[.int .i64 t346, .int .i64 t347, .int .i64 t348, .int .i64 t349] 23 (0, 0))) ∧ Aside0 (Below w.heap.size w wc))
           case first =>
            have H := HC36.out
            clear HC36
            by_cases c41 : t353 = 0
            ·rw [if_pos c41] at H
             have c41b0 : (t353 == 0) = true := beq_iff_eq.mpr c41
             have c41b1 : (t353 != 0) = false := bne_eq_false_iff_eq.mpr c41
             clear c41
             (first | rw [c41b0] | (simp only [i64_w, i32_w]; rw [c41b0]) | skip)
             by_cases c42 : t351 = x344001_2
             ·rw [if_pos c42] at H
              have c42b0 : (t351 == x344001_2) = true := beq_iff_eq.mpr c42
              have c42b1 : (t351 != x344001_2) = false := bne_eq_false_iff_eq.mpr c42
              clear c42
              have H' := Aside0.mk H
              clear H
              go_wp2
              go_meet
              case rel => exact ⟨_, ((t352 != x344001_2)), (by first | rfl | (simp; done) | (simp [*]; done)), H', ⟨by have := HJ6.out; have := HK2.out; have := HJ24.out; first | omega | exact Nat.le_refl _⟩, ⟨by (with_reducible repeat (first | refine blk_drewN ?_ _ | refine blk_drew ?_ | refine blk_alloc ?_ _)); exact BK335.out⟩, ⟨by (with_reducible repeat (first | refine blk_drewN ?_ _ | refine blk_drew ?_ | refine blk_alloc ?_ _)); exact BK343.out⟩, ⟨by repeat (first | (with_reducible first | exact HB.out | apply below_alloc | apply pw_below_drewN | apply below_drew1 | refine below_set ?_ GE335.out | refine below_set ?_ GE343.out) | exact HB.out)⟩⟩
             ·rw [if_neg c42] at H
              have c42b0 : (t351 == x344001_2) = false := beq_eq_false_iff_ne.mpr c42
              have c42b1 : (t351 != x344001_2) = true := bne_iff_ne.mpr c42
              have H' := Aside0.mk H
              clear H
              go_wp2
              go_meet
              case rel => exact ⟨_, (true), (by first | rfl | (simp; done) | (simp [*]; done)), H', ⟨by have := HJ6.out; have := HK2.out; have := HJ24.out; first | omega | exact Nat.le_refl _⟩, ⟨by (with_reducible repeat (first | refine blk_drewN ?_ _ | refine blk_drew ?_ | refine blk_alloc ?_ _)); exact BK335.out⟩, ⟨by (with_reducible repeat (first | refine blk_drewN ?_ _ | refine blk_drew ?_ | refine blk_alloc ?_ _)); exact BK343.out⟩, ⟨by repeat (first | (with_reducible first | exact HB.out | apply below_alloc | apply pw_below_drewN | apply below_drew1 | refine below_set ?_ GE335.out | refine below_set ?_ GE343.out) | exact HB.out)⟩⟩
            ·rw [if_neg c41] at H
             have c41b0 : (t353 == 0) = false := beq_eq_false_iff_ne.mpr c41
             have c41b1 : (t353 != 0) = true := bne_iff_ne.mpr c41
             (first | rw [c41b0] | (simp only [i64_w, i32_w]; rw [c41b0]) | skip)
             have H' := Aside0.mk H
             clear H
             go_wp2
             go_meet
             case rel => exact ⟨_, (true), (by first | rfl | (simp; done) | (simp [*]; done)), H', ⟨by have := HJ6.out; have := HK2.out; have := HJ24.out; first | omega | exact Nat.le_refl _⟩, ⟨by (with_reducible repeat (first | refine blk_drewN ?_ _ | refine blk_drew ?_ | refine blk_alloc ?_ _)); exact BK335.out⟩, ⟨by (with_reducible repeat (first | refine blk_drewN ?_ _ | refine blk_drew ?_ | refine blk_alloc ?_ _)); exact BK343.out⟩, ⟨by repeat (first | (with_reducible first | exact HB.out | apply below_alloc | apply pw_below_drewN | apply below_drew1 | refine below_set ?_ GE335.out | refine below_set ?_ GE343.out) | exact HB.out)⟩⟩
           case rest =>
            clear HC36
            try clear c1
            try clear c2
            try clear p2
            try clear c3
            try clear c4
            try clear c6
            try clear p6
            try clear c15
            try clear c17
            try clear c17b0
            try clear c17b1
            try clear c18
            try clear c18b0
            try clear c18b1
            try clear c19
            try clear c19b0
            try clear c20
            try clear c22
            try clear c22b0
            try clear c23
            try clear c23b0
            try clear c23b1
            try clear c26
            try clear c27
            try clear c28
            try clear c31
            try clear c31b0
            try clear c31b1
            try clear c32
            try clear c34
            try clear c37
            try clear c41
            try clear c41b0
            try clear c41b1
            try clear c42
            try clear c42b0
            try clear c42b1
            try clear hcz10_0
            try clear hcz10_1
            try clear hcz10_2
            try clear hcz12_0
            try clear hcz12_1
            try clear hcz12_2
            try clear hcz16_0
            try clear hcz16_1
            try clear hcz16_2
            try clear hcz16_3
            try clear hcz27_0
            try clear hcz27_1
            try clear hcz27_2
            try clear hcz27_3
            try clear hcz28_0
            try clear hcz28_1
            try clear hcz28_2
            try clear hcz30_0
            try clear hcz30_1
            try clear hcz30_2
            try clear hcz30_3
            try clear hcz33_0
            try clear hcz33_1
            try clear hcz33_2
            try clear hcz33_3
            try clear hcz38_0
            try clear hcz38_1
            try clear hcz38_2
            try clear hcz38_3
            try clear hcz39_0
            try clear hcz39_1
            try clear hcz39_2
            try clear hfz10_0
            try clear hfz10_1
            try clear hfz10_2
            try clear hfz12_0
            try clear hfz12_1
            try clear hfz12_2
            try clear hfz16_0
            try clear hfz16_1
            try clear hfz16_2
            try clear hfz16_3
            try clear hfz27_0
            try clear hfz27_1
            try clear hfz27_2
            try clear hfz27_3
            try clear hfz28_0
            try clear hfz28_1
            try clear hfz28_2
            try clear hfz30_0
            try clear hfz30_1
            try clear hfz30_2
            try clear hfz30_3
            try clear hfz33_0
            try clear hfz33_1
            try clear hfz33_2
            try clear hfz33_3
            try clear hfz38_0
            try clear hfz38_1
            try clear hfz38_2
            try clear hfz38_3
            try clear hfz39_0
            try clear hfz39_1
            try clear hfz39_2
            try clear p2
            try clear p6
            obtain ⟨kq, x94_35, rfl, HA, HJ35, BK335, BK343, HB⟩ := hcut
            cases kq with
            | zero => exact absurd HA.out (by simp [q_DoorCycles.j3])
            | succ kj35 =>
             have H := HA.out
             clear HA
             simp only [q_DoorCycles.j3] at H
             by_cases c43 : x94_35 = true
             ·subst c43
              have H1 : (none) = some r := by rw [if_pos rfl] at H; exact H
              clear H
              have H := H1
              clear H1
              exact absurd H (by simp)
             ·replace c43 := Bool.eq_false_iff.mpr c43
              subst c43
              have H1 : (if x13_2 < (l1.length : Int) then (if 0 ≤ x13_2 then ((door_Step.f kj35 t346 t347 t348 t349 t332 t333 t334 (rdOf false l1 x13_2)).bind fun bt355 => (if bt355.2.2.2.2.2 = 0 then (if bt355.2.1 < 0 then (none) else (if bt355.2.1 > t332 then (none) else (if bt355.2.1 > (wrap64 (t347 + 1)) then (none) else (if bt355.2.1 < (wrap64 (t347 - 1)) then (none) else (if bt355.2.1 > (wrap64 ((wrap64 (t336 - x13_2)) - 1)) then (none) else (q_DoorCycles.l0 kj35 l1 t336 t344 (wrap64 (x13_2 + 1)) t332 t333 t334 bt355.1 bt355.2.1 bt355.2.2.1 bt355.2.2.2.1)))))) else (none))) else (none)) else ((door_Step.f kj35 t346 t347 t348 t349 t332 t333 t334 false).bind fun bt362 => (if bt362.2.2.2.2.2 = 0 then (if bt362.2.1 < 0 then (none) else (if bt362.2.1 > t332 then (none) else (if bt362.2.1 > (wrap64 (t347 + 1)) then (none) else (if bt362.2.1 < (wrap64 (t347 - 1)) then (none) else (if bt362.2.1 > (wrap64 ((wrap64 (t336 - x13_2)) - 1)) then (none) else (q_DoorCycles.l0 kj35 l1 t336 t344 (wrap64 (x13_2 + 1)) t332 t333 t334 bt362.1 bt362.2.1 bt362.2.2.1 bt362.2.2.2.1)))))) else (none)))) = some r := by rw [if_neg (show ¬ (false = true) by decide)] at H; exact H
              clear H
              have H := H1
              clear H1
              by_cases c44 : x13_2 < (l1.length : Int)
              ·rw [if_pos c44] at H
               have c44b0 : decide (x13_2 < (l1.length : Int)) = true := decide_eq_true c44
               clear c44
               by_cases c45 : 0 ≤ x13_2
               ·rw [if_pos c45] at H
                have c45b0 : decide (0 ≤ x13_2) = true := decide_eq_true c45
                clear c45
                replace H := Option.bind_eq_some_iff.mp H
                obtain ⟨⟨t355, t356, t357, t358, t359, t360⟩, A460, H⟩ := H
                replace H : (if t360 = 0 then (if t356 < 0 then (none) else (if t356 > t332 then (none) else (if t356 > (wrap64 (t347 + 1)) then (none) else (if t356 < (wrap64 (t347 - 1)) then (none) else (if t356 > (wrap64 ((wrap64 (t336 - x13_2)) - 1)) then (none) else (q_DoorCycles.l0 kj35 l1 t336 t344 (wrap64 (x13_2 + 1)) t332 t333 t334 t355 t356 t357 t358)))))) else (none)) = some r := H
                have A46 := Aside0.mk A460
                clear A460
                by_cases c47 : t360 = 0
                ·rw [if_pos c47] at H
                 have c47b0 : (t360 == 0) = true := beq_iff_eq.mpr c47
                 have c47b1 : (t360 != 0) = false := bne_eq_false_iff_eq.mpr c47
                 clear c47
                 by_cases c48 : t356 < 0
                 ·rw [if_pos c48] at H
                  exact absurd H (by simp)
                 ·rw [if_neg c48] at H
                  have c48b0 : decide (t356 < 0) = false := decide_eq_false c48
                  clear c48
                  by_cases c49 : t356 > t332
                  ·rw [if_pos c49] at H
                   exact absurd H (by simp)
                  ·rw [if_neg c49] at H
                   have c49b0 : decide (t332 < t356) = false := decide_eq_false c49
                   clear c49
                   by_cases c50 : t356 > (wrap64 (t347 + 1))
                   ·rw [if_pos c50] at H
                    exact absurd H (by simp)
                   ·rw [if_neg c50] at H
                    have c50b0 : decide ((wrap64 (t347 + 1)) < t356) = false := decide_eq_false c50
                    clear c50
                    by_cases c51 : t356 < (wrap64 (t347 - 1))
                    ·rw [if_pos c51] at H
                     exact absurd H (by simp)
                    ·rw [if_neg c51] at H
                     have c51b0 : decide (t356 < (wrap64 (t347 - 1))) = false := decide_eq_false c51
                     clear c51
                     by_cases c52 : t356 > (wrap64 ((wrap64 (t336 - x13_2)) - 1))
                     ·rw [if_pos c52] at H
                      exact absurd H (by simp)
                     ·rw [if_neg c52] at H
                      have c52b0 : decide ((wrap64 ((wrap64 (t336 - x13_2)) - 1)) < t356) = false := decide_eq_false c52
                      clear c52
                      have H' := Aside0.mk H
                      clear H
                      try go_wp2
                      have n0_ := Aside0.mk (blk_drew BK335.out)
                      have n1_ := Aside0.mk (blk_drew BK343.out)
                      have n2_ := Aside0.mk (below_drew1 HB.out)
                      clear BK335
                      clear BK343
                      clear HB
                      have BK335 := n0_
                      have BK343 := n1_
                      have HB := n2_
                      clear n0_ n1_ n2_
                      have p354 : 0 ≤ (x13_2 : Int) := of_decide_eq_true (by first | (with_reducible assumption) | assumption)
                      have q354 : x13_2 < (l1.length : Int) := of_decide_eq_true (by first | (with_reducible assumption) | assumption)
                      obtain ⟨ad354, e354, hx354_0⟩ := Kd.at_bool HR1.out x13_2 p354 q354
                      have hw354_0 := hx354_0
                      cases e354
                      replace hx354_0 := (HB.out.cell (World.block_lt_of_cell? w _ hx354_0)).trans hx354_0
                      replace p354 := eq_true p354
                      replace q354 := eq_true q354
                      refine start_ (n := 21) (S := fun w' => w'.cell? ⟨gb343, 0, none⟩ = some (.int .i64 t346) ∧ w'.cell? ⟨gb343, 1, none⟩ = some (.int .i64 t347) ∧ w'.cell? ⟨gb343, 2, none⟩ = some (.int .i64 t348) ∧ w'.cell? ⟨gb343, 3, none⟩ = some (.int .i64 t349) ∧ w'.cell? ⟨gb335, 0, none⟩ = some (.int .i64 t332) ∧ w'.cell? ⟨gb335, 1, none⟩ = some (.int .i64 t333) ∧ w'.cell? ⟨gb335, 2, none⟩ = some (.int .i64 t334) ∧ w'.cell? (ad354.add (x13_2).toNat) = some (.bool (rdOf false l1 x13_2))) (ds := []) #[false, false, false, false, false, false, false, false, false, false, false, false, false, false, false, false, false, false, false, false, false] (by kernel_rfl) rfl rfl ⟨(blk_cell BK343.out 0).trans rfl, (blk_cell BK343.out 1).trans rfl, (blk_cell BK343.out 2).trans rfl, (blk_cell BK343.out 3).trans rfl, (blk_cell BK335.out 0).trans rfl, (blk_cell BK335.out 1).trans rfl, (blk_cell BK335.out 2).trans rfl, ((HB.out.cell (World.block_lt_of_cell? w _ hw354_0)).trans hw354_0)⟩ (fun hHeld => ?_); refine with_tabW q_DoorCycles.tab18 q_DoorCycles.bits18 (fun HT_ HW_ => ?_)
                      generalize wc.drew = w53 at BK335 BK343 HB hx354_0 hHeld ⊢
                      refine pure_ (i := 2) (N := some 98) (v := ?_) (a' := ?_) #[false, false, true, false, false, false, false, false, false, false, false, false, false, false, false, false, false, false, false, false, false] rfl rfl (any_of HT_.out (by kernel_rfl)) (fun _ _ _ h => h) (Or.inl ⟨by rfl, ?_⟩) ?_ ?_
                      rotate_left
                      ·intro w'
                       go_simp
                       with_reducible rfl
                      rotate_left
                      ·simp only [Act.put, List.setIfInBounds_toArray, List.set_cons_zero, List.set_cons_succ, i64_w, i32_w]
                       rfl
                      refine pure_ (i := 3) (N := some 99) (v := ?_) (a' := ?_) #[false, false, true, true, false, false, false, false, false, false, false, false, false, false, false, false, false, false, false, false, false] rfl rfl (any_of HT_.out (by kernel_rfl)) (fun _ _ _ h => h) (Or.inl ⟨by rfl, ?_⟩) ?_ ?_
                      rotate_left
                      ·intro w'
                       go_simp
                       with_reducible rfl
                      rotate_left
                      ·simp only [Act.put, List.setIfInBounds_toArray, List.set_cons_zero, List.set_cons_succ, i64_w, i32_w]
                       rfl
                      refine pure_ (i := 4) (N := some 100) (v := ?_) (a' := ?_) #[false, false, true, true, true, false, false, false, false, false, false, false, false, false, false, false, false, false, false, false, false] rfl rfl (any_of HT_.out (by kernel_rfl)) (fun _ _ _ h => h) (Or.inl ⟨by rfl, ?_⟩) ?_ ?_
                      rotate_left
                      ·intro w'
                       go_simp
                       with_reducible rfl
                      rotate_left
                      ·simp only [Act.put, List.setIfInBounds_toArray, List.set_cons_zero, List.set_cons_succ, i64_w, i32_w]
                       rfl
                      refine pure_ (i := 5) (N := some 101) (v := ?_) (a' := ?_) #[false, false, true, true, true, true, false, false, false, false, false, false, false, false, false, false, false, false, false, false, false] rfl rfl (any_of HT_.out (by kernel_rfl)) (fun _ _ _ h => h) (Or.inl ⟨by rfl, ?_⟩) ?_ ?_
                      rotate_left
                      ·intro w'
                       go_simp
                       with_reducible rfl
                      rotate_left
                      ·simp only [Act.put, List.setIfInBounds_toArray, List.set_cons_zero, List.set_cons_succ, i64_w, i32_w]
                       rfl
                      refine pure_ (i := 6) (N := some 102) (v := ?_) (a' := ?_) #[false, false, true, true, true, true, true, false, false, false, false, false, false, false, false, false, false, false, false, false, false] rfl rfl (any_of HT_.out (by kernel_rfl)) (fun _ _ _ h => h) (Or.inl ⟨by rfl, ?_⟩) ?_ ?_
                      rotate_left
                      ·intro w'
                       go_simp
                       with_reducible rfl
                      rotate_left
                      ·simp only [Act.put, List.setIfInBounds_toArray, List.set_cons_zero, List.set_cons_succ, i64_w, i32_w]
                       rfl
                      refine pure_ (i := 7) (N := some 103) (v := ?_) (a' := ?_) #[false, false, true, true, true, true, true, true, false, false, false, false, false, false, false, false, false, false, false, false, false] rfl rfl (any_of HT_.out (by kernel_rfl)) (fun _ _ _ h => h) (Or.inl ⟨by rfl, ?_⟩) ?_ ?_
                      rotate_left
                      ·intro w'
                       go_simp
                       with_reducible rfl
                      rotate_left
                      ·simp only [Act.put, List.setIfInBounds_toArray, List.set_cons_zero, List.set_cons_succ, i64_w, i32_w]
                       rfl
                      refine pure_ (i := 8) (N := some 104) (v := ?_) (a' := ?_) #[false, false, true, true, true, true, true, true, true, false, false, false, false, false, false, false, false, false, false, false, false] rfl rfl (any_of HT_.out (by kernel_rfl)) (fun _ _ _ h => h) (Or.inl ⟨by rfl, ?_⟩) ?_ ?_
                      rotate_left
                      ·intro w'
                       go_simp
                       with_reducible rfl
                      rotate_left
                      ·simp only [Act.put, List.setIfInBounds_toArray, List.set_cons_zero, List.set_cons_succ, i64_w, i32_w]
                       rfl
                      refine pure_ (i := 9) (N := some 105) (v := ?_) (a' := ?_) #[false, false, true, true, true, true, true, true, true, true, false, false, false, false, false, false, false, false, false, false, false] rfl rfl (any_of HT_.out (by kernel_rfl)) (fun _ _ _ h => h) (Or.inl ⟨by rfl, ?_⟩) ?_ ?_
                      rotate_left
                      ·intro w'
                       go_simp
                       with_reducible rfl
                      rotate_left
                      ·simp only [Act.put, List.setIfInBounds_toArray, List.set_cons_zero, List.set_cons_succ, i64_w, i32_w]
                       rfl
                      refine take_ (i := 0) (N := some 96) (v := ?_) (a' := ?_) #[true, false, true, true, true, true, true, true, true, true, false, false, false, false, false, false, false, false, false, false, false] rfl rfl (take_ofW HT_.out HW_.out (by kernel_rfl)) (fun _ _ _ h => h) (Or.inl ⟨by rfl, ?_⟩) hHeld ?_ ?_
                      rotate_left
                      ·rintro w' ⟨s0, s1, s2, s3, s4, s5, s6, s7⟩
                       go_simp
                       with_reducible rfl
                      rotate_left
                      ·simp only [Act.put, List.setIfInBounds_toArray, List.set_cons_zero, List.set_cons_succ, i64_w, i32_w]
                       rfl
                      refine take_ (i := 1) (N := some 97) (v := ?_) (a' := ?_) #[true, true, true, true, true, true, true, true, true, true, false, false, false, false, false, false, false, false, false, false, false] rfl rfl (take_ofW HT_.out HW_.out (by kernel_rfl)) (fun _ _ _ h => h) (Or.inl ⟨by rfl, ?_⟩) hHeld ?_ ?_
                      rotate_left
                      ·rintro w' ⟨s0, s1, s2, s3, s4, s5, s6, s7⟩
                       go_simp
                       with_reducible rfl
                      rotate_left
                      ·simp only [Act.put, List.setIfInBounds_toArray, List.set_cons_zero, List.set_cons_succ, i64_w, i32_w]
                       rfl
                      refine take_ (i := 10) (N := some 106) (v := ?_) (a' := ?_) #[true, true, true, true, true, true, true, true, true, true, true, false, false, false, false, false, false, false, false, false, false] rfl rfl (take_ofW HT_.out HW_.out (by kernel_rfl)) (fun _ _ _ h => h) (Or.inl ⟨by rfl, ?_⟩) hHeld ?_ ?_
                      rotate_left
                      ·rintro w' ⟨s0, s1, s2, s3, s4, s5, s6, s7⟩
                       go_simp
                       with_reducible rfl
                      rotate_left
                      ·simp only [Act.put, List.setIfInBounds_toArray, List.set_cons_zero, List.set_cons_succ, i64_w, i32_w]
                       rfl
                      refine pure_ (i := 11) (N := some 107) (v := ?_) (a' := ?_) #[true, true, true, true, true, true, true, true, true, true, true, true, false, false, false, false, false, false, false, false, false] rfl rfl (any_of HT_.out (by kernel_rfl)) (fun _ _ _ h => h) (Or.inl ⟨by rfl, ?_⟩) ?_ ?_
                      rotate_left
                      ·intro w'
                       go_simp
                       with_reducible rfl
                      rotate_left
                      ·simp only [Act.put, List.setIfInBounds_toArray, List.set_cons_zero, List.set_cons_succ, i64_w, i32_w]
                       rfl
                      refine join_ (σ := Nat) 3 #[true, true, true, true, true, true, true, true, true, true, true, true, true, true, true, true, true, true, false, false, false] (fun s_ => [(108, .tuple #[.agg #[.int .i64 t355, .int .i64 t356, .int .i64 t357, .int .i64 t358], .bool t359, .int .i64 t360]), (18, .pointer (some ⟨s_, 0, none⟩)), (95, .tuple #[.agg #[.int .i64 t355, .int .i64 t356, .int .i64 t357, .int .i64 t358], .bool t359, .int .i64 t360]), (109, .agg #[.int .i64 t355, .int .i64 t356, .int .i64 t357, .int .i64 t358]), (110, .bool t359), (111, .int .i64 t360)]) (fun s_ w' => (w'.cell? ⟨gb343, 0, none⟩ = some (.int .i64 t346) ∧ w'.cell? ⟨gb343, 1, none⟩ = some (.int .i64 t347) ∧ w'.cell? ⟨gb343, 2, none⟩ = some (.int .i64 t348) ∧ w'.cell? ⟨gb343, 3, none⟩ = some (.int .i64 t349) ∧ w'.cell? ⟨gb335, 0, none⟩ = some (.int .i64 t332) ∧ w'.cell? ⟨gb335, 1, none⟩ = some (.int .i64 t333) ∧ w'.cell? ⟨gb335, 2, none⟩ = some (.int .i64 t334) ∧ w'.cell? (ad354.add (x13_2).toNat) = some (.bool (rdOf false l1 x13_2))) ∧ (w'.heap[gb335]? = some (.cells #[.int .i64 t332, .int .i64 t333, .int .i64 t334] 25 (0, 0))) ∧ (w'.heap[gb343]? = some (.cells #[.int .i64 t346, .int .i64 t347, .int .i64 t348, .int .i64 t349] 23 (0, 0))) ∧ (w'.heap[s_]? = some (.cells #[.int .i64 0, .int .i64 0, .int .i64 0, .int .i64 0] 23 (0, 0))) ∧ (w.heap.size ≤ s_) ∧ (w.heap.size ≤ s_) ∧ (gb335 ≠ s_) ∧ (s_ ≠ gb335) ∧ (gb343 ≠ s_) ∧ (s_ ≠ gb343) ∧ (Below w.heap.size w w')) ?_ ?_
                      rotate_left
                      ·intro hCont
                       refine two_ (i := 12) (j := 17) (Ni := some 108) (Nj := some 18) #[true, true, true, true, true, true, true, true, true, true, true, true, true, false, false, false, false, false, false, false, false] #[true, true, true, true, true, true, true, true, true, true, true, true, false, false, false, false, false, true, false, false, false] rfl rfl rfl rfl (two_of HT_.out (by kernel_rfl)) (by decide) (by decide) (fun K hK => ?_) (fun K hK => ?_)
                       ·skip
                        refine goes_ Try.func9 (by kernel_rfl) rfl #[.agg #[.int .i64 t346, .int .i64 t347, .int .i64 t348, .int .i64 t349], .agg #[.int .i64 t332, .int .i64 t333, .int .i64 t334], .bool (rdOf false l1 x13_2)] (by rfl) rfl rfl (by (try simp only [List.map_toArray, List.map_cons, List.map_nil]); first | done | rfl | (simp only [List.length_drop, List.length_take]; rfl)) ?_
                        with_reducible refine (door_Step.calls kj35 t346 t347 t348 t349 t332 t333 t334 (rdOf false l1 x13_2) t355 t356 t357 t358 t359 t360 _ A46.out).mono ?_
                        rintro e w54 ⟨rfl, hb⟩
                        refine ⟨_, rfl, ?_⟩
                        have n0_ := Aside0.mk (blk_below (g := gb335) (o := .cells #[.int .i64 t332, .int .i64 t333, .int .i64 t334] 25 (0, 0)) (by (with_reducible repeat (first | refine blk_drewN ?_ _ | refine blk_drew ?_ | refine blk_alloc ?_ _)); exact BK335.out) hb)
                        have n1_ := Aside0.mk (blk_below (g := gb343) (o := .cells #[.int .i64 t346, .int .i64 t347, .int .i64 t348, .int .i64 t349] 23 (0, 0)) (by (with_reducible repeat (first | refine blk_drewN ?_ _ | refine blk_drew ?_ | refine blk_alloc ?_ _)); exact BK343.out) hb)
                        have n2_ := Aside0.mk (below_step (by repeat (first | (with_reducible first | exact HB.out | apply below_alloc | apply pw_below_drewN | apply below_drew1 | refine below_set ?_ GE335.out | refine below_set ?_ GE343.out) | exact HB.out)) hb)
                        clear BK335
                        clear BK343
                        clear HB
                        have BK335 := n0_
                        have BK343 := n1_
                        have HB := n2_
                        clear n0_ n1_ n2_
                        (try clear hb)
                        (try clear hb2)
                        (try clear hk)
                        (try clear hi)
                        refine hK.out _ _ ⟨(blk_cell BK343.out 0).trans rfl, (blk_cell BK343.out 1).trans rfl, (blk_cell BK343.out 2).trans rfl, (blk_cell BK343.out 3).trans rfl, (blk_cell BK335.out 0).trans rfl, (blk_cell BK335.out 1).trans rfl, (blk_cell BK335.out 2).trans rfl, ((HB.out.cell (World.block_lt_of_cell? w _ hw354_0)).trans hw354_0)⟩ (fun hHeld => ?_)
                        clear hK K
                        refine norm_ (a' := ?_) ?_ ?_
                        rotate_left
                        ·show Act.put _ (some 108) _ = _
                         simp only [Act.put, List.setIfInBounds_toArray, List.set_cons_zero, List.set_cons_succ, i64_w, i32_w]
                         rfl
                        refine pure_ (i := 13) (N := some 95) (v := ?_) (a' := ?_) #[true, true, true, true, true, true, true, true, true, true, true, true, true, true, false, false, false, false, false, false, false] rfl rfl (any_of HT_.out (by kernel_rfl)) (fun _ _ _ h => h) (Or.inl ⟨by rfl, ?_⟩) ?_ ?_
                        rotate_left
                        ·intro w'
                         go_simp
                         with_reducible rfl
                        rotate_left
                        ·simp only [Act.put, List.setIfInBounds_toArray, List.set_cons_zero, List.set_cons_succ, i64_w, i32_w]
                         rfl
                        refine pure_ (i := 14) (N := some 109) (v := ?_) (a' := ?_) #[true, true, true, true, true, true, true, true, true, true, true, true, true, true, true, false, false, false, false, false, false] rfl rfl (any_of HT_.out (by kernel_rfl)) (fun _ _ _ h => h) (Or.inl ⟨by rfl, ?_⟩) ?_ ?_
                        rotate_left
                        ·intro w'
                         go_simp
                         with_reducible rfl
                        rotate_left
                        ·simp only [Act.put, List.setIfInBounds_toArray, List.set_cons_zero, List.set_cons_succ, i64_w, i32_w]
                         rfl
                        refine pure_ (i := 15) (N := some 110) (v := ?_) (a' := ?_) #[true, true, true, true, true, true, true, true, true, true, true, true, true, true, true, true, false, false, false, false, false] rfl rfl (any_of HT_.out (by kernel_rfl)) (fun _ _ _ h => h) (Or.inl ⟨by rfl, ?_⟩) ?_ ?_
                        rotate_left
                        ·intro w'
                         go_simp
                         with_reducible rfl
                        rotate_left
                        ·simp only [Act.put, List.setIfInBounds_toArray, List.set_cons_zero, List.set_cons_succ, i64_w, i32_w]
                         rfl
                        refine pure_ (i := 16) (N := some 111) (v := ?_) (a' := ?_) #[true, true, true, true, true, true, true, true, true, true, true, true, true, true, true, true, true, false, false, false, false] rfl rfl (any_of HT_.out (by kernel_rfl)) (fun _ _ _ h => h) (Or.inl ⟨by rfl, ?_⟩) ?_ ?_
                        rotate_left
                        ·intro w'
                         go_simp
                         with_reducible rfl
                        rotate_left
                        ·simp only [Act.put, List.setIfInBounds_toArray, List.set_cons_zero, List.set_cons_succ, i64_w, i32_w]
                         rfl
                        refine one_ (i := 17) (N := some 18) #[true, true, true, true, true, true, true, true, true, true, true, true, true, true, true, true, true, true, false, false, false] rfl rfl (one_of HT_.out (by kernel_rfl)) (by decide) (fun K hK => ?_)
                        refine box_step ?hg (N := 18) ?hd (cs := #[.int .i64 0, .int .i64 0, .int .i64 0, .int .i64 0]) (t := 23) ?hr ?_; (case hd => rfl); (case hg => rfl); (case hr => first | (go_simp; done) | (go_simp; rfl))
                        intro gb361 hg w55 hbox hb
                        have n0_ := Aside0.mk (blk_below (g := gb335) (o := .cells #[.int .i64 t332, .int .i64 t333, .int .i64 t334] 25 (0, 0)) (by (with_reducible repeat (first | refine blk_drewN ?_ _ | refine blk_drew ?_ | refine blk_alloc ?_ _)); exact BK335.out) hb)
                        have n1_ := Aside0.mk (blk_below (g := gb343) (o := .cells #[.int .i64 t346, .int .i64 t347, .int .i64 t348, .int .i64 t349] 23 (0, 0)) (by (with_reducible repeat (first | refine blk_drewN ?_ _ | refine blk_drew ?_ | refine blk_alloc ?_ _)); exact BK343.out) hb)
                        have n2_ := Aside0.mk (below_step (by repeat (first | (with_reducible first | exact HB.out | apply below_alloc | apply pw_below_drewN | apply below_drew1 | refine below_set ?_ GE335.out | refine below_set ?_ GE343.out) | exact HB.out)) hb)
                        have n3_ := Aside0.mk (hbox)
                        have n4_ := Aside0.mk ((by rw [hg]; exact (below_size (by repeat (first | (with_reducible first | exact HB.out | apply below_alloc | apply pw_below_drewN | apply below_drew1 | refine below_set ?_ GE335.out | refine below_set ?_ GE343.out) | exact HB.out))) : w.heap.size ≤ gb361))
                        have n5_ := Aside0.mk ((by rw [hg]; exact (below_size (by repeat (first | (with_reducible first | exact HB.out | apply below_alloc | apply pw_below_drewN | apply below_drew1 | refine below_set ?_ GE335.out | refine below_set ?_ GE343.out) | exact HB.out))) : w.heap.size ≤ gb361))
                        have n6_ := Aside0.mk ((by rw [hg]; exact Nat.ne_of_lt (blk_lt (g := gb335) (o := .cells #[.int .i64 t332, .int .i64 t333, .int .i64 t334] 25 (0, 0)) (by (with_reducible repeat (first | refine blk_drewN ?_ _ | refine blk_drew ?_ | refine blk_alloc ?_ _)); exact BK335.out)) : gb335 ≠ gb361))
                        have n7_ := Aside0.mk ((by rw [hg]; exact Nat.ne_of_gt (blk_lt (g := gb335) (o := .cells #[.int .i64 t332, .int .i64 t333, .int .i64 t334] 25 (0, 0)) (by (with_reducible repeat (first | refine blk_drewN ?_ _ | refine blk_drew ?_ | refine blk_alloc ?_ _)); exact BK335.out)) : gb361 ≠ gb335))
                        have n8_ := Aside0.mk ((by rw [hg]; exact Nat.ne_of_lt (blk_lt (g := gb343) (o := .cells #[.int .i64 t346, .int .i64 t347, .int .i64 t348, .int .i64 t349] 23 (0, 0)) (by (with_reducible repeat (first | refine blk_drewN ?_ _ | refine blk_drew ?_ | refine blk_alloc ?_ _)); exact BK343.out)) : gb343 ≠ gb361))
                        have n9_ := Aside0.mk ((by rw [hg]; exact Nat.ne_of_gt (blk_lt (g := gb343) (o := .cells #[.int .i64 t346, .int .i64 t347, .int .i64 t348, .int .i64 t349] 23 (0, 0)) (by (with_reducible repeat (first | refine blk_drewN ?_ _ | refine blk_drew ?_ | refine blk_alloc ?_ _)); exact BK343.out)) : gb361 ≠ gb343))
                        clear BK335
                        clear BK343
                        clear HB
                        have BK335 := n0_
                        have BK343 := n1_
                        have HB := n2_
                        have BK361 := n3_
                        have GW361 := n4_
                        have GE361 := n5_
                        have NB335_361 := n6_
                        have NB361_335 := n7_
                        have NB343_361 := n8_
                        have NB361_343 := n9_
                        clear n0_ n1_ n2_ n3_ n4_ n5_ n6_ n7_ n8_ n9_
                        clear hb hbox hg
                        refine hK.out _ _ ⟨(blk_cell BK343.out 0).trans rfl, (blk_cell BK343.out 1).trans rfl, (blk_cell BK343.out 2).trans rfl, (blk_cell BK343.out 3).trans rfl, (blk_cell BK335.out 0).trans rfl, (blk_cell BK335.out 1).trans rfl, (blk_cell BK335.out 2).trans rfl, ((HB.out.cell (World.block_lt_of_cell? w _ hw354_0)).trans hw354_0)⟩ (fun hHeld => ?_)
                        clear hK K
                        refine norm_ (a' := ?_) ?_ ?_
                        rotate_left
                        ·show Act.put _ (some 18) _ = _
                         simp only [Act.put, List.setIfInBounds_toArray, List.set_cons_zero, List.set_cons_succ, i64_w, i32_w]
                         rfl
                        exact norm_ (by simp only [putAll, Act.put, List.setIfInBounds_toArray, List.set_cons_zero, List.set_cons_succ]) (hCont (gb361) _ ⟨hHeld, (by (with_reducible repeat (first | refine blk_drewN ?_ _ | refine blk_drew ?_ | refine blk_alloc ?_ _)); exact BK335.out), (by (with_reducible repeat (first | refine blk_drewN ?_ _ | refine blk_drew ?_ | refine blk_alloc ?_ _)); exact BK343.out), (by (with_reducible repeat (first | refine blk_drewN ?_ _ | refine blk_drew ?_ | refine blk_alloc ?_ _)); exact BK361.out), GW361.out, GE361.out, NB335_361.out, NB361_335.out, NB343_361.out, NB361_343.out, (by repeat (first | (with_reducible first | exact HB.out | apply below_alloc | apply pw_below_drewN | apply below_drew1 | refine below_set ?_ GE335.out | refine below_set ?_ GE343.out | refine below_set ?_ GE361.out) | exact HB.out))⟩)
                       ·skip
                        refine box_step ?hg (N := 18) ?hd (cs := #[.int .i64 0, .int .i64 0, .int .i64 0, .int .i64 0]) (t := 23) ?hr ?_; (case hd => rfl); (case hg => rfl); (case hr => first | (go_simp; done) | (go_simp; rfl))
                        intro gb361 hg w54 hbox hb
                        have n0_ := Aside0.mk (blk_below (g := gb335) (o := .cells #[.int .i64 t332, .int .i64 t333, .int .i64 t334] 25 (0, 0)) (by (with_reducible repeat (first | refine blk_drewN ?_ _ | refine blk_drew ?_ | refine blk_alloc ?_ _)); exact BK335.out) hb)
                        have n1_ := Aside0.mk (blk_below (g := gb343) (o := .cells #[.int .i64 t346, .int .i64 t347, .int .i64 t348, .int .i64 t349] 23 (0, 0)) (by (with_reducible repeat (first | refine blk_drewN ?_ _ | refine blk_drew ?_ | refine blk_alloc ?_ _)); exact BK343.out) hb)
                        have n2_ := Aside0.mk (below_step (by repeat (first | (with_reducible first | exact HB.out | apply below_alloc | apply pw_below_drewN | apply below_drew1 | refine below_set ?_ GE335.out | refine below_set ?_ GE343.out) | exact HB.out)) hb)
                        have n3_ := Aside0.mk (hbox)
                        have n4_ := Aside0.mk ((by rw [hg]; exact (below_size (by repeat (first | (with_reducible first | exact HB.out | apply below_alloc | apply pw_below_drewN | apply below_drew1 | refine below_set ?_ GE335.out | refine below_set ?_ GE343.out) | exact HB.out))) : w.heap.size ≤ gb361))
                        have n5_ := Aside0.mk ((by rw [hg]; exact (below_size (by repeat (first | (with_reducible first | exact HB.out | apply below_alloc | apply pw_below_drewN | apply below_drew1 | refine below_set ?_ GE335.out | refine below_set ?_ GE343.out) | exact HB.out))) : w.heap.size ≤ gb361))
                        have n6_ := Aside0.mk ((by rw [hg]; exact Nat.ne_of_lt (blk_lt (g := gb335) (o := .cells #[.int .i64 t332, .int .i64 t333, .int .i64 t334] 25 (0, 0)) (by (with_reducible repeat (first | refine blk_drewN ?_ _ | refine blk_drew ?_ | refine blk_alloc ?_ _)); exact BK335.out)) : gb335 ≠ gb361))
                        have n7_ := Aside0.mk ((by rw [hg]; exact Nat.ne_of_gt (blk_lt (g := gb335) (o := .cells #[.int .i64 t332, .int .i64 t333, .int .i64 t334] 25 (0, 0)) (by (with_reducible repeat (first | refine blk_drewN ?_ _ | refine blk_drew ?_ | refine blk_alloc ?_ _)); exact BK335.out)) : gb361 ≠ gb335))
                        have n8_ := Aside0.mk ((by rw [hg]; exact Nat.ne_of_lt (blk_lt (g := gb343) (o := .cells #[.int .i64 t346, .int .i64 t347, .int .i64 t348, .int .i64 t349] 23 (0, 0)) (by (with_reducible repeat (first | refine blk_drewN ?_ _ | refine blk_drew ?_ | refine blk_alloc ?_ _)); exact BK343.out)) : gb343 ≠ gb361))
                        have n9_ := Aside0.mk ((by rw [hg]; exact Nat.ne_of_gt (blk_lt (g := gb343) (o := .cells #[.int .i64 t346, .int .i64 t347, .int .i64 t348, .int .i64 t349] 23 (0, 0)) (by (with_reducible repeat (first | refine blk_drewN ?_ _ | refine blk_drew ?_ | refine blk_alloc ?_ _)); exact BK343.out)) : gb361 ≠ gb343))
                        clear BK335
                        clear BK343
                        clear HB
                        have BK335 := n0_
                        have BK343 := n1_
                        have HB := n2_
                        have BK361 := n3_
                        have GW361 := n4_
                        have GE361 := n5_
                        have NB335_361 := n6_
                        have NB361_335 := n7_
                        have NB343_361 := n8_
                        have NB361_343 := n9_
                        clear n0_ n1_ n2_ n3_ n4_ n5_ n6_ n7_ n8_ n9_
                        clear hb hbox hg
                        refine hK.out _ _ ⟨(blk_cell BK343.out 0).trans rfl, (blk_cell BK343.out 1).trans rfl, (blk_cell BK343.out 2).trans rfl, (blk_cell BK343.out 3).trans rfl, (blk_cell BK335.out 0).trans rfl, (blk_cell BK335.out 1).trans rfl, (blk_cell BK335.out 2).trans rfl, ((HB.out.cell (World.block_lt_of_cell? w _ hw354_0)).trans hw354_0)⟩ (fun hHeld => ?_)
                        clear hK K
                        refine norm_ (a' := ?_) ?_ ?_
                        rotate_left
                        ·show Act.put _ (some 18) _ = _
                         simp only [Act.put, List.setIfInBounds_toArray, List.set_cons_zero, List.set_cons_succ, i64_w, i32_w]
                         rfl
                        refine one_ (i := 12) (N := some 108) #[true, true, true, true, true, true, true, true, true, true, true, true, true, false, false, false, false, true, false, false, false] rfl rfl (one_of HT_.out (by kernel_rfl)) (by decide) (fun K hK => ?_)
                        refine goes_ Try.func9 (by kernel_rfl) rfl #[.agg #[.int .i64 t346, .int .i64 t347, .int .i64 t348, .int .i64 t349], .agg #[.int .i64 t332, .int .i64 t333, .int .i64 t334], .bool (rdOf false l1 x13_2)] (by rfl) rfl rfl (by (try simp only [List.map_toArray, List.map_cons, List.map_nil]); first | done | rfl | (simp only [List.length_drop, List.length_take]; rfl)) ?_
                        with_reducible refine (door_Step.calls kj35 t346 t347 t348 t349 t332 t333 t334 (rdOf false l1 x13_2) t355 t356 t357 t358 t359 t360 _ A46.out).mono ?_
                        rintro e w55 ⟨rfl, hb⟩
                        refine ⟨_, rfl, ?_⟩
                        have n0_ := Aside0.mk (blk_below (g := gb335) (o := .cells #[.int .i64 t332, .int .i64 t333, .int .i64 t334] 25 (0, 0)) (by (with_reducible repeat (first | refine blk_drewN ?_ _ | refine blk_drew ?_ | refine blk_alloc ?_ _)); exact BK335.out) hb)
                        have n1_ := Aside0.mk (blk_below (g := gb343) (o := .cells #[.int .i64 t346, .int .i64 t347, .int .i64 t348, .int .i64 t349] 23 (0, 0)) (by (with_reducible repeat (first | refine blk_drewN ?_ _ | refine blk_drew ?_ | refine blk_alloc ?_ _)); exact BK343.out) hb)
                        have n2_ := Aside0.mk (blk_below (g := gb361) (o := .cells #[.int .i64 0, .int .i64 0, .int .i64 0, .int .i64 0] 23 (0, 0)) (by (with_reducible repeat (first | refine blk_drewN ?_ _ | refine blk_drew ?_ | refine blk_alloc ?_ _)); exact BK361.out) hb)
                        have n3_ := Aside0.mk (below_step (by repeat (first | (with_reducible first | exact HB.out | apply below_alloc | apply pw_below_drewN | apply below_drew1 | refine below_set ?_ GE335.out | refine below_set ?_ GE343.out | refine below_set ?_ GE361.out) | exact HB.out)) hb)
                        clear BK335
                        clear BK343
                        clear BK361
                        clear HB
                        have BK335 := n0_
                        have BK343 := n1_
                        have BK361 := n2_
                        have HB := n3_
                        clear n0_ n1_ n2_ n3_
                        (try clear hb)
                        (try clear hb2)
                        (try clear hk)
                        (try clear hi)
                        refine hK.out _ _ ⟨(blk_cell BK343.out 0).trans rfl, (blk_cell BK343.out 1).trans rfl, (blk_cell BK343.out 2).trans rfl, (blk_cell BK343.out 3).trans rfl, (blk_cell BK335.out 0).trans rfl, (blk_cell BK335.out 1).trans rfl, (blk_cell BK335.out 2).trans rfl, ((HB.out.cell (World.block_lt_of_cell? w _ hw354_0)).trans hw354_0)⟩ (fun hHeld => ?_)
                        clear hK K
                        refine norm_ (a' := ?_) ?_ ?_
                        rotate_left
                        ·show Act.put _ (some 108) _ = _
                         simp only [Act.put, List.setIfInBounds_toArray, List.set_cons_zero, List.set_cons_succ, i64_w, i32_w]
                         rfl
                        refine pure_ (i := 13) (N := some 95) (v := ?_) (a' := ?_) #[true, true, true, true, true, true, true, true, true, true, true, true, true, true, false, false, false, true, false, false, false] rfl rfl (any_of HT_.out (by kernel_rfl)) (fun _ _ _ h => h) (Or.inl ⟨by rfl, ?_⟩) ?_ ?_
                        rotate_left
                        ·intro w'
                         go_simp
                         with_reducible rfl
                        rotate_left
                        ·simp only [Act.put, List.setIfInBounds_toArray, List.set_cons_zero, List.set_cons_succ, i64_w, i32_w]
                         rfl
                        refine pure_ (i := 14) (N := some 109) (v := ?_) (a' := ?_) #[true, true, true, true, true, true, true, true, true, true, true, true, true, true, true, false, false, true, false, false, false] rfl rfl (any_of HT_.out (by kernel_rfl)) (fun _ _ _ h => h) (Or.inl ⟨by rfl, ?_⟩) ?_ ?_
                        rotate_left
                        ·intro w'
                         go_simp
                         with_reducible rfl
                        rotate_left
                        ·simp only [Act.put, List.setIfInBounds_toArray, List.set_cons_zero, List.set_cons_succ, i64_w, i32_w]
                         rfl
                        refine pure_ (i := 15) (N := some 110) (v := ?_) (a' := ?_) #[true, true, true, true, true, true, true, true, true, true, true, true, true, true, true, true, false, true, false, false, false] rfl rfl (any_of HT_.out (by kernel_rfl)) (fun _ _ _ h => h) (Or.inl ⟨by rfl, ?_⟩) ?_ ?_
                        rotate_left
                        ·intro w'
                         go_simp
                         with_reducible rfl
                        rotate_left
                        ·simp only [Act.put, List.setIfInBounds_toArray, List.set_cons_zero, List.set_cons_succ, i64_w, i32_w]
                         rfl
                        refine pure_ (i := 16) (N := some 111) (v := ?_) (a' := ?_) #[true, true, true, true, true, true, true, true, true, true, true, true, true, true, true, true, true, true, false, false, false] rfl rfl (any_of HT_.out (by kernel_rfl)) (fun _ _ _ h => h) (Or.inl ⟨by rfl, ?_⟩) ?_ ?_
                        rotate_left
                        ·intro w'
                         go_simp
                         with_reducible rfl
                        rotate_left
                        ·simp only [Act.put, List.setIfInBounds_toArray, List.set_cons_zero, List.set_cons_succ, i64_w, i32_w]
                         rfl
                        exact norm_ (by simp only [putAll, Act.put, List.setIfInBounds_toArray, List.set_cons_zero, List.set_cons_succ]) (hCont (gb361) _ ⟨hHeld, (by (with_reducible repeat (first | refine blk_drewN ?_ _ | refine blk_drew ?_ | refine blk_alloc ?_ _)); exact BK335.out), (by (with_reducible repeat (first | refine blk_drewN ?_ _ | refine blk_drew ?_ | refine blk_alloc ?_ _)); exact BK343.out), (by (with_reducible repeat (first | refine blk_drewN ?_ _ | refine blk_drew ?_ | refine blk_alloc ?_ _)); exact BK361.out), GW361.out, GE361.out, NB335_361.out, NB361_335.out, NB343_361.out, NB361_343.out, (by repeat (first | (with_reducible first | exact HB.out | apply below_alloc | apply pw_below_drewN | apply below_drew1 | refine below_set ?_ GE335.out | refine below_set ?_ GE343.out | refine below_set ?_ GE361.out) | exact HB.out))⟩)
                      rintro gb361 w56 ⟨hS_, h0_, h1_, h2_, h3_, h4_, h5_, h6_, h7_, h8_, h9_⟩
                      have n0_ : Aside0 (w56.heap[gb335]? = some (.cells #[.int .i64 t332, .int .i64 t333, .int .i64 t334] 25 (0, 0))) := ⟨h0_⟩
                      have n1_ : Aside0 (w56.heap[gb343]? = some (.cells #[.int .i64 t346, .int .i64 t347, .int .i64 t348, .int .i64 t349] 23 (0, 0))) := ⟨h1_⟩
                      have n2_ : Aside0 (w56.heap[gb361]? = some (.cells #[.int .i64 0, .int .i64 0, .int .i64 0, .int .i64 0] 23 (0, 0))) := ⟨h2_⟩
                      have n3_ : Aside0 (w.heap.size ≤ gb361) := ⟨h3_⟩
                      have n4_ : Aside0 (w.heap.size ≤ gb361) := ⟨h4_⟩
                      have n5_ : Aside0 (gb335 ≠ gb361) := ⟨h5_⟩
                      have n6_ : Aside0 (gb361 ≠ gb335) := ⟨h6_⟩
                      have n7_ : Aside0 (gb343 ≠ gb361) := ⟨h7_⟩
                      have n8_ : Aside0 (gb361 ≠ gb343) := ⟨h8_⟩
                      have n9_ : Aside0 (Below w.heap.size w w56) := ⟨h9_⟩
                      clear BK335
                      clear BK343
                      clear HB
                      clear h0_ h1_ h2_ h3_ h4_ h5_ h6_ h7_ h8_ h9_
                      have BK335 := n0_
                      have BK343 := n1_
                      have BK361 := n2_
                      have GW361 := n3_
                      have GE361 := n4_
                      have NB335_361 := n5_
                      have NB361_335 := n6_
                      have NB343_361 := n7_
                      have NB361_343 := n8_
                      have HB := n9_
                      clear n0_ n1_ n2_ n3_ n4_ n5_ n6_ n7_ n8_ n9_
                      have hHeld : w56.cell? ⟨gb343, 0, none⟩ = some (.int .i64 t346) ∧ w56.cell? ⟨gb343, 1, none⟩ = some (.int .i64 t347) ∧ w56.cell? ⟨gb343, 2, none⟩ = some (.int .i64 t348) ∧ w56.cell? ⟨gb343, 3, none⟩ = some (.int .i64 t349) ∧ w56.cell? ⟨gb335, 0, none⟩ = some (.int .i64 t332) ∧ w56.cell? ⟨gb335, 1, none⟩ = some (.int .i64 t333) ∧ w56.cell? ⟨gb335, 2, none⟩ = some (.int .i64 t334) ∧ w56.cell? (ad354.add (x13_2).toNat) = some (.bool (rdOf false l1 x13_2)) := hS_
                      refine norm_ (a' := ?_) ?_ ?_
                      rotate_left
                      ·simp only [putAll, Act.put, List.setIfInBounds_toArray, List.set_cons_zero, List.set_cons_succ]
                       rfl
                      refine one_ (i := 18) (N := none) #[true, true, true, true, true, true, true, true, true, true, true, true, true, true, true, true, true, true, true, false, false] rfl rfl (one_of HT_.out (by kernel_rfl)) (by decide) (fun K hK => ?_)
                      have hs57 : w56.cell? ⟨gb361, 0, none⟩ = some (.int .i64 0) := (blk_cell BK361.out 0).trans rfl
                      have hfs57 := blk_frozen BK361.out 0
                      have hns57_0 := NB335_361.out
                      have hns57_1 := NB343_361.out
                      have hms57_0 := NB361_335.out
                      have hms57_1 := NB361_343.out
                      have hs58 : w56.cell? ⟨gb361, 1, none⟩ = some (.int .i64 0) := (blk_cell BK361.out 1).trans rfl
                      have hfs58 := blk_frozen BK361.out 1
                      have hns58_0 := NB335_361.out
                      have hns58_1 := NB343_361.out
                      have hms58_0 := NB361_335.out
                      have hms58_1 := NB361_343.out
                      have hs59 : w56.cell? ⟨gb361, 2, none⟩ = some (.int .i64 0) := (blk_cell BK361.out 2).trans rfl
                      have hfs59 := blk_frozen BK361.out 2
                      have hns59_0 := NB335_361.out
                      have hns59_1 := NB343_361.out
                      have hms59_0 := NB361_335.out
                      have hms59_1 := NB361_343.out
                      have hs60 : w56.cell? ⟨gb361, 3, none⟩ = some (.int .i64 0) := (blk_cell BK361.out 3).trans rfl
                      have hfs60 := blk_frozen BK361.out 3
                      have hns60_0 := NB335_361.out
                      have hns60_1 := NB343_361.out
                      have hms60_0 := NB361_335.out
                      have hms60_1 := NB361_343.out
                      refine skip_ (w1 := ?_) (by rfl) rfl ?_ ?_
                      rotate_left
                      ·go_simp
                       rfl
                      refine hK.out _ _ ⟨((cell_far (p := ⟨gb361, _, none⟩) NB343_361.out _).trans (((cell_far (p := ⟨gb361, _, none⟩) NB343_361.out _).trans (((cell_far (p := ⟨gb361, _, none⟩) NB343_361.out _).trans (((cell_far (p := ⟨gb361, _, none⟩) NB343_361.out _).trans (hHeld.1)))))))), ((cell_far (p := ⟨gb361, _, none⟩) NB343_361.out _).trans (((cell_far (p := ⟨gb361, _, none⟩) NB343_361.out _).trans (((cell_far (p := ⟨gb361, _, none⟩) NB343_361.out _).trans (((cell_far (p := ⟨gb361, _, none⟩) NB343_361.out _).trans (hHeld.2.1)))))))), ((cell_far (p := ⟨gb361, _, none⟩) NB343_361.out _).trans (((cell_far (p := ⟨gb361, _, none⟩) NB343_361.out _).trans (((cell_far (p := ⟨gb361, _, none⟩) NB343_361.out _).trans (((cell_far (p := ⟨gb361, _, none⟩) NB343_361.out _).trans (hHeld.2.2.1)))))))), ((cell_far (p := ⟨gb361, _, none⟩) NB343_361.out _).trans (((cell_far (p := ⟨gb361, _, none⟩) NB343_361.out _).trans (((cell_far (p := ⟨gb361, _, none⟩) NB343_361.out _).trans (((cell_far (p := ⟨gb361, _, none⟩) NB343_361.out _).trans (hHeld.2.2.2.1)))))))), ((cell_far (p := ⟨gb361, _, none⟩) NB335_361.out _).trans (((cell_far (p := ⟨gb361, _, none⟩) NB335_361.out _).trans (((cell_far (p := ⟨gb361, _, none⟩) NB335_361.out _).trans (((cell_far (p := ⟨gb361, _, none⟩) NB335_361.out _).trans (hHeld.2.2.2.2.1)))))))), ((cell_far (p := ⟨gb361, _, none⟩) NB335_361.out _).trans (((cell_far (p := ⟨gb361, _, none⟩) NB335_361.out _).trans (((cell_far (p := ⟨gb361, _, none⟩) NB335_361.out _).trans (((cell_far (p := ⟨gb361, _, none⟩) NB335_361.out _).trans (hHeld.2.2.2.2.2.1)))))))), ((cell_far (p := ⟨gb361, _, none⟩) NB335_361.out _).trans (((cell_far (p := ⟨gb361, _, none⟩) NB335_361.out _).trans (((cell_far (p := ⟨gb361, _, none⟩) NB335_361.out _).trans (((cell_far (p := ⟨gb361, _, none⟩) NB335_361.out _).trans (hHeld.2.2.2.2.2.2.1)))))))), ((cell_far (p := ⟨gb361, _, none⟩) (by first | exact Nat.ne_of_lt (Nat.lt_of_lt_of_le (by have := World.block_lt_of_cell? _ _ hw354_0; first | rwa [add_block] at this | exact this) GW361.out) | (rw [add_block]; exact Nat.ne_of_lt (Nat.lt_of_lt_of_le (by have := World.block_lt_of_cell? _ _ hw354_0; first | rwa [add_block] at this | exact this) GW361.out)) | (show (Addr.add _ _).block ≠ _; rw [add_block]; exact Nat.ne_of_lt (Nat.lt_of_lt_of_le (by have := World.block_lt_of_cell? _ _ hw354_0; first | rwa [add_block] at this | exact this) GW361.out)) | (dsimp only; exact Nat.ne_of_lt (Nat.lt_of_lt_of_le (by have := World.block_lt_of_cell? _ _ hw354_0; first | rwa [add_block] at this | exact this) GW361.out))) _).trans (((cell_far (p := ⟨gb361, _, none⟩) (by first | exact Nat.ne_of_lt (Nat.lt_of_lt_of_le (by have := World.block_lt_of_cell? _ _ hw354_0; first | rwa [add_block] at this | exact this) GW361.out) | (rw [add_block]; exact Nat.ne_of_lt (Nat.lt_of_lt_of_le (by have := World.block_lt_of_cell? _ _ hw354_0; first | rwa [add_block] at this | exact this) GW361.out)) | (show (Addr.add _ _).block ≠ _; rw [add_block]; exact Nat.ne_of_lt (Nat.lt_of_lt_of_le (by have := World.block_lt_of_cell? _ _ hw354_0; first | rwa [add_block] at this | exact this) GW361.out)) | (dsimp only; exact Nat.ne_of_lt (Nat.lt_of_lt_of_le (by have := World.block_lt_of_cell? _ _ hw354_0; first | rwa [add_block] at this | exact this) GW361.out))) _).trans (((cell_far (p := ⟨gb361, _, none⟩) (by first | exact Nat.ne_of_lt (Nat.lt_of_lt_of_le (by have := World.block_lt_of_cell? _ _ hw354_0; first | rwa [add_block] at this | exact this) GW361.out) | (rw [add_block]; exact Nat.ne_of_lt (Nat.lt_of_lt_of_le (by have := World.block_lt_of_cell? _ _ hw354_0; first | rwa [add_block] at this | exact this) GW361.out)) | (show (Addr.add _ _).block ≠ _; rw [add_block]; exact Nat.ne_of_lt (Nat.lt_of_lt_of_le (by have := World.block_lt_of_cell? _ _ hw354_0; first | rwa [add_block] at this | exact this) GW361.out)) | (dsimp only; exact Nat.ne_of_lt (Nat.lt_of_lt_of_le (by have := World.block_lt_of_cell? _ _ hw354_0; first | rwa [add_block] at this | exact this) GW361.out))) _).trans (((cell_far (p := ⟨gb361, _, none⟩) (by first | exact Nat.ne_of_lt (Nat.lt_of_lt_of_le (by have := World.block_lt_of_cell? _ _ hw354_0; first | rwa [add_block] at this | exact this) GW361.out) | (rw [add_block]; exact Nat.ne_of_lt (Nat.lt_of_lt_of_le (by have := World.block_lt_of_cell? _ _ hw354_0; first | rwa [add_block] at this | exact this) GW361.out)) | (show (Addr.add _ _).block ≠ _; rw [add_block]; exact Nat.ne_of_lt (Nat.lt_of_lt_of_le (by have := World.block_lt_of_cell? _ _ hw354_0; first | rwa [add_block] at this | exact this) GW361.out)) | (dsimp only; exact Nat.ne_of_lt (Nat.lt_of_lt_of_le (by have := World.block_lt_of_cell? _ _ hw354_0; first | rwa [add_block] at this | exact this) GW361.out))) _).trans (hHeld.2.2.2.2.2.2.2))))))))⟩ (fun hHeld => ?_)
                      clear hK K
                      refine pure_ (i := 19) (N := some 19) (v := ?_) (a' := ?_) #[true, true, true, true, true, true, true, true, true, true, true, true, true, true, true, true, true, true, true, true, false] rfl rfl (any_of HT_.out (by kernel_rfl)) (fun _ _ _ h => h) (Or.inl ⟨by rfl, ?_⟩) ?_ ?_
                      rotate_left
                      ·intro w'
                       go_simp
                       with_reducible rfl
                      rotate_left
                      ·simp only [Act.put, List.setIfInBounds_toArray, List.set_cons_zero, List.set_cons_succ, i64_w, i32_w]
                       rfl
                      refine pure_ (i := 20) (N := some 20) (v := ?_) (a' := ?_) #[true, true, true, true, true, true, true, true, true, true, true, true, true, true, true, true, true, true, true, true, true] rfl rfl (any_of HT_.out (by kernel_rfl)) (fun _ _ _ h => h) (Or.inl ⟨by rfl, ?_⟩) ?_ ?_
                      rotate_left
                      ·intro w'
                       go_simp
                       with_reducible rfl
                      rotate_left
                      ·simp only [Act.put, List.setIfInBounds_toArray, List.set_cons_zero, List.set_cons_succ, i64_w, i32_w]
                       rfl
                      refine done_ (done_of HT_.out (by kernel_rfl)) ?_
                      have hnb61 := NB361_335.out
                      have hnc61 := NB335_361.out
                      have hnb62 := NB361_343.out
                      have hnc62 := NB343_361.out
                      have hcz63_0 : w56.cell? ⟨gb361, 0, none⟩ = some (.int .i64 0) := (blk_cell BK361.out 0).trans rfl
                      have hcz63_1 : w56.cell? ⟨gb361, 1, none⟩ = some (.int .i64 0) := (blk_cell BK361.out 1).trans rfl
                      have hcz63_2 : w56.cell? ⟨gb361, 2, none⟩ = some (.int .i64 0) := (blk_cell BK361.out 2).trans rfl
                      have hcz63_3 : w56.cell? ⟨gb361, 3, none⟩ = some (.int .i64 0) := (blk_cell BK361.out 3).trans rfl
                      have hfz63_0 := blk_frozen BK361.out 0
                      have hfz63_1 := blk_frozen BK361.out 1
                      have hfz63_2 := blk_frozen BK361.out 2
                      have hfz63_3 := blk_frozen BK361.out 3
                      have hnb64 := NB335_343.out
                      have hnc64 := NB343_335.out
                      have hcz65_0 : w56.cell? ⟨gb335, 0, none⟩ = some (.int .i64 t332) := (blk_cell BK335.out 0).trans rfl
                      have hcz65_1 : w56.cell? ⟨gb335, 1, none⟩ = some (.int .i64 t333) := (blk_cell BK335.out 1).trans rfl
                      have hcz65_2 : w56.cell? ⟨gb335, 2, none⟩ = some (.int .i64 t334) := (blk_cell BK335.out 2).trans rfl
                      have hfz65_0 := blk_frozen BK335.out 0
                      have hfz65_1 := blk_frozen BK335.out 1
                      have hfz65_2 := blk_frozen BK335.out 2
                      have hcz66_0 : w56.cell? ⟨gb343, 0, none⟩ = some (.int .i64 t346) := (blk_cell BK343.out 0).trans rfl
                      have hcz66_1 : w56.cell? ⟨gb343, 1, none⟩ = some (.int .i64 t347) := (blk_cell BK343.out 1).trans rfl
                      have hcz66_2 : w56.cell? ⟨gb343, 2, none⟩ = some (.int .i64 t348) := (blk_cell BK343.out 2).trans rfl
                      have hcz66_3 : w56.cell? ⟨gb343, 3, none⟩ = some (.int .i64 t349) := (blk_cell BK343.out 3).trans rfl
                      have hfz66_0 := blk_frozen BK343.out 0
                      have hfz66_1 := blk_frozen BK343.out 1
                      have hfz66_2 := blk_frozen BK343.out 2
                      have hfz66_3 := blk_frozen BK343.out 3
                      try go_wp2
                      go_roundg kj35
                      case measure => have := HJ6.out; have := HK2.out; have := HJ24.out; have := HJ35.out; omega
                      case rel => exact ⟨(wrap64 (x13_2 + 1)), (t355), (t356), (t357), (t358), (by first | rfl | (simp; done) | (simp [*]; done)), H', ⟨by have := HJ6.out; have := HK2.out; have := HJ24.out; have := HJ35.out; omega⟩, ⟨by (with_reducible repeat (first | refine blk_drewN ?_ _ | refine blk_drew ?_ | refine blk_alloc ?_ _)); refine blk_far ?_ NB335_343.out _; (with_reducible repeat (first | refine blk_drewN ?_ _ | refine blk_drew ?_ | refine blk_alloc ?_ _)); refine blk_far ?_ NB335_343.out _; (with_reducible repeat (first | refine blk_drewN ?_ _ | refine blk_drew ?_ | refine blk_alloc ?_ _)); refine blk_far ?_ NB335_343.out _; (with_reducible repeat (first | refine blk_drewN ?_ _ | refine blk_drew ?_ | refine blk_alloc ?_ _)); refine blk_far ?_ NB335_343.out _; (with_reducible repeat (first | refine blk_drewN ?_ _ | refine blk_drew ?_ | refine blk_alloc ?_ _)); refine blk_far ?_ NB335_361.out _; (with_reducible repeat (first | refine blk_drewN ?_ _ | refine blk_drew ?_ | refine blk_alloc ?_ _)); refine blk_far ?_ NB335_361.out _; (with_reducible repeat (first | refine blk_drewN ?_ _ | refine blk_drew ?_ | refine blk_alloc ?_ _)); refine blk_far ?_ NB335_361.out _; (with_reducible repeat (first | refine blk_drewN ?_ _ | refine blk_drew ?_ | refine blk_alloc ?_ _)); refine blk_far ?_ NB335_361.out _; (with_reducible repeat (first | refine blk_drewN ?_ _ | refine blk_drew ?_ | refine blk_alloc ?_ _)); exact BK335.out⟩, ⟨by (with_reducible repeat (first | refine blk_drewN ?_ _ | refine blk_drew ?_ | refine blk_alloc ?_ _)); refine blk_put (cs := #[.int .i64 t355, .int .i64 t356, .int .i64 t357, .int .i64 t349]) ?_ 3 _ rfl; (with_reducible repeat (first | refine blk_drewN ?_ _ | refine blk_drew ?_ | refine blk_alloc ?_ _)); refine blk_put (cs := #[.int .i64 t355, .int .i64 t356, .int .i64 t348, .int .i64 t349]) ?_ 2 _ rfl; (with_reducible repeat (first | refine blk_drewN ?_ _ | refine blk_drew ?_ | refine blk_alloc ?_ _)); refine blk_put (cs := #[.int .i64 t355, .int .i64 t347, .int .i64 t348, .int .i64 t349]) ?_ 1 _ rfl; (with_reducible repeat (first | refine blk_drewN ?_ _ | refine blk_drew ?_ | refine blk_alloc ?_ _)); refine blk_put (cs := #[.int .i64 t346, .int .i64 t347, .int .i64 t348, .int .i64 t349]) ?_ 0 _ rfl; (with_reducible repeat (first | refine blk_drewN ?_ _ | refine blk_drew ?_ | refine blk_alloc ?_ _)); refine blk_far ?_ NB343_361.out _; (with_reducible repeat (first | refine blk_drewN ?_ _ | refine blk_drew ?_ | refine blk_alloc ?_ _)); refine blk_far ?_ NB343_361.out _; (with_reducible repeat (first | refine blk_drewN ?_ _ | refine blk_drew ?_ | refine blk_alloc ?_ _)); refine blk_far ?_ NB343_361.out _; (with_reducible repeat (first | refine blk_drewN ?_ _ | refine blk_drew ?_ | refine blk_alloc ?_ _)); refine blk_far ?_ NB343_361.out _; (with_reducible repeat (first | refine blk_drewN ?_ _ | refine blk_drew ?_ | refine blk_alloc ?_ _)); exact BK343.out⟩, ⟨by repeat (first | (with_reducible first | exact HB.out | apply below_alloc | apply pw_below_drewN | apply below_drew1 | refine below_set ?_ GE335.out | refine below_set ?_ GE343.out | refine below_set ?_ GE361.out) | exact HB.out)⟩⟩
                ·rw [if_neg c47] at H
                 exact absurd H (by simp)
               ·rw [if_neg c45] at H
                exact absurd H (by simp)
              ·rw [if_neg c44] at H
               have c44b0 : decide (x13_2 < (l1.length : Int)) = false := decide_eq_false c44
               clear c44
               replace H := Option.bind_eq_some_iff.mp H
               obtain ⟨⟨t362, t363, t364, t365, t366, t367⟩, A670, H⟩ := H
               replace H : (if t367 = 0 then (if t363 < 0 then (none) else (if t363 > t332 then (none) else (if t363 > (wrap64 (t347 + 1)) then (none) else (if t363 < (wrap64 (t347 - 1)) then (none) else (if t363 > (wrap64 ((wrap64 (t336 - x13_2)) - 1)) then (none) else (q_DoorCycles.l0 kj35 l1 t336 t344 (wrap64 (x13_2 + 1)) t332 t333 t334 t362 t363 t364 t365)))))) else (none)) = some r := H
               have A67 := Aside0.mk A670
               clear A670
               by_cases c68 : t367 = 0
               ·rw [if_pos c68] at H
                have c68b0 : (t367 == 0) = true := beq_iff_eq.mpr c68
                have c68b1 : (t367 != 0) = false := bne_eq_false_iff_eq.mpr c68
                clear c68
                by_cases c69 : t363 < 0
                ·rw [if_pos c69] at H
                 exact absurd H (by simp)
                ·rw [if_neg c69] at H
                 have c69b0 : decide (t363 < 0) = false := decide_eq_false c69
                 clear c69
                 by_cases c70 : t363 > t332
                 ·rw [if_pos c70] at H
                  exact absurd H (by simp)
                 ·rw [if_neg c70] at H
                  have c70b0 : decide (t332 < t363) = false := decide_eq_false c70
                  clear c70
                  by_cases c71 : t363 > (wrap64 (t347 + 1))
                  ·rw [if_pos c71] at H
                   exact absurd H (by simp)
                  ·rw [if_neg c71] at H
                   have c71b0 : decide ((wrap64 (t347 + 1)) < t363) = false := decide_eq_false c71
                   clear c71
                   by_cases c72 : t363 < (wrap64 (t347 - 1))
                   ·rw [if_pos c72] at H
                    exact absurd H (by simp)
                   ·rw [if_neg c72] at H
                    have c72b0 : decide (t363 < (wrap64 (t347 - 1))) = false := decide_eq_false c72
                    clear c72
                    by_cases c73 : t363 > (wrap64 ((wrap64 (t336 - x13_2)) - 1))
                    ·rw [if_pos c73] at H
                     exact absurd H (by simp)
                    ·rw [if_neg c73] at H
                     have c73b0 : decide ((wrap64 ((wrap64 (t336 - x13_2)) - 1)) < t363) = false := decide_eq_false c73
                     clear c73
                     have H' := Aside0.mk H
                     clear H
                     try go_wp2
                     have n0_ := Aside0.mk (blk_drew BK335.out)
                     have n1_ := Aside0.mk (blk_drew BK343.out)
                     have n2_ := Aside0.mk (below_drew1 HB.out)
                     clear BK335
                     clear BK343
                     clear HB
                     have BK335 := n0_
                     have BK343 := n1_
                     have HB := n2_
                     clear n0_ n1_ n2_
                     refine start_ (n := 21) (S := fun w' => w'.cell? ⟨gb343, 0, none⟩ = some (.int .i64 t346) ∧ w'.cell? ⟨gb343, 1, none⟩ = some (.int .i64 t347) ∧ w'.cell? ⟨gb343, 2, none⟩ = some (.int .i64 t348) ∧ w'.cell? ⟨gb343, 3, none⟩ = some (.int .i64 t349) ∧ w'.cell? ⟨gb335, 0, none⟩ = some (.int .i64 t332) ∧ w'.cell? ⟨gb335, 1, none⟩ = some (.int .i64 t333) ∧ w'.cell? ⟨gb335, 2, none⟩ = some (.int .i64 t334)) (ds := []) #[false, false, false, false, false, false, false, false, false, false, false, false, false, false, false, false, false, false, false, false, false] (by kernel_rfl) rfl rfl ⟨(blk_cell BK343.out 0).trans rfl, (blk_cell BK343.out 1).trans rfl, (blk_cell BK343.out 2).trans rfl, (blk_cell BK343.out 3).trans rfl, (blk_cell BK335.out 0).trans rfl, (blk_cell BK335.out 1).trans rfl, (blk_cell BK335.out 2).trans rfl⟩ (fun hHeld => ?_); refine with_tabW q_DoorCycles.tab18 q_DoorCycles.bits18 (fun HT_ HW_ => ?_)
                     generalize wc.drew = w74 at BK335 BK343 HB hHeld ⊢
                     refine pure_ (i := 2) (N := some 98) (v := ?_) (a' := ?_) #[false, false, true, false, false, false, false, false, false, false, false, false, false, false, false, false, false, false, false, false, false] rfl rfl (any_of HT_.out (by kernel_rfl)) (fun _ _ _ h => h) (Or.inl ⟨by rfl, ?_⟩) ?_ ?_
                     rotate_left
                     ·intro w'
                      go_simp
                      with_reducible rfl
                     rotate_left
                     ·simp only [Act.put, List.setIfInBounds_toArray, List.set_cons_zero, List.set_cons_succ, i64_w, i32_w]
                      rfl
                     refine pure_ (i := 3) (N := some 99) (v := ?_) (a' := ?_) #[false, false, true, true, false, false, false, false, false, false, false, false, false, false, false, false, false, false, false, false, false] rfl rfl (any_of HT_.out (by kernel_rfl)) (fun _ _ _ h => h) (Or.inl ⟨by rfl, ?_⟩) ?_ ?_
                     rotate_left
                     ·intro w'
                      go_simp
                      with_reducible rfl
                     rotate_left
                     ·simp only [Act.put, List.setIfInBounds_toArray, List.set_cons_zero, List.set_cons_succ, i64_w, i32_w]
                      rfl
                     refine pure_ (i := 4) (N := some 100) (v := ?_) (a' := ?_) #[false, false, true, true, true, false, false, false, false, false, false, false, false, false, false, false, false, false, false, false, false] rfl rfl (any_of HT_.out (by kernel_rfl)) (fun _ _ _ h => h) (Or.inl ⟨by rfl, ?_⟩) ?_ ?_
                     rotate_left
                     ·intro w'
                      go_simp
                      with_reducible rfl
                     rotate_left
                     ·simp only [Act.put, List.setIfInBounds_toArray, List.set_cons_zero, List.set_cons_succ, i64_w, i32_w]
                      rfl
                     refine pure_ (i := 5) (N := some 101) (v := ?_) (a' := ?_) #[false, false, true, true, true, true, false, false, false, false, false, false, false, false, false, false, false, false, false, false, false] rfl rfl (any_of HT_.out (by kernel_rfl)) (fun _ _ _ h => h) (Or.inl ⟨by rfl, ?_⟩) ?_ ?_
                     rotate_left
                     ·intro w'
                      go_simp
                      with_reducible rfl
                     rotate_left
                     ·simp only [Act.put, List.setIfInBounds_toArray, List.set_cons_zero, List.set_cons_succ, i64_w, i32_w]
                      rfl
                     refine pure_ (i := 6) (N := some 102) (v := ?_) (a' := ?_) #[false, false, true, true, true, true, true, false, false, false, false, false, false, false, false, false, false, false, false, false, false] rfl rfl (any_of HT_.out (by kernel_rfl)) (fun _ _ _ h => h) (Or.inl ⟨by rfl, ?_⟩) ?_ ?_
                     rotate_left
                     ·intro w'
                      go_simp
                      with_reducible rfl
                     rotate_left
                     ·simp only [Act.put, List.setIfInBounds_toArray, List.set_cons_zero, List.set_cons_succ, i64_w, i32_w]
                      rfl
                     refine pure_ (i := 7) (N := some 103) (v := undef) (a' := ?_) #[false, false, true, true, true, true, true, true, false, false, false, false, false, false, false, false, false, false, false, false, false] rfl rfl (any_of HT_.out (by kernel_rfl)) (fun _ _ _ h => h) (Or.inr ⟨by rfl, rfl⟩) ?_ ?_
                     rotate_left
                     ·simp only [Act.put, List.setIfInBounds_toArray, List.set_cons_zero, List.set_cons_succ, i64_w, i32_w]
                      rfl
                     refine pure_ (i := 8) (N := some 104) (v := undef) (a' := ?_) #[false, false, true, true, true, true, true, true, true, false, false, false, false, false, false, false, false, false, false, false, false] rfl rfl (any_of HT_.out (by kernel_rfl)) (fun _ _ _ h => h) (Or.inr ⟨by rfl, rfl⟩) ?_ ?_
                     rotate_left
                     ·simp only [Act.put, List.setIfInBounds_toArray, List.set_cons_zero, List.set_cons_succ, i64_w, i32_w]
                      rfl
                     refine pure_ (i := 9) (N := some 105) (v := undef) (a' := ?_) #[false, false, true, true, true, true, true, true, true, true, false, false, false, false, false, false, false, false, false, false, false] rfl rfl (any_of HT_.out (by kernel_rfl)) (fun _ _ _ h => h) (Or.inr ⟨by rfl, rfl⟩) ?_ ?_
                     rotate_left
                     ·simp only [Act.put, List.setIfInBounds_toArray, List.set_cons_zero, List.set_cons_succ, i64_w, i32_w]
                      rfl
                     refine pure_ (i := 10) (N := some 106) (v := undef) (a' := ?_) #[false, false, true, true, true, true, true, true, true, true, true, false, false, false, false, false, false, false, false, false, false] rfl rfl (any_of HT_.out (by kernel_rfl)) (fun _ _ _ h => h) (Or.inr ⟨by rfl, rfl⟩) ?_ ?_
                     rotate_left
                     ·simp only [Act.put, List.setIfInBounds_toArray, List.set_cons_zero, List.set_cons_succ, i64_w, i32_w]
                      rfl
                     refine pure_ (i := 11) (N := some 107) (v := ?_) (a' := ?_) #[false, false, true, true, true, true, true, true, true, true, true, true, false, false, false, false, false, false, false, false, false] rfl rfl (any_of HT_.out (by kernel_rfl)) (fun _ _ _ h => h) (Or.inl ⟨by rfl, ?_⟩) ?_ ?_
                     rotate_left
                     ·intro w'
                      go_simp
                      with_reducible rfl
                     rotate_left
                     ·simp only [Act.put, List.setIfInBounds_toArray, List.set_cons_zero, List.set_cons_succ, i64_w, i32_w]
                      rfl
                     refine take_ (i := 0) (N := some 96) (v := ?_) (a' := ?_) #[true, false, true, true, true, true, true, true, true, true, true, true, false, false, false, false, false, false, false, false, false] rfl rfl (take_ofW HT_.out HW_.out (by kernel_rfl)) (fun _ _ _ h => h) (Or.inl ⟨by rfl, ?_⟩) hHeld ?_ ?_
                     rotate_left
                     ·rintro w' ⟨s0, s1, s2, s3, s4, s5, s6⟩
                      go_simp
                      with_reducible rfl
                     rotate_left
                     ·simp only [Act.put, List.setIfInBounds_toArray, List.set_cons_zero, List.set_cons_succ, i64_w, i32_w]
                      rfl
                     refine take_ (i := 1) (N := some 97) (v := ?_) (a' := ?_) #[true, true, true, true, true, true, true, true, true, true, true, true, false, false, false, false, false, false, false, false, false] rfl rfl (take_ofW HT_.out HW_.out (by kernel_rfl)) (fun _ _ _ h => h) (Or.inl ⟨by rfl, ?_⟩) hHeld ?_ ?_
                     rotate_left
                     ·rintro w' ⟨s0, s1, s2, s3, s4, s5, s6⟩
                      go_simp
                      with_reducible rfl
                     rotate_left
                     ·simp only [Act.put, List.setIfInBounds_toArray, List.set_cons_zero, List.set_cons_succ, i64_w, i32_w]
                      rfl
                     refine join_ (σ := Nat) 3 #[true, true, true, true, true, true, true, true, true, true, true, true, true, true, true, true, true, true, false, false, false] (fun s_ => [(108, .tuple #[.agg #[.int .i64 t362, .int .i64 t363, .int .i64 t364, .int .i64 t365], .bool t366, .int .i64 t367]), (18, .pointer (some ⟨s_, 0, none⟩)), (95, .tuple #[.agg #[.int .i64 t362, .int .i64 t363, .int .i64 t364, .int .i64 t365], .bool t366, .int .i64 t367]), (109, .agg #[.int .i64 t362, .int .i64 t363, .int .i64 t364, .int .i64 t365]), (110, .bool t366), (111, .int .i64 t367)]) (fun s_ w' => (w'.cell? ⟨gb343, 0, none⟩ = some (.int .i64 t346) ∧ w'.cell? ⟨gb343, 1, none⟩ = some (.int .i64 t347) ∧ w'.cell? ⟨gb343, 2, none⟩ = some (.int .i64 t348) ∧ w'.cell? ⟨gb343, 3, none⟩ = some (.int .i64 t349) ∧ w'.cell? ⟨gb335, 0, none⟩ = some (.int .i64 t332) ∧ w'.cell? ⟨gb335, 1, none⟩ = some (.int .i64 t333) ∧ w'.cell? ⟨gb335, 2, none⟩ = some (.int .i64 t334)) ∧ (w'.heap[gb335]? = some (.cells #[.int .i64 t332, .int .i64 t333, .int .i64 t334] 25 (0, 0))) ∧ (w'.heap[gb343]? = some (.cells #[.int .i64 t346, .int .i64 t347, .int .i64 t348, .int .i64 t349] 23 (0, 0))) ∧ (w'.heap[s_]? = some (.cells #[.int .i64 0, .int .i64 0, .int .i64 0, .int .i64 0] 23 (0, 0))) ∧ (w.heap.size ≤ s_) ∧ (w.heap.size ≤ s_) ∧ (gb335 ≠ s_) ∧ (s_ ≠ gb335) ∧ (gb343 ≠ s_) ∧ (s_ ≠ gb343) ∧ (Below w.heap.size w w')) ?_ ?_
                     rotate_left
                     ·intro hCont
                      refine two_ (i := 12) (j := 17) (Ni := some 108) (Nj := some 18) #[true, true, true, true, true, true, true, true, true, true, true, true, true, false, false, false, false, false, false, false, false] #[true, true, true, true, true, true, true, true, true, true, true, true, false, false, false, false, false, true, false, false, false] rfl rfl rfl rfl (two_of HT_.out (by kernel_rfl)) (by decide) (by decide) (fun K hK => ?_) (fun K hK => ?_)
                      ·skip
                       refine goes_ Try.func9 (by kernel_rfl) rfl #[.agg #[.int .i64 t346, .int .i64 t347, .int .i64 t348, .int .i64 t349], .agg #[.int .i64 t332, .int .i64 t333, .int .i64 t334], .bool false] (by rfl) rfl rfl (by (try simp only [List.map_toArray, List.map_cons, List.map_nil]); first | done | rfl | (simp only [List.length_drop, List.length_take]; rfl)) ?_
                       with_reducible refine (door_Step.calls kj35 t346 t347 t348 t349 t332 t333 t334 false t362 t363 t364 t365 t366 t367 _ A67.out).mono ?_
                       rintro e w75 ⟨rfl, hb⟩
                       refine ⟨_, rfl, ?_⟩
                       have n0_ := Aside0.mk (blk_below (g := gb335) (o := .cells #[.int .i64 t332, .int .i64 t333, .int .i64 t334] 25 (0, 0)) (by (with_reducible repeat (first | refine blk_drewN ?_ _ | refine blk_drew ?_ | refine blk_alloc ?_ _)); exact BK335.out) hb)
                       have n1_ := Aside0.mk (blk_below (g := gb343) (o := .cells #[.int .i64 t346, .int .i64 t347, .int .i64 t348, .int .i64 t349] 23 (0, 0)) (by (with_reducible repeat (first | refine blk_drewN ?_ _ | refine blk_drew ?_ | refine blk_alloc ?_ _)); exact BK343.out) hb)
                       have n2_ := Aside0.mk (below_step (by repeat (first | (with_reducible first | exact HB.out | apply below_alloc | apply pw_below_drewN | apply below_drew1 | refine below_set ?_ GE335.out | refine below_set ?_ GE343.out) | exact HB.out)) hb)
                       clear BK335
                       clear BK343
                       clear HB
                       have BK335 := n0_
                       have BK343 := n1_
                       have HB := n2_
                       clear n0_ n1_ n2_
                       (try clear hb)
                       (try clear hb2)
                       (try clear hk)
                       (try clear hi)
                       refine hK.out _ _ ⟨(blk_cell BK343.out 0).trans rfl, (blk_cell BK343.out 1).trans rfl, (blk_cell BK343.out 2).trans rfl, (blk_cell BK343.out 3).trans rfl, (blk_cell BK335.out 0).trans rfl, (blk_cell BK335.out 1).trans rfl, (blk_cell BK335.out 2).trans rfl⟩ (fun hHeld => ?_)
                       clear hK K
                       refine norm_ (a' := ?_) ?_ ?_
                       rotate_left
                       ·show Act.put _ (some 108) _ = _
                        simp only [Act.put, List.setIfInBounds_toArray, List.set_cons_zero, List.set_cons_succ, i64_w, i32_w]
                        rfl
                       refine pure_ (i := 13) (N := some 95) (v := ?_) (a' := ?_) #[true, true, true, true, true, true, true, true, true, true, true, true, true, true, false, false, false, false, false, false, false] rfl rfl (any_of HT_.out (by kernel_rfl)) (fun _ _ _ h => h) (Or.inl ⟨by rfl, ?_⟩) ?_ ?_
                       rotate_left
                       ·intro w'
                        go_simp
                        with_reducible rfl
                       rotate_left
                       ·simp only [Act.put, List.setIfInBounds_toArray, List.set_cons_zero, List.set_cons_succ, i64_w, i32_w]
                        rfl
                       refine pure_ (i := 14) (N := some 109) (v := ?_) (a' := ?_) #[true, true, true, true, true, true, true, true, true, true, true, true, true, true, true, false, false, false, false, false, false] rfl rfl (any_of HT_.out (by kernel_rfl)) (fun _ _ _ h => h) (Or.inl ⟨by rfl, ?_⟩) ?_ ?_
                       rotate_left
                       ·intro w'
                        go_simp
                        with_reducible rfl
                       rotate_left
                       ·simp only [Act.put, List.setIfInBounds_toArray, List.set_cons_zero, List.set_cons_succ, i64_w, i32_w]
                        rfl
                       refine pure_ (i := 15) (N := some 110) (v := ?_) (a' := ?_) #[true, true, true, true, true, true, true, true, true, true, true, true, true, true, true, true, false, false, false, false, false] rfl rfl (any_of HT_.out (by kernel_rfl)) (fun _ _ _ h => h) (Or.inl ⟨by rfl, ?_⟩) ?_ ?_
                       rotate_left
                       ·intro w'
                        go_simp
                        with_reducible rfl
                       rotate_left
                       ·simp only [Act.put, List.setIfInBounds_toArray, List.set_cons_zero, List.set_cons_succ, i64_w, i32_w]
                        rfl
                       refine pure_ (i := 16) (N := some 111) (v := ?_) (a' := ?_) #[true, true, true, true, true, true, true, true, true, true, true, true, true, true, true, true, true, false, false, false, false] rfl rfl (any_of HT_.out (by kernel_rfl)) (fun _ _ _ h => h) (Or.inl ⟨by rfl, ?_⟩) ?_ ?_
                       rotate_left
                       ·intro w'
                        go_simp
                        with_reducible rfl
                       rotate_left
                       ·simp only [Act.put, List.setIfInBounds_toArray, List.set_cons_zero, List.set_cons_succ, i64_w, i32_w]
                        rfl
                       refine one_ (i := 17) (N := some 18) #[true, true, true, true, true, true, true, true, true, true, true, true, true, true, true, true, true, true, false, false, false] rfl rfl (one_of HT_.out (by kernel_rfl)) (by decide) (fun K hK => ?_)
                       refine box_step ?hg (N := 18) ?hd (cs := #[.int .i64 0, .int .i64 0, .int .i64 0, .int .i64 0]) (t := 23) ?hr ?_; (case hd => rfl); (case hg => rfl); (case hr => first | (go_simp; done) | (go_simp; rfl))
                       intro gb368 hg w76 hbox hb
                       have n0_ := Aside0.mk (blk_below (g := gb335) (o := .cells #[.int .i64 t332, .int .i64 t333, .int .i64 t334] 25 (0, 0)) (by (with_reducible repeat (first | refine blk_drewN ?_ _ | refine blk_drew ?_ | refine blk_alloc ?_ _)); exact BK335.out) hb)
                       have n1_ := Aside0.mk (blk_below (g := gb343) (o := .cells #[.int .i64 t346, .int .i64 t347, .int .i64 t348, .int .i64 t349] 23 (0, 0)) (by (with_reducible repeat (first | refine blk_drewN ?_ _ | refine blk_drew ?_ | refine blk_alloc ?_ _)); exact BK343.out) hb)
                       have n2_ := Aside0.mk (below_step (by repeat (first | (with_reducible first | exact HB.out | apply below_alloc | apply pw_below_drewN | apply below_drew1 | refine below_set ?_ GE335.out | refine below_set ?_ GE343.out) | exact HB.out)) hb)
                       have n3_ := Aside0.mk (hbox)
                       have n4_ := Aside0.mk ((by rw [hg]; exact (below_size (by repeat (first | (with_reducible first | exact HB.out | apply below_alloc | apply pw_below_drewN | apply below_drew1 | refine below_set ?_ GE335.out | refine below_set ?_ GE343.out) | exact HB.out))) : w.heap.size ≤ gb368))
                       have n5_ := Aside0.mk ((by rw [hg]; exact (below_size (by repeat (first | (with_reducible first | exact HB.out | apply below_alloc | apply pw_below_drewN | apply below_drew1 | refine below_set ?_ GE335.out | refine below_set ?_ GE343.out) | exact HB.out))) : w.heap.size ≤ gb368))
                       have n6_ := Aside0.mk ((by rw [hg]; exact Nat.ne_of_lt (blk_lt (g := gb335) (o := .cells #[.int .i64 t332, .int .i64 t333, .int .i64 t334] 25 (0, 0)) (by (with_reducible repeat (first | refine blk_drewN ?_ _ | refine blk_drew ?_ | refine blk_alloc ?_ _)); exact BK335.out)) : gb335 ≠ gb368))
                       have n7_ := Aside0.mk ((by rw [hg]; exact Nat.ne_of_gt (blk_lt (g := gb335) (o := .cells #[.int .i64 t332, .int .i64 t333, .int .i64 t334] 25 (0, 0)) (by (with_reducible repeat (first | refine blk_drewN ?_ _ | refine blk_drew ?_ | refine blk_alloc ?_ _)); exact BK335.out)) : gb368 ≠ gb335))
                       have n8_ := Aside0.mk ((by rw [hg]; exact Nat.ne_of_lt (blk_lt (g := gb343) (o := .cells #[.int .i64 t346, .int .i64 t347, .int .i64 t348, .int .i64 t349] 23 (0, 0)) (by (with_reducible repeat (first | refine blk_drewN ?_ _ | refine blk_drew ?_ | refine blk_alloc ?_ _)); exact BK343.out)) : gb343 ≠ gb368))
                       have n9_ := Aside0.mk ((by rw [hg]; exact Nat.ne_of_gt (blk_lt (g := gb343) (o := .cells #[.int .i64 t346, .int .i64 t347, .int .i64 t348, .int .i64 t349] 23 (0, 0)) (by (with_reducible repeat (first | refine blk_drewN ?_ _ | refine blk_drew ?_ | refine blk_alloc ?_ _)); exact BK343.out)) : gb368 ≠ gb343))
                       clear BK335
                       clear BK343
                       clear HB
                       have BK335 := n0_
                       have BK343 := n1_
                       have HB := n2_
                       have BK368 := n3_
                       have GW368 := n4_
                       have GE368 := n5_
                       have NB335_368 := n6_
                       have NB368_335 := n7_
                       have NB343_368 := n8_
                       have NB368_343 := n9_
                       clear n0_ n1_ n2_ n3_ n4_ n5_ n6_ n7_ n8_ n9_
                       clear hb hbox hg
                       refine hK.out _ _ ⟨(blk_cell BK343.out 0).trans rfl, (blk_cell BK343.out 1).trans rfl, (blk_cell BK343.out 2).trans rfl, (blk_cell BK343.out 3).trans rfl, (blk_cell BK335.out 0).trans rfl, (blk_cell BK335.out 1).trans rfl, (blk_cell BK335.out 2).trans rfl⟩ (fun hHeld => ?_)
                       clear hK K
                       refine norm_ (a' := ?_) ?_ ?_
                       rotate_left
                       ·show Act.put _ (some 18) _ = _
                        simp only [Act.put, List.setIfInBounds_toArray, List.set_cons_zero, List.set_cons_succ, i64_w, i32_w]
                        rfl
                       exact norm_ (by simp only [putAll, Act.put, List.setIfInBounds_toArray, List.set_cons_zero, List.set_cons_succ]) (hCont (gb368) _ ⟨hHeld, (by (with_reducible repeat (first | refine blk_drewN ?_ _ | refine blk_drew ?_ | refine blk_alloc ?_ _)); exact BK335.out), (by (with_reducible repeat (first | refine blk_drewN ?_ _ | refine blk_drew ?_ | refine blk_alloc ?_ _)); exact BK343.out), (by (with_reducible repeat (first | refine blk_drewN ?_ _ | refine blk_drew ?_ | refine blk_alloc ?_ _)); exact BK368.out), GW368.out, GE368.out, NB335_368.out, NB368_335.out, NB343_368.out, NB368_343.out, (by repeat (first | (with_reducible first | exact HB.out | apply below_alloc | apply pw_below_drewN | apply below_drew1 | refine below_set ?_ GE335.out | refine below_set ?_ GE343.out | refine below_set ?_ GE368.out) | exact HB.out))⟩)
                      ·skip
                       refine box_step ?hg (N := 18) ?hd (cs := #[.int .i64 0, .int .i64 0, .int .i64 0, .int .i64 0]) (t := 23) ?hr ?_; (case hd => rfl); (case hg => rfl); (case hr => first | (go_simp; done) | (go_simp; rfl))
                       intro gb368 hg w75 hbox hb
                       have n0_ := Aside0.mk (blk_below (g := gb335) (o := .cells #[.int .i64 t332, .int .i64 t333, .int .i64 t334] 25 (0, 0)) (by (with_reducible repeat (first | refine blk_drewN ?_ _ | refine blk_drew ?_ | refine blk_alloc ?_ _)); exact BK335.out) hb)
                       have n1_ := Aside0.mk (blk_below (g := gb343) (o := .cells #[.int .i64 t346, .int .i64 t347, .int .i64 t348, .int .i64 t349] 23 (0, 0)) (by (with_reducible repeat (first | refine blk_drewN ?_ _ | refine blk_drew ?_ | refine blk_alloc ?_ _)); exact BK343.out) hb)
                       have n2_ := Aside0.mk (below_step (by repeat (first | (with_reducible first | exact HB.out | apply below_alloc | apply pw_below_drewN | apply below_drew1 | refine below_set ?_ GE335.out | refine below_set ?_ GE343.out) | exact HB.out)) hb)
                       have n3_ := Aside0.mk (hbox)
                       have n4_ := Aside0.mk ((by rw [hg]; exact (below_size (by repeat (first | (with_reducible first | exact HB.out | apply below_alloc | apply pw_below_drewN | apply below_drew1 | refine below_set ?_ GE335.out | refine below_set ?_ GE343.out) | exact HB.out))) : w.heap.size ≤ gb368))
                       have n5_ := Aside0.mk ((by rw [hg]; exact (below_size (by repeat (first | (with_reducible first | exact HB.out | apply below_alloc | apply pw_below_drewN | apply below_drew1 | refine below_set ?_ GE335.out | refine below_set ?_ GE343.out) | exact HB.out))) : w.heap.size ≤ gb368))
                       have n6_ := Aside0.mk ((by rw [hg]; exact Nat.ne_of_lt (blk_lt (g := gb335) (o := .cells #[.int .i64 t332, .int .i64 t333, .int .i64 t334] 25 (0, 0)) (by (with_reducible repeat (first | refine blk_drewN ?_ _ | refine blk_drew ?_ | refine blk_alloc ?_ _)); exact BK335.out)) : gb335 ≠ gb368))
                       have n7_ := Aside0.mk ((by rw [hg]; exact Nat.ne_of_gt (blk_lt (g := gb335) (o := .cells #[.int .i64 t332, .int .i64 t333, .int .i64 t334] 25 (0, 0)) (by (with_reducible repeat (first | refine blk_drewN ?_ _ | refine blk_drew ?_ | refine blk_alloc ?_ _)); exact BK335.out)) : gb368 ≠ gb335))
                       have n8_ := Aside0.mk ((by rw [hg]; exact Nat.ne_of_lt (blk_lt (g := gb343) (o := .cells #[.int .i64 t346, .int .i64 t347, .int .i64 t348, .int .i64 t349] 23 (0, 0)) (by (with_reducible repeat (first | refine blk_drewN ?_ _ | refine blk_drew ?_ | refine blk_alloc ?_ _)); exact BK343.out)) : gb343 ≠ gb368))
                       have n9_ := Aside0.mk ((by rw [hg]; exact Nat.ne_of_gt (blk_lt (g := gb343) (o := .cells #[.int .i64 t346, .int .i64 t347, .int .i64 t348, .int .i64 t349] 23 (0, 0)) (by (with_reducible repeat (first | refine blk_drewN ?_ _ | refine blk_drew ?_ | refine blk_alloc ?_ _)); exact BK343.out)) : gb368 ≠ gb343))
                       clear BK335
                       clear BK343
                       clear HB
                       have BK335 := n0_
                       have BK343 := n1_
                       have HB := n2_
                       have BK368 := n3_
                       have GW368 := n4_
                       have GE368 := n5_
                       have NB335_368 := n6_
                       have NB368_335 := n7_
                       have NB343_368 := n8_
                       have NB368_343 := n9_
                       clear n0_ n1_ n2_ n3_ n4_ n5_ n6_ n7_ n8_ n9_
                       clear hb hbox hg
                       refine hK.out _ _ ⟨(blk_cell BK343.out 0).trans rfl, (blk_cell BK343.out 1).trans rfl, (blk_cell BK343.out 2).trans rfl, (blk_cell BK343.out 3).trans rfl, (blk_cell BK335.out 0).trans rfl, (blk_cell BK335.out 1).trans rfl, (blk_cell BK335.out 2).trans rfl⟩ (fun hHeld => ?_)
                       clear hK K
                       refine norm_ (a' := ?_) ?_ ?_
                       rotate_left
                       ·show Act.put _ (some 18) _ = _
                        simp only [Act.put, List.setIfInBounds_toArray, List.set_cons_zero, List.set_cons_succ, i64_w, i32_w]
                        rfl
                       refine one_ (i := 12) (N := some 108) #[true, true, true, true, true, true, true, true, true, true, true, true, true, false, false, false, false, true, false, false, false] rfl rfl (one_of HT_.out (by kernel_rfl)) (by decide) (fun K hK => ?_)
                       refine goes_ Try.func9 (by kernel_rfl) rfl #[.agg #[.int .i64 t346, .int .i64 t347, .int .i64 t348, .int .i64 t349], .agg #[.int .i64 t332, .int .i64 t333, .int .i64 t334], .bool false] (by rfl) rfl rfl (by (try simp only [List.map_toArray, List.map_cons, List.map_nil]); first | done | rfl | (simp only [List.length_drop, List.length_take]; rfl)) ?_
                       with_reducible refine (door_Step.calls kj35 t346 t347 t348 t349 t332 t333 t334 false t362 t363 t364 t365 t366 t367 _ A67.out).mono ?_
                       rintro e w76 ⟨rfl, hb⟩
                       refine ⟨_, rfl, ?_⟩
                       have n0_ := Aside0.mk (blk_below (g := gb335) (o := .cells #[.int .i64 t332, .int .i64 t333, .int .i64 t334] 25 (0, 0)) (by (with_reducible repeat (first | refine blk_drewN ?_ _ | refine blk_drew ?_ | refine blk_alloc ?_ _)); exact BK335.out) hb)
                       have n1_ := Aside0.mk (blk_below (g := gb343) (o := .cells #[.int .i64 t346, .int .i64 t347, .int .i64 t348, .int .i64 t349] 23 (0, 0)) (by (with_reducible repeat (first | refine blk_drewN ?_ _ | refine blk_drew ?_ | refine blk_alloc ?_ _)); exact BK343.out) hb)
                       have n2_ := Aside0.mk (blk_below (g := gb368) (o := .cells #[.int .i64 0, .int .i64 0, .int .i64 0, .int .i64 0] 23 (0, 0)) (by (with_reducible repeat (first | refine blk_drewN ?_ _ | refine blk_drew ?_ | refine blk_alloc ?_ _)); exact BK368.out) hb)
                       have n3_ := Aside0.mk (below_step (by repeat (first | (with_reducible first | exact HB.out | apply below_alloc | apply pw_below_drewN | apply below_drew1 | refine below_set ?_ GE335.out | refine below_set ?_ GE343.out | refine below_set ?_ GE368.out) | exact HB.out)) hb)
                       clear BK335
                       clear BK343
                       clear BK368
                       clear HB
                       have BK335 := n0_
                       have BK343 := n1_
                       have BK368 := n2_
                       have HB := n3_
                       clear n0_ n1_ n2_ n3_
                       (try clear hb)
                       (try clear hb2)
                       (try clear hk)
                       (try clear hi)
                       refine hK.out _ _ ⟨(blk_cell BK343.out 0).trans rfl, (blk_cell BK343.out 1).trans rfl, (blk_cell BK343.out 2).trans rfl, (blk_cell BK343.out 3).trans rfl, (blk_cell BK335.out 0).trans rfl, (blk_cell BK335.out 1).trans rfl, (blk_cell BK335.out 2).trans rfl⟩ (fun hHeld => ?_)
                       clear hK K
                       refine norm_ (a' := ?_) ?_ ?_
                       rotate_left
                       ·show Act.put _ (some 108) _ = _
                        simp only [Act.put, List.setIfInBounds_toArray, List.set_cons_zero, List.set_cons_succ, i64_w, i32_w]
                        rfl
                       refine pure_ (i := 13) (N := some 95) (v := ?_) (a' := ?_) #[true, true, true, true, true, true, true, true, true, true, true, true, true, true, false, false, false, true, false, false, false] rfl rfl (any_of HT_.out (by kernel_rfl)) (fun _ _ _ h => h) (Or.inl ⟨by rfl, ?_⟩) ?_ ?_
                       rotate_left
                       ·intro w'
                        go_simp
                        with_reducible rfl
                       rotate_left
                       ·simp only [Act.put, List.setIfInBounds_toArray, List.set_cons_zero, List.set_cons_succ, i64_w, i32_w]
                        rfl
                       refine pure_ (i := 14) (N := some 109) (v := ?_) (a' := ?_) #[true, true, true, true, true, true, true, true, true, true, true, true, true, true, true, false, false, true, false, false, false] rfl rfl (any_of HT_.out (by kernel_rfl)) (fun _ _ _ h => h) (Or.inl ⟨by rfl, ?_⟩) ?_ ?_
                       rotate_left
                       ·intro w'
                        go_simp
                        with_reducible rfl
                       rotate_left
                       ·simp only [Act.put, List.setIfInBounds_toArray, List.set_cons_zero, List.set_cons_succ, i64_w, i32_w]
                        rfl
                       refine pure_ (i := 15) (N := some 110) (v := ?_) (a' := ?_) #[true, true, true, true, true, true, true, true, true, true, true, true, true, true, true, true, false, true, false, false, false] rfl rfl (any_of HT_.out (by kernel_rfl)) (fun _ _ _ h => h) (Or.inl ⟨by rfl, ?_⟩) ?_ ?_
                       rotate_left
                       ·intro w'
                        go_simp
                        with_reducible rfl
                       rotate_left
                       ·simp only [Act.put, List.setIfInBounds_toArray, List.set_cons_zero, List.set_cons_succ, i64_w, i32_w]
                        rfl
                       refine pure_ (i := 16) (N := some 111) (v := ?_) (a' := ?_) #[true, true, true, true, true, true, true, true, true, true, true, true, true, true, true, true, true, true, false, false, false] rfl rfl (any_of HT_.out (by kernel_rfl)) (fun _ _ _ h => h) (Or.inl ⟨by rfl, ?_⟩) ?_ ?_
                       rotate_left
                       ·intro w'
                        go_simp
                        with_reducible rfl
                       rotate_left
                       ·simp only [Act.put, List.setIfInBounds_toArray, List.set_cons_zero, List.set_cons_succ, i64_w, i32_w]
                        rfl
                       exact norm_ (by simp only [putAll, Act.put, List.setIfInBounds_toArray, List.set_cons_zero, List.set_cons_succ]) (hCont (gb368) _ ⟨hHeld, (by (with_reducible repeat (first | refine blk_drewN ?_ _ | refine blk_drew ?_ | refine blk_alloc ?_ _)); exact BK335.out), (by (with_reducible repeat (first | refine blk_drewN ?_ _ | refine blk_drew ?_ | refine blk_alloc ?_ _)); exact BK343.out), (by (with_reducible repeat (first | refine blk_drewN ?_ _ | refine blk_drew ?_ | refine blk_alloc ?_ _)); exact BK368.out), GW368.out, GE368.out, NB335_368.out, NB368_335.out, NB343_368.out, NB368_343.out, (by repeat (first | (with_reducible first | exact HB.out | apply below_alloc | apply pw_below_drewN | apply below_drew1 | refine below_set ?_ GE335.out | refine below_set ?_ GE343.out | refine below_set ?_ GE368.out) | exact HB.out))⟩)
                     rintro gb368 w77 ⟨hS_, h0_, h1_, h2_, h3_, h4_, h5_, h6_, h7_, h8_, h9_⟩
                     have n0_ : Aside0 (w77.heap[gb335]? = some (.cells #[.int .i64 t332, .int .i64 t333, .int .i64 t334] 25 (0, 0))) := ⟨h0_⟩
                     have n1_ : Aside0 (w77.heap[gb343]? = some (.cells #[.int .i64 t346, .int .i64 t347, .int .i64 t348, .int .i64 t349] 23 (0, 0))) := ⟨h1_⟩
                     have n2_ : Aside0 (w77.heap[gb368]? = some (.cells #[.int .i64 0, .int .i64 0, .int .i64 0, .int .i64 0] 23 (0, 0))) := ⟨h2_⟩
                     have n3_ : Aside0 (w.heap.size ≤ gb368) := ⟨h3_⟩
                     have n4_ : Aside0 (w.heap.size ≤ gb368) := ⟨h4_⟩
                     have n5_ : Aside0 (gb335 ≠ gb368) := ⟨h5_⟩
                     have n6_ : Aside0 (gb368 ≠ gb335) := ⟨h6_⟩
                     have n7_ : Aside0 (gb343 ≠ gb368) := ⟨h7_⟩
                     have n8_ : Aside0 (gb368 ≠ gb343) := ⟨h8_⟩
                     have n9_ : Aside0 (Below w.heap.size w w77) := ⟨h9_⟩
                     clear BK335
                     clear BK343
                     clear HB
                     clear h0_ h1_ h2_ h3_ h4_ h5_ h6_ h7_ h8_ h9_
                     have BK335 := n0_
                     have BK343 := n1_
                     have BK368 := n2_
                     have GW368 := n3_
                     have GE368 := n4_
                     have NB335_368 := n5_
                     have NB368_335 := n6_
                     have NB343_368 := n7_
                     have NB368_343 := n8_
                     have HB := n9_
                     clear n0_ n1_ n2_ n3_ n4_ n5_ n6_ n7_ n8_ n9_
                     have hHeld : w77.cell? ⟨gb343, 0, none⟩ = some (.int .i64 t346) ∧ w77.cell? ⟨gb343, 1, none⟩ = some (.int .i64 t347) ∧ w77.cell? ⟨gb343, 2, none⟩ = some (.int .i64 t348) ∧ w77.cell? ⟨gb343, 3, none⟩ = some (.int .i64 t349) ∧ w77.cell? ⟨gb335, 0, none⟩ = some (.int .i64 t332) ∧ w77.cell? ⟨gb335, 1, none⟩ = some (.int .i64 t333) ∧ w77.cell? ⟨gb335, 2, none⟩ = some (.int .i64 t334) := hS_
                     refine norm_ (a' := ?_) ?_ ?_
                     rotate_left
                     ·simp only [putAll, Act.put, List.setIfInBounds_toArray, List.set_cons_zero, List.set_cons_succ]
                      rfl
                     refine one_ (i := 18) (N := none) #[true, true, true, true, true, true, true, true, true, true, true, true, true, true, true, true, true, true, true, false, false] rfl rfl (one_of HT_.out (by kernel_rfl)) (by decide) (fun K hK => ?_)
                     have hs78 : w77.cell? ⟨gb368, 0, none⟩ = some (.int .i64 0) := (blk_cell BK368.out 0).trans rfl
                     have hfs78 := blk_frozen BK368.out 0
                     have hns78_0 := NB335_368.out
                     have hns78_1 := NB343_368.out
                     have hms78_0 := NB368_335.out
                     have hms78_1 := NB368_343.out
                     have hs79 : w77.cell? ⟨gb368, 1, none⟩ = some (.int .i64 0) := (blk_cell BK368.out 1).trans rfl
                     have hfs79 := blk_frozen BK368.out 1
                     have hns79_0 := NB335_368.out
                     have hns79_1 := NB343_368.out
                     have hms79_0 := NB368_335.out
                     have hms79_1 := NB368_343.out
                     have hs80 : w77.cell? ⟨gb368, 2, none⟩ = some (.int .i64 0) := (blk_cell BK368.out 2).trans rfl
                     have hfs80 := blk_frozen BK368.out 2
                     have hns80_0 := NB335_368.out
                     have hns80_1 := NB343_368.out
                     have hms80_0 := NB368_335.out
                     have hms80_1 := NB368_343.out
                     have hs81 : w77.cell? ⟨gb368, 3, none⟩ = some (.int .i64 0) := (blk_cell BK368.out 3).trans rfl
                     have hfs81 := blk_frozen BK368.out 3
                     have hns81_0 := NB335_368.out
                     have hns81_1 := NB343_368.out
                     have hms81_0 := NB368_335.out
                     have hms81_1 := NB368_343.out
                     refine skip_ (w1 := ?_) (by rfl) rfl ?_ ?_
                     rotate_left
                     ·go_simp
                      rfl
                     refine hK.out _ _ ⟨((cell_far (p := ⟨gb368, _, none⟩) NB343_368.out _).trans (((cell_far (p := ⟨gb368, _, none⟩) NB343_368.out _).trans (((cell_far (p := ⟨gb368, _, none⟩) NB343_368.out _).trans (((cell_far (p := ⟨gb368, _, none⟩) NB343_368.out _).trans (hHeld.1)))))))), ((cell_far (p := ⟨gb368, _, none⟩) NB343_368.out _).trans (((cell_far (p := ⟨gb368, _, none⟩) NB343_368.out _).trans (((cell_far (p := ⟨gb368, _, none⟩) NB343_368.out _).trans (((cell_far (p := ⟨gb368, _, none⟩) NB343_368.out _).trans (hHeld.2.1)))))))), ((cell_far (p := ⟨gb368, _, none⟩) NB343_368.out _).trans (((cell_far (p := ⟨gb368, _, none⟩) NB343_368.out _).trans (((cell_far (p := ⟨gb368, _, none⟩) NB343_368.out _).trans (((cell_far (p := ⟨gb368, _, none⟩) NB343_368.out _).trans (hHeld.2.2.1)))))))), ((cell_far (p := ⟨gb368, _, none⟩) NB343_368.out _).trans (((cell_far (p := ⟨gb368, _, none⟩) NB343_368.out _).trans (((cell_far (p := ⟨gb368, _, none⟩) NB343_368.out _).trans (((cell_far (p := ⟨gb368, _, none⟩) NB343_368.out _).trans (hHeld.2.2.2.1)))))))), ((cell_far (p := ⟨gb368, _, none⟩) NB335_368.out _).trans (((cell_far (p := ⟨gb368, _, none⟩) NB335_368.out _).trans (((cell_far (p := ⟨gb368, _, none⟩) NB335_368.out _).trans (((cell_far (p := ⟨gb368, _, none⟩) NB335_368.out _).trans (hHeld.2.2.2.2.1)))))))), ((cell_far (p := ⟨gb368, _, none⟩) NB335_368.out _).trans (((cell_far (p := ⟨gb368, _, none⟩) NB335_368.out _).trans (((cell_far (p := ⟨gb368, _, none⟩) NB335_368.out _).trans (((cell_far (p := ⟨gb368, _, none⟩) NB335_368.out _).trans (hHeld.2.2.2.2.2.1)))))))), ((cell_far (p := ⟨gb368, _, none⟩) NB335_368.out _).trans (((cell_far (p := ⟨gb368, _, none⟩) NB335_368.out _).trans (((cell_far (p := ⟨gb368, _, none⟩) NB335_368.out _).trans (((cell_far (p := ⟨gb368, _, none⟩) NB335_368.out _).trans (hHeld.2.2.2.2.2.2))))))))⟩ (fun hHeld => ?_)
                     clear hK K
                     refine pure_ (i := 19) (N := some 19) (v := ?_) (a' := ?_) #[true, true, true, true, true, true, true, true, true, true, true, true, true, true, true, true, true, true, true, true, false] rfl rfl (any_of HT_.out (by kernel_rfl)) (fun _ _ _ h => h) (Or.inl ⟨by rfl, ?_⟩) ?_ ?_
                     rotate_left
                     ·intro w'
                      go_simp
                      with_reducible rfl
                     rotate_left
                     ·simp only [Act.put, List.setIfInBounds_toArray, List.set_cons_zero, List.set_cons_succ, i64_w, i32_w]
                      rfl
                     refine pure_ (i := 20) (N := some 20) (v := ?_) (a' := ?_) #[true, true, true, true, true, true, true, true, true, true, true, true, true, true, true, true, true, true, true, true, true] rfl rfl (any_of HT_.out (by kernel_rfl)) (fun _ _ _ h => h) (Or.inl ⟨by rfl, ?_⟩) ?_ ?_
                     rotate_left
                     ·intro w'
                      go_simp
                      with_reducible rfl
                     rotate_left
                     ·simp only [Act.put, List.setIfInBounds_toArray, List.set_cons_zero, List.set_cons_succ, i64_w, i32_w]
                      rfl
                     refine done_ (done_of HT_.out (by kernel_rfl)) ?_
                     have hnb82 := NB368_335.out
                     have hnc82 := NB335_368.out
                     have hnb83 := NB368_343.out
                     have hnc83 := NB343_368.out
                     have hcz84_0 : w77.cell? ⟨gb368, 0, none⟩ = some (.int .i64 0) := (blk_cell BK368.out 0).trans rfl
                     have hcz84_1 : w77.cell? ⟨gb368, 1, none⟩ = some (.int .i64 0) := (blk_cell BK368.out 1).trans rfl
                     have hcz84_2 : w77.cell? ⟨gb368, 2, none⟩ = some (.int .i64 0) := (blk_cell BK368.out 2).trans rfl
                     have hcz84_3 : w77.cell? ⟨gb368, 3, none⟩ = some (.int .i64 0) := (blk_cell BK368.out 3).trans rfl
                     have hfz84_0 := blk_frozen BK368.out 0
                     have hfz84_1 := blk_frozen BK368.out 1
                     have hfz84_2 := blk_frozen BK368.out 2
                     have hfz84_3 := blk_frozen BK368.out 3
                     have hnb85 := NB335_343.out
                     have hnc85 := NB343_335.out
                     have hcz86_0 : w77.cell? ⟨gb335, 0, none⟩ = some (.int .i64 t332) := (blk_cell BK335.out 0).trans rfl
                     have hcz86_1 : w77.cell? ⟨gb335, 1, none⟩ = some (.int .i64 t333) := (blk_cell BK335.out 1).trans rfl
                     have hcz86_2 : w77.cell? ⟨gb335, 2, none⟩ = some (.int .i64 t334) := (blk_cell BK335.out 2).trans rfl
                     have hfz86_0 := blk_frozen BK335.out 0
                     have hfz86_1 := blk_frozen BK335.out 1
                     have hfz86_2 := blk_frozen BK335.out 2
                     have hcz87_0 : w77.cell? ⟨gb343, 0, none⟩ = some (.int .i64 t346) := (blk_cell BK343.out 0).trans rfl
                     have hcz87_1 : w77.cell? ⟨gb343, 1, none⟩ = some (.int .i64 t347) := (blk_cell BK343.out 1).trans rfl
                     have hcz87_2 : w77.cell? ⟨gb343, 2, none⟩ = some (.int .i64 t348) := (blk_cell BK343.out 2).trans rfl
                     have hcz87_3 : w77.cell? ⟨gb343, 3, none⟩ = some (.int .i64 t349) := (blk_cell BK343.out 3).trans rfl
                     have hfz87_0 := blk_frozen BK343.out 0
                     have hfz87_1 := blk_frozen BK343.out 1
                     have hfz87_2 := blk_frozen BK343.out 2
                     have hfz87_3 := blk_frozen BK343.out 3
                     try go_wp2
                     go_roundg kj35
                     case measure => have := HJ6.out; have := HK2.out; have := HJ24.out; have := HJ35.out; omega
                     case rel => exact ⟨(wrap64 (x13_2 + 1)), (t362), (t363), (t364), (t365), (by first | rfl | (simp; done) | (simp [*]; done)), H', ⟨by have := HJ6.out; have := HK2.out; have := HJ24.out; have := HJ35.out; omega⟩, ⟨by (with_reducible repeat (first | refine blk_drewN ?_ _ | refine blk_drew ?_ | refine blk_alloc ?_ _)); refine blk_far ?_ NB335_343.out _; (with_reducible repeat (first | refine blk_drewN ?_ _ | refine blk_drew ?_ | refine blk_alloc ?_ _)); refine blk_far ?_ NB335_343.out _; (with_reducible repeat (first | refine blk_drewN ?_ _ | refine blk_drew ?_ | refine blk_alloc ?_ _)); refine blk_far ?_ NB335_343.out _; (with_reducible repeat (first | refine blk_drewN ?_ _ | refine blk_drew ?_ | refine blk_alloc ?_ _)); refine blk_far ?_ NB335_343.out _; (with_reducible repeat (first | refine blk_drewN ?_ _ | refine blk_drew ?_ | refine blk_alloc ?_ _)); refine blk_far ?_ NB335_368.out _; (with_reducible repeat (first | refine blk_drewN ?_ _ | refine blk_drew ?_ | refine blk_alloc ?_ _)); refine blk_far ?_ NB335_368.out _; (with_reducible repeat (first | refine blk_drewN ?_ _ | refine blk_drew ?_ | refine blk_alloc ?_ _)); refine blk_far ?_ NB335_368.out _; (with_reducible repeat (first | refine blk_drewN ?_ _ | refine blk_drew ?_ | refine blk_alloc ?_ _)); refine blk_far ?_ NB335_368.out _; (with_reducible repeat (first | refine blk_drewN ?_ _ | refine blk_drew ?_ | refine blk_alloc ?_ _)); exact BK335.out⟩, ⟨by (with_reducible repeat (first | refine blk_drewN ?_ _ | refine blk_drew ?_ | refine blk_alloc ?_ _)); refine blk_put (cs := #[.int .i64 t362, .int .i64 t363, .int .i64 t364, .int .i64 t349]) ?_ 3 _ rfl; (with_reducible repeat (first | refine blk_drewN ?_ _ | refine blk_drew ?_ | refine blk_alloc ?_ _)); refine blk_put (cs := #[.int .i64 t362, .int .i64 t363, .int .i64 t348, .int .i64 t349]) ?_ 2 _ rfl; (with_reducible repeat (first | refine blk_drewN ?_ _ | refine blk_drew ?_ | refine blk_alloc ?_ _)); refine blk_put (cs := #[.int .i64 t362, .int .i64 t347, .int .i64 t348, .int .i64 t349]) ?_ 1 _ rfl; (with_reducible repeat (first | refine blk_drewN ?_ _ | refine blk_drew ?_ | refine blk_alloc ?_ _)); refine blk_put (cs := #[.int .i64 t346, .int .i64 t347, .int .i64 t348, .int .i64 t349]) ?_ 0 _ rfl; (with_reducible repeat (first | refine blk_drewN ?_ _ | refine blk_drew ?_ | refine blk_alloc ?_ _)); refine blk_far ?_ NB343_368.out _; (with_reducible repeat (first | refine blk_drewN ?_ _ | refine blk_drew ?_ | refine blk_alloc ?_ _)); refine blk_far ?_ NB343_368.out _; (with_reducible repeat (first | refine blk_drewN ?_ _ | refine blk_drew ?_ | refine blk_alloc ?_ _)); refine blk_far ?_ NB343_368.out _; (with_reducible repeat (first | refine blk_drewN ?_ _ | refine blk_drew ?_ | refine blk_alloc ?_ _)); refine blk_far ?_ NB343_368.out _; (with_reducible repeat (first | refine blk_drewN ?_ _ | refine blk_drew ?_ | refine blk_alloc ?_ _)); exact BK343.out⟩, ⟨by repeat (first | (with_reducible first | exact HB.out | apply below_alloc | apply pw_below_drewN | apply below_drew1 | refine below_set ?_ GE335.out | refine below_set ?_ GE343.out | refine below_set ?_ GE368.out) | exact HB.out)⟩⟩
               ·rw [if_neg c68] at H
                exact absurd H (by simp)
       ·rw [if_neg c23] at H
        have c23b0 : (x13_2 == t344) = false := beq_eq_false_iff_ne.mpr c23
        have c23b1 : (x13_2 != t344) = true := bne_iff_ne.mpr c23
        by_cases c88 : x13_2 < (l1.length : Int)
        ·rw [if_pos c88] at H
         have c88b0 : decide (x13_2 < (l1.length : Int)) = true := decide_eq_true c88
         clear c88
         by_cases c89 : 0 ≤ x13_2
         ·rw [if_pos c89] at H
          have c89b0 : decide (0 ≤ x13_2) = true := decide_eq_true c89
          clear c89
          replace H := Option.bind_eq_some_iff.mp H
          obtain ⟨⟨t370, t371, t372, t373, t374, t375⟩, A900, H⟩ := H
          replace H : (if t375 = 0 then (if t371 < 0 then (none) else (if t371 > t332 then (none) else (if t371 > (wrap64 (x344001_2 + 1)) then (none) else (if t371 < (wrap64 (x344001_2 - 1)) then (none) else (if t371 > (wrap64 ((wrap64 (t336 - x13_2)) - 1)) then (none) else (q_DoorCycles.l0 k2 l1 t336 t344 (wrap64 (x13_2 + 1)) t332 t333 t334 t370 t371 t372 t373)))))) else (none)) = some r := H
          have A90 := Aside0.mk A900
          clear A900
          by_cases c91 : t375 = 0
          ·rw [if_pos c91] at H
           have c91b0 : (t375 == 0) = true := beq_iff_eq.mpr c91
           have c91b1 : (t375 != 0) = false := bne_eq_false_iff_eq.mpr c91
           clear c91
           by_cases c92 : t371 < 0
           ·rw [if_pos c92] at H
            exact absurd H (by simp)
           ·rw [if_neg c92] at H
            have c92b0 : decide (t371 < 0) = false := decide_eq_false c92
            clear c92
            by_cases c93 : t371 > t332
            ·rw [if_pos c93] at H
             exact absurd H (by simp)
            ·rw [if_neg c93] at H
             have c93b0 : decide (t332 < t371) = false := decide_eq_false c93
             clear c93
             by_cases c94 : t371 > (wrap64 (x344001_2 + 1))
             ·rw [if_pos c94] at H
              exact absurd H (by simp)
             ·rw [if_neg c94] at H
              have c94b0 : decide ((wrap64 (x344001_2 + 1)) < t371) = false := decide_eq_false c94
              clear c94
              by_cases c95 : t371 < (wrap64 (x344001_2 - 1))
              ·rw [if_pos c95] at H
               exact absurd H (by simp)
              ·rw [if_neg c95] at H
               have c95b0 : decide (t371 < (wrap64 (x344001_2 - 1))) = false := decide_eq_false c95
               clear c95
               by_cases c96 : t371 > (wrap64 ((wrap64 (t336 - x13_2)) - 1))
               ·rw [if_pos c96] at H
                exact absurd H (by simp)
               ·rw [if_neg c96] at H
                have c96b0 : decide ((wrap64 ((wrap64 (t336 - x13_2)) - 1)) < t371) = false := decide_eq_false c96
                clear c96
                have H' := Aside0.mk H
                clear H
                try go_wp2
                have n0_ := Aside0.mk (blk_drew BK335.out)
                have n1_ := Aside0.mk (blk_drew BK343.out)
                have n2_ := Aside0.mk (below_drew1 HB.out)
                clear BK335
                clear BK343
                clear HB
                have BK335 := n0_
                have BK343 := n1_
                have HB := n2_
                clear n0_ n1_ n2_
                have p369 : 0 ≤ (x13_2 : Int) := of_decide_eq_true (by first | (with_reducible assumption) | assumption)
                have q369 : x13_2 < (l1.length : Int) := of_decide_eq_true (by first | (with_reducible assumption) | assumption)
                obtain ⟨ad369, e369, hx369_0⟩ := Kd.at_bool HR1.out x13_2 p369 q369
                have hw369_0 := hx369_0
                cases e369
                replace hx369_0 := (HB.out.cell (World.block_lt_of_cell? w _ hx369_0)).trans hx369_0
                replace p369 := eq_true p369
                replace q369 := eq_true q369
                refine start_ (n := 21) (S := fun w' => w'.cell? ⟨gb343, 0, none⟩ = some (.int .i64 x344000_2) ∧ w'.cell? ⟨gb343, 1, none⟩ = some (.int .i64 x344001_2) ∧ w'.cell? ⟨gb343, 2, none⟩ = some (.int .i64 x344002_2) ∧ w'.cell? ⟨gb343, 3, none⟩ = some (.int .i64 x344003_2) ∧ w'.cell? ⟨gb335, 0, none⟩ = some (.int .i64 t332) ∧ w'.cell? ⟨gb335, 1, none⟩ = some (.int .i64 t333) ∧ w'.cell? ⟨gb335, 2, none⟩ = some (.int .i64 t334) ∧ w'.cell? (ad369.add (x13_2).toNat) = some (.bool (rdOf false l1 x13_2))) (ds := []) #[false, false, false, false, false, false, false, false, false, false, false, false, false, false, false, false, false, false, false, false, false] (by kernel_rfl) rfl rfl ⟨(blk_cell BK343.out 0).trans rfl, (blk_cell BK343.out 1).trans rfl, (blk_cell BK343.out 2).trans rfl, (blk_cell BK343.out 3).trans rfl, (blk_cell BK335.out 0).trans rfl, (blk_cell BK335.out 1).trans rfl, (blk_cell BK335.out 2).trans rfl, ((HB.out.cell (World.block_lt_of_cell? w _ hw369_0)).trans hw369_0)⟩ (fun hHeld => ?_); refine with_tabW q_DoorCycles.tab18 q_DoorCycles.bits18 (fun HT_ HW_ => ?_)
                generalize wr.drew = w97 at BK335 BK343 HB hx369_0 hHeld ⊢
                refine pure_ (i := 2) (N := some 98) (v := ?_) (a' := ?_) #[false, false, true, false, false, false, false, false, false, false, false, false, false, false, false, false, false, false, false, false, false] rfl rfl (any_of HT_.out (by kernel_rfl)) (fun _ _ _ h => h) (Or.inl ⟨by rfl, ?_⟩) ?_ ?_
                rotate_left
                ·intro w'
                 go_simp
                 with_reducible rfl
                rotate_left
                ·simp only [Act.put, List.setIfInBounds_toArray, List.set_cons_zero, List.set_cons_succ, i64_w, i32_w]
                 rfl
                refine pure_ (i := 3) (N := some 99) (v := ?_) (a' := ?_) #[false, false, true, true, false, false, false, false, false, false, false, false, false, false, false, false, false, false, false, false, false] rfl rfl (any_of HT_.out (by kernel_rfl)) (fun _ _ _ h => h) (Or.inl ⟨by rfl, ?_⟩) ?_ ?_
                rotate_left
                ·intro w'
                 go_simp
                 with_reducible rfl
                rotate_left
                ·simp only [Act.put, List.setIfInBounds_toArray, List.set_cons_zero, List.set_cons_succ, i64_w, i32_w]
                 rfl
                refine pure_ (i := 4) (N := some 100) (v := ?_) (a' := ?_) #[false, false, true, true, true, false, false, false, false, false, false, false, false, false, false, false, false, false, false, false, false] rfl rfl (any_of HT_.out (by kernel_rfl)) (fun _ _ _ h => h) (Or.inl ⟨by rfl, ?_⟩) ?_ ?_
                rotate_left
                ·intro w'
                 go_simp
                 with_reducible rfl
                rotate_left
                ·simp only [Act.put, List.setIfInBounds_toArray, List.set_cons_zero, List.set_cons_succ, i64_w, i32_w]
                 rfl
                refine pure_ (i := 5) (N := some 101) (v := ?_) (a' := ?_) #[false, false, true, true, true, true, false, false, false, false, false, false, false, false, false, false, false, false, false, false, false] rfl rfl (any_of HT_.out (by kernel_rfl)) (fun _ _ _ h => h) (Or.inl ⟨by rfl, ?_⟩) ?_ ?_
                rotate_left
                ·intro w'
                 go_simp
                 with_reducible rfl
                rotate_left
                ·simp only [Act.put, List.setIfInBounds_toArray, List.set_cons_zero, List.set_cons_succ, i64_w, i32_w]
                 rfl
                refine pure_ (i := 6) (N := some 102) (v := ?_) (a' := ?_) #[false, false, true, true, true, true, true, false, false, false, false, false, false, false, false, false, false, false, false, false, false] rfl rfl (any_of HT_.out (by kernel_rfl)) (fun _ _ _ h => h) (Or.inl ⟨by rfl, ?_⟩) ?_ ?_
                rotate_left
                ·intro w'
                 go_simp
                 with_reducible rfl
                rotate_left
                ·simp only [Act.put, List.setIfInBounds_toArray, List.set_cons_zero, List.set_cons_succ, i64_w, i32_w]
                 rfl
                refine pure_ (i := 7) (N := some 103) (v := ?_) (a' := ?_) #[false, false, true, true, true, true, true, true, false, false, false, false, false, false, false, false, false, false, false, false, false] rfl rfl (any_of HT_.out (by kernel_rfl)) (fun _ _ _ h => h) (Or.inl ⟨by rfl, ?_⟩) ?_ ?_
                rotate_left
                ·intro w'
                 go_simp
                 with_reducible rfl
                rotate_left
                ·simp only [Act.put, List.setIfInBounds_toArray, List.set_cons_zero, List.set_cons_succ, i64_w, i32_w]
                 rfl
                refine pure_ (i := 8) (N := some 104) (v := ?_) (a' := ?_) #[false, false, true, true, true, true, true, true, true, false, false, false, false, false, false, false, false, false, false, false, false] rfl rfl (any_of HT_.out (by kernel_rfl)) (fun _ _ _ h => h) (Or.inl ⟨by rfl, ?_⟩) ?_ ?_
                rotate_left
                ·intro w'
                 go_simp
                 with_reducible rfl
                rotate_left
                ·simp only [Act.put, List.setIfInBounds_toArray, List.set_cons_zero, List.set_cons_succ, i64_w, i32_w]
                 rfl
                refine pure_ (i := 9) (N := some 105) (v := ?_) (a' := ?_) #[false, false, true, true, true, true, true, true, true, true, false, false, false, false, false, false, false, false, false, false, false] rfl rfl (any_of HT_.out (by kernel_rfl)) (fun _ _ _ h => h) (Or.inl ⟨by rfl, ?_⟩) ?_ ?_
                rotate_left
                ·intro w'
                 go_simp
                 with_reducible rfl
                rotate_left
                ·simp only [Act.put, List.setIfInBounds_toArray, List.set_cons_zero, List.set_cons_succ, i64_w, i32_w]
                 rfl
                refine take_ (i := 0) (N := some 96) (v := ?_) (a' := ?_) #[true, false, true, true, true, true, true, true, true, true, false, false, false, false, false, false, false, false, false, false, false] rfl rfl (take_ofW HT_.out HW_.out (by kernel_rfl)) (fun _ _ _ h => h) (Or.inl ⟨by rfl, ?_⟩) hHeld ?_ ?_
                rotate_left
                ·rintro w' ⟨s0, s1, s2, s3, s4, s5, s6, s7⟩
                 go_simp
                 with_reducible rfl
                rotate_left
                ·simp only [Act.put, List.setIfInBounds_toArray, List.set_cons_zero, List.set_cons_succ, i64_w, i32_w]
                 rfl
                refine take_ (i := 1) (N := some 97) (v := ?_) (a' := ?_) #[true, true, true, true, true, true, true, true, true, true, false, false, false, false, false, false, false, false, false, false, false] rfl rfl (take_ofW HT_.out HW_.out (by kernel_rfl)) (fun _ _ _ h => h) (Or.inl ⟨by rfl, ?_⟩) hHeld ?_ ?_
                rotate_left
                ·rintro w' ⟨s0, s1, s2, s3, s4, s5, s6, s7⟩
                 go_simp
                 with_reducible rfl
                rotate_left
                ·simp only [Act.put, List.setIfInBounds_toArray, List.set_cons_zero, List.set_cons_succ, i64_w, i32_w]
                 rfl
                refine take_ (i := 10) (N := some 106) (v := ?_) (a' := ?_) #[true, true, true, true, true, true, true, true, true, true, true, false, false, false, false, false, false, false, false, false, false] rfl rfl (take_ofW HT_.out HW_.out (by kernel_rfl)) (fun _ _ _ h => h) (Or.inl ⟨by rfl, ?_⟩) hHeld ?_ ?_
                rotate_left
                ·rintro w' ⟨s0, s1, s2, s3, s4, s5, s6, s7⟩
                 go_simp
                 with_reducible rfl
                rotate_left
                ·simp only [Act.put, List.setIfInBounds_toArray, List.set_cons_zero, List.set_cons_succ, i64_w, i32_w]
                 rfl
                refine pure_ (i := 11) (N := some 107) (v := ?_) (a' := ?_) #[true, true, true, true, true, true, true, true, true, true, true, true, false, false, false, false, false, false, false, false, false] rfl rfl (any_of HT_.out (by kernel_rfl)) (fun _ _ _ h => h) (Or.inl ⟨by rfl, ?_⟩) ?_ ?_
                rotate_left
                ·intro w'
                 go_simp
                 with_reducible rfl
                rotate_left
                ·simp only [Act.put, List.setIfInBounds_toArray, List.set_cons_zero, List.set_cons_succ, i64_w, i32_w]
                 rfl
                refine join_ (σ := Nat) 3 #[true, true, true, true, true, true, true, true, true, true, true, true, true, true, true, true, true, true, false, false, false] (fun s_ => [(108, .tuple #[.agg #[.int .i64 t370, .int .i64 t371, .int .i64 t372, .int .i64 t373], .bool t374, .int .i64 t375]), (18, .pointer (some ⟨s_, 0, none⟩)), (95, .tuple #[.agg #[.int .i64 t370, .int .i64 t371, .int .i64 t372, .int .i64 t373], .bool t374, .int .i64 t375]), (109, .agg #[.int .i64 t370, .int .i64 t371, .int .i64 t372, .int .i64 t373]), (110, .bool t374), (111, .int .i64 t375)]) (fun s_ w' => (w'.cell? ⟨gb343, 0, none⟩ = some (.int .i64 x344000_2) ∧ w'.cell? ⟨gb343, 1, none⟩ = some (.int .i64 x344001_2) ∧ w'.cell? ⟨gb343, 2, none⟩ = some (.int .i64 x344002_2) ∧ w'.cell? ⟨gb343, 3, none⟩ = some (.int .i64 x344003_2) ∧ w'.cell? ⟨gb335, 0, none⟩ = some (.int .i64 t332) ∧ w'.cell? ⟨gb335, 1, none⟩ = some (.int .i64 t333) ∧ w'.cell? ⟨gb335, 2, none⟩ = some (.int .i64 t334) ∧ w'.cell? (ad369.add (x13_2).toNat) = some (.bool (rdOf false l1 x13_2))) ∧ (w'.heap[gb335]? = some (.cells #[.int .i64 t332, .int .i64 t333, .int .i64 t334] 25 (0, 0))) ∧ (w'.heap[gb343]? = some (.cells #[.int .i64 x344000_2, .int .i64 x344001_2, .int .i64 x344002_2, .int .i64 x344003_2] 23 (0, 0))) ∧ (w'.heap[s_]? = some (.cells #[.int .i64 0, .int .i64 0, .int .i64 0, .int .i64 0] 23 (0, 0))) ∧ (w.heap.size ≤ s_) ∧ (w.heap.size ≤ s_) ∧ (gb335 ≠ s_) ∧ (s_ ≠ gb335) ∧ (gb343 ≠ s_) ∧ (s_ ≠ gb343) ∧ (Below w.heap.size w w')) ?_ ?_
                rotate_left
                ·intro hCont
                 refine two_ (i := 12) (j := 17) (Ni := some 108) (Nj := some 18) #[true, true, true, true, true, true, true, true, true, true, true, true, true, false, false, false, false, false, false, false, false] #[true, true, true, true, true, true, true, true, true, true, true, true, false, false, false, false, false, true, false, false, false] rfl rfl rfl rfl (two_of HT_.out (by kernel_rfl)) (by decide) (by decide) (fun K hK => ?_) (fun K hK => ?_)
                 ·skip
                  refine goes_ Try.func9 (by kernel_rfl) rfl #[.agg #[.int .i64 x344000_2, .int .i64 x344001_2, .int .i64 x344002_2, .int .i64 x344003_2], .agg #[.int .i64 t332, .int .i64 t333, .int .i64 t334], .bool (rdOf false l1 x13_2)] (by rfl) rfl rfl (by (try simp only [List.map_toArray, List.map_cons, List.map_nil]); first | done | rfl | (simp only [List.length_drop, List.length_take]; rfl)) ?_
                  with_reducible refine (door_Step.calls k2 x344000_2 x344001_2 x344002_2 x344003_2 t332 t333 t334 (rdOf false l1 x13_2) t370 t371 t372 t373 t374 t375 _ A90.out).mono ?_
                  rintro e w98 ⟨rfl, hb⟩
                  refine ⟨_, rfl, ?_⟩
                  have n0_ := Aside0.mk (blk_below (g := gb335) (o := .cells #[.int .i64 t332, .int .i64 t333, .int .i64 t334] 25 (0, 0)) (by (with_reducible repeat (first | refine blk_drewN ?_ _ | refine blk_drew ?_ | refine blk_alloc ?_ _)); exact BK335.out) hb)
                  have n1_ := Aside0.mk (blk_below (g := gb343) (o := .cells #[.int .i64 x344000_2, .int .i64 x344001_2, .int .i64 x344002_2, .int .i64 x344003_2] 23 (0, 0)) (by (with_reducible repeat (first | refine blk_drewN ?_ _ | refine blk_drew ?_ | refine blk_alloc ?_ _)); exact BK343.out) hb)
                  have n2_ := Aside0.mk (below_step (by repeat (first | (with_reducible first | exact HB.out | apply below_alloc | apply pw_below_drewN | apply below_drew1 | refine below_set ?_ GE335.out | refine below_set ?_ GE343.out) | exact HB.out)) hb)
                  clear BK335
                  clear BK343
                  clear HB
                  have BK335 := n0_
                  have BK343 := n1_
                  have HB := n2_
                  clear n0_ n1_ n2_
                  (try clear hb)
                  (try clear hb2)
                  (try clear hk)
                  (try clear hi)
                  refine hK.out _ _ ⟨(blk_cell BK343.out 0).trans rfl, (blk_cell BK343.out 1).trans rfl, (blk_cell BK343.out 2).trans rfl, (blk_cell BK343.out 3).trans rfl, (blk_cell BK335.out 0).trans rfl, (blk_cell BK335.out 1).trans rfl, (blk_cell BK335.out 2).trans rfl, ((HB.out.cell (World.block_lt_of_cell? w _ hw369_0)).trans hw369_0)⟩ (fun hHeld => ?_)
                  clear hK K
                  refine norm_ (a' := ?_) ?_ ?_
                  rotate_left
                  ·show Act.put _ (some 108) _ = _
                   simp only [Act.put, List.setIfInBounds_toArray, List.set_cons_zero, List.set_cons_succ, i64_w, i32_w]
                   rfl
                  refine pure_ (i := 13) (N := some 95) (v := ?_) (a' := ?_) #[true, true, true, true, true, true, true, true, true, true, true, true, true, true, false, false, false, false, false, false, false] rfl rfl (any_of HT_.out (by kernel_rfl)) (fun _ _ _ h => h) (Or.inl ⟨by rfl, ?_⟩) ?_ ?_
                  rotate_left
                  ·intro w'
                   go_simp
                   with_reducible rfl
                  rotate_left
                  ·simp only [Act.put, List.setIfInBounds_toArray, List.set_cons_zero, List.set_cons_succ, i64_w, i32_w]
                   rfl
                  refine pure_ (i := 14) (N := some 109) (v := ?_) (a' := ?_) #[true, true, true, true, true, true, true, true, true, true, true, true, true, true, true, false, false, false, false, false, false] rfl rfl (any_of HT_.out (by kernel_rfl)) (fun _ _ _ h => h) (Or.inl ⟨by rfl, ?_⟩) ?_ ?_
                  rotate_left
                  ·intro w'
                   go_simp
                   with_reducible rfl
                  rotate_left
                  ·simp only [Act.put, List.setIfInBounds_toArray, List.set_cons_zero, List.set_cons_succ, i64_w, i32_w]
                   rfl
                  refine pure_ (i := 15) (N := some 110) (v := ?_) (a' := ?_) #[true, true, true, true, true, true, true, true, true, true, true, true, true, true, true, true, false, false, false, false, false] rfl rfl (any_of HT_.out (by kernel_rfl)) (fun _ _ _ h => h) (Or.inl ⟨by rfl, ?_⟩) ?_ ?_
                  rotate_left
                  ·intro w'
                   go_simp
                   with_reducible rfl
                  rotate_left
                  ·simp only [Act.put, List.setIfInBounds_toArray, List.set_cons_zero, List.set_cons_succ, i64_w, i32_w]
                   rfl
                  refine pure_ (i := 16) (N := some 111) (v := ?_) (a' := ?_) #[true, true, true, true, true, true, true, true, true, true, true, true, true, true, true, true, true, false, false, false, false] rfl rfl (any_of HT_.out (by kernel_rfl)) (fun _ _ _ h => h) (Or.inl ⟨by rfl, ?_⟩) ?_ ?_
                  rotate_left
                  ·intro w'
                   go_simp
                   with_reducible rfl
                  rotate_left
                  ·simp only [Act.put, List.setIfInBounds_toArray, List.set_cons_zero, List.set_cons_succ, i64_w, i32_w]
                   rfl
                  refine one_ (i := 17) (N := some 18) #[true, true, true, true, true, true, true, true, true, true, true, true, true, true, true, true, true, true, false, false, false] rfl rfl (one_of HT_.out (by kernel_rfl)) (by decide) (fun K hK => ?_)
                  refine box_step ?hg (N := 18) ?hd (cs := #[.int .i64 0, .int .i64 0, .int .i64 0, .int .i64 0]) (t := 23) ?hr ?_; (case hd => rfl); (case hg => rfl); (case hr => first | (go_simp; done) | (go_simp; rfl))
                  intro gb376 hg w99 hbox hb
                  have n0_ := Aside0.mk (blk_below (g := gb335) (o := .cells #[.int .i64 t332, .int .i64 t333, .int .i64 t334] 25 (0, 0)) (by (with_reducible repeat (first | refine blk_drewN ?_ _ | refine blk_drew ?_ | refine blk_alloc ?_ _)); exact BK335.out) hb)
                  have n1_ := Aside0.mk (blk_below (g := gb343) (o := .cells #[.int .i64 x344000_2, .int .i64 x344001_2, .int .i64 x344002_2, .int .i64 x344003_2] 23 (0, 0)) (by (with_reducible repeat (first | refine blk_drewN ?_ _ | refine blk_drew ?_ | refine blk_alloc ?_ _)); exact BK343.out) hb)
                  have n2_ := Aside0.mk (below_step (by repeat (first | (with_reducible first | exact HB.out | apply below_alloc | apply pw_below_drewN | apply below_drew1 | refine below_set ?_ GE335.out | refine below_set ?_ GE343.out) | exact HB.out)) hb)
                  have n3_ := Aside0.mk (hbox)
                  have n4_ := Aside0.mk ((by rw [hg]; exact (below_size (by repeat (first | (with_reducible first | exact HB.out | apply below_alloc | apply pw_below_drewN | apply below_drew1 | refine below_set ?_ GE335.out | refine below_set ?_ GE343.out) | exact HB.out))) : w.heap.size ≤ gb376))
                  have n5_ := Aside0.mk ((by rw [hg]; exact (below_size (by repeat (first | (with_reducible first | exact HB.out | apply below_alloc | apply pw_below_drewN | apply below_drew1 | refine below_set ?_ GE335.out | refine below_set ?_ GE343.out) | exact HB.out))) : w.heap.size ≤ gb376))
                  have n6_ := Aside0.mk ((by rw [hg]; exact Nat.ne_of_lt (blk_lt (g := gb335) (o := .cells #[.int .i64 t332, .int .i64 t333, .int .i64 t334] 25 (0, 0)) (by (with_reducible repeat (first | refine blk_drewN ?_ _ | refine blk_drew ?_ | refine blk_alloc ?_ _)); exact BK335.out)) : gb335 ≠ gb376))
                  have n7_ := Aside0.mk ((by rw [hg]; exact Nat.ne_of_gt (blk_lt (g := gb335) (o := .cells #[.int .i64 t332, .int .i64 t333, .int .i64 t334] 25 (0, 0)) (by (with_reducible repeat (first | refine blk_drewN ?_ _ | refine blk_drew ?_ | refine blk_alloc ?_ _)); exact BK335.out)) : gb376 ≠ gb335))
                  have n8_ := Aside0.mk ((by rw [hg]; exact Nat.ne_of_lt (blk_lt (g := gb343) (o := .cells #[.int .i64 x344000_2, .int .i64 x344001_2, .int .i64 x344002_2, .int .i64 x344003_2] 23 (0, 0)) (by (with_reducible repeat (first | refine blk_drewN ?_ _ | refine blk_drew ?_ | refine blk_alloc ?_ _)); exact BK343.out)) : gb343 ≠ gb376))
                  have n9_ := Aside0.mk ((by rw [hg]; exact Nat.ne_of_gt (blk_lt (g := gb343) (o := .cells #[.int .i64 x344000_2, .int .i64 x344001_2, .int .i64 x344002_2, .int .i64 x344003_2] 23 (0, 0)) (by (with_reducible repeat (first | refine blk_drewN ?_ _ | refine blk_drew ?_ | refine blk_alloc ?_ _)); exact BK343.out)) : gb376 ≠ gb343))
                  clear BK335
                  clear BK343
                  clear HB
                  have BK335 := n0_
                  have BK343 := n1_
                  have HB := n2_
                  have BK376 := n3_
                  have GW376 := n4_
                  have GE376 := n5_
                  have NB335_376 := n6_
                  have NB376_335 := n7_
                  have NB343_376 := n8_
                  have NB376_343 := n9_
                  clear n0_ n1_ n2_ n3_ n4_ n5_ n6_ n7_ n8_ n9_
                  clear hb hbox hg
                  refine hK.out _ _ ⟨(blk_cell BK343.out 0).trans rfl, (blk_cell BK343.out 1).trans rfl, (blk_cell BK343.out 2).trans rfl, (blk_cell BK343.out 3).trans rfl, (blk_cell BK335.out 0).trans rfl, (blk_cell BK335.out 1).trans rfl, (blk_cell BK335.out 2).trans rfl, ((HB.out.cell (World.block_lt_of_cell? w _ hw369_0)).trans hw369_0)⟩ (fun hHeld => ?_)
                  clear hK K
                  refine norm_ (a' := ?_) ?_ ?_
                  rotate_left
                  ·show Act.put _ (some 18) _ = _
                   simp only [Act.put, List.setIfInBounds_toArray, List.set_cons_zero, List.set_cons_succ, i64_w, i32_w]
                   rfl
                  exact norm_ (by simp only [putAll, Act.put, List.setIfInBounds_toArray, List.set_cons_zero, List.set_cons_succ]) (hCont (gb376) _ ⟨hHeld, (by (with_reducible repeat (first | refine blk_drewN ?_ _ | refine blk_drew ?_ | refine blk_alloc ?_ _)); exact BK335.out), (by (with_reducible repeat (first | refine blk_drewN ?_ _ | refine blk_drew ?_ | refine blk_alloc ?_ _)); exact BK343.out), (by (with_reducible repeat (first | refine blk_drewN ?_ _ | refine blk_drew ?_ | refine blk_alloc ?_ _)); exact BK376.out), GW376.out, GE376.out, NB335_376.out, NB376_335.out, NB343_376.out, NB376_343.out, (by repeat (first | (with_reducible first | exact HB.out | apply below_alloc | apply pw_below_drewN | apply below_drew1 | refine below_set ?_ GE335.out | refine below_set ?_ GE343.out | refine below_set ?_ GE376.out) | exact HB.out))⟩)
                 ·skip
                  refine box_step ?hg (N := 18) ?hd (cs := #[.int .i64 0, .int .i64 0, .int .i64 0, .int .i64 0]) (t := 23) ?hr ?_; (case hd => rfl); (case hg => rfl); (case hr => first | (go_simp; done) | (go_simp; rfl))
                  intro gb376 hg w98 hbox hb
                  have n0_ := Aside0.mk (blk_below (g := gb335) (o := .cells #[.int .i64 t332, .int .i64 t333, .int .i64 t334] 25 (0, 0)) (by (with_reducible repeat (first | refine blk_drewN ?_ _ | refine blk_drew ?_ | refine blk_alloc ?_ _)); exact BK335.out) hb)
                  have n1_ := Aside0.mk (blk_below (g := gb343) (o := .cells #[.int .i64 x344000_2, .int .i64 x344001_2, .int .i64 x344002_2, .int .i64 x344003_2] 23 (0, 0)) (by (with_reducible repeat (first | refine blk_drewN ?_ _ | refine blk_drew ?_ | refine blk_alloc ?_ _)); exact BK343.out) hb)
                  have n2_ := Aside0.mk (below_step (by repeat (first | (with_reducible first | exact HB.out | apply below_alloc | apply pw_below_drewN | apply below_drew1 | refine below_set ?_ GE335.out | refine below_set ?_ GE343.out) | exact HB.out)) hb)
                  have n3_ := Aside0.mk (hbox)
                  have n4_ := Aside0.mk ((by rw [hg]; exact (below_size (by repeat (first | (with_reducible first | exact HB.out | apply below_alloc | apply pw_below_drewN | apply below_drew1 | refine below_set ?_ GE335.out | refine below_set ?_ GE343.out) | exact HB.out))) : w.heap.size ≤ gb376))
                  have n5_ := Aside0.mk ((by rw [hg]; exact (below_size (by repeat (first | (with_reducible first | exact HB.out | apply below_alloc | apply pw_below_drewN | apply below_drew1 | refine below_set ?_ GE335.out | refine below_set ?_ GE343.out) | exact HB.out))) : w.heap.size ≤ gb376))
                  have n6_ := Aside0.mk ((by rw [hg]; exact Nat.ne_of_lt (blk_lt (g := gb335) (o := .cells #[.int .i64 t332, .int .i64 t333, .int .i64 t334] 25 (0, 0)) (by (with_reducible repeat (first | refine blk_drewN ?_ _ | refine blk_drew ?_ | refine blk_alloc ?_ _)); exact BK335.out)) : gb335 ≠ gb376))
                  have n7_ := Aside0.mk ((by rw [hg]; exact Nat.ne_of_gt (blk_lt (g := gb335) (o := .cells #[.int .i64 t332, .int .i64 t333, .int .i64 t334] 25 (0, 0)) (by (with_reducible repeat (first | refine blk_drewN ?_ _ | refine blk_drew ?_ | refine blk_alloc ?_ _)); exact BK335.out)) : gb376 ≠ gb335))
                  have n8_ := Aside0.mk ((by rw [hg]; exact Nat.ne_of_lt (blk_lt (g := gb343) (o := .cells #[.int .i64 x344000_2, .int .i64 x344001_2, .int .i64 x344002_2, .int .i64 x344003_2] 23 (0, 0)) (by (with_reducible repeat (first | refine blk_drewN ?_ _ | refine blk_drew ?_ | refine blk_alloc ?_ _)); exact BK343.out)) : gb343 ≠ gb376))
                  have n9_ := Aside0.mk ((by rw [hg]; exact Nat.ne_of_gt (blk_lt (g := gb343) (o := .cells #[.int .i64 x344000_2, .int .i64 x344001_2, .int .i64 x344002_2, .int .i64 x344003_2] 23 (0, 0)) (by (with_reducible repeat (first | refine blk_drewN ?_ _ | refine blk_drew ?_ | refine blk_alloc ?_ _)); exact BK343.out)) : gb376 ≠ gb343))
                  clear BK335
                  clear BK343
                  clear HB
                  have BK335 := n0_
                  have BK343 := n1_
                  have HB := n2_
                  have BK376 := n3_
                  have GW376 := n4_
                  have GE376 := n5_
                  have NB335_376 := n6_
                  have NB376_335 := n7_
                  have NB343_376 := n8_
                  have NB376_343 := n9_
                  clear n0_ n1_ n2_ n3_ n4_ n5_ n6_ n7_ n8_ n9_
                  clear hb hbox hg
                  refine hK.out _ _ ⟨(blk_cell BK343.out 0).trans rfl, (blk_cell BK343.out 1).trans rfl, (blk_cell BK343.out 2).trans rfl, (blk_cell BK343.out 3).trans rfl, (blk_cell BK335.out 0).trans rfl, (blk_cell BK335.out 1).trans rfl, (blk_cell BK335.out 2).trans rfl, ((HB.out.cell (World.block_lt_of_cell? w _ hw369_0)).trans hw369_0)⟩ (fun hHeld => ?_)
                  clear hK K
                  refine norm_ (a' := ?_) ?_ ?_
                  rotate_left
                  ·show Act.put _ (some 18) _ = _
                   simp only [Act.put, List.setIfInBounds_toArray, List.set_cons_zero, List.set_cons_succ, i64_w, i32_w]
                   rfl
                  refine one_ (i := 12) (N := some 108) #[true, true, true, true, true, true, true, true, true, true, true, true, true, false, false, false, false, true, false, false, false] rfl rfl (one_of HT_.out (by kernel_rfl)) (by decide) (fun K hK => ?_)
                  refine goes_ Try.func9 (by kernel_rfl) rfl #[.agg #[.int .i64 x344000_2, .int .i64 x344001_2, .int .i64 x344002_2, .int .i64 x344003_2], .agg #[.int .i64 t332, .int .i64 t333, .int .i64 t334], .bool (rdOf false l1 x13_2)] (by rfl) rfl rfl (by (try simp only [List.map_toArray, List.map_cons, List.map_nil]); first | done | rfl | (simp only [List.length_drop, List.length_take]; rfl)) ?_
                  with_reducible refine (door_Step.calls k2 x344000_2 x344001_2 x344002_2 x344003_2 t332 t333 t334 (rdOf false l1 x13_2) t370 t371 t372 t373 t374 t375 _ A90.out).mono ?_
                  rintro e w99 ⟨rfl, hb⟩
                  refine ⟨_, rfl, ?_⟩
                  have n0_ := Aside0.mk (blk_below (g := gb335) (o := .cells #[.int .i64 t332, .int .i64 t333, .int .i64 t334] 25 (0, 0)) (by (with_reducible repeat (first | refine blk_drewN ?_ _ | refine blk_drew ?_ | refine blk_alloc ?_ _)); exact BK335.out) hb)
                  have n1_ := Aside0.mk (blk_below (g := gb343) (o := .cells #[.int .i64 x344000_2, .int .i64 x344001_2, .int .i64 x344002_2, .int .i64 x344003_2] 23 (0, 0)) (by (with_reducible repeat (first | refine blk_drewN ?_ _ | refine blk_drew ?_ | refine blk_alloc ?_ _)); exact BK343.out) hb)
                  have n2_ := Aside0.mk (blk_below (g := gb376) (o := .cells #[.int .i64 0, .int .i64 0, .int .i64 0, .int .i64 0] 23 (0, 0)) (by (with_reducible repeat (first | refine blk_drewN ?_ _ | refine blk_drew ?_ | refine blk_alloc ?_ _)); exact BK376.out) hb)
                  have n3_ := Aside0.mk (below_step (by repeat (first | (with_reducible first | exact HB.out | apply below_alloc | apply pw_below_drewN | apply below_drew1 | refine below_set ?_ GE335.out | refine below_set ?_ GE343.out | refine below_set ?_ GE376.out) | exact HB.out)) hb)
                  clear BK335
                  clear BK343
                  clear BK376
                  clear HB
                  have BK335 := n0_
                  have BK343 := n1_
                  have BK376 := n2_
                  have HB := n3_
                  clear n0_ n1_ n2_ n3_
                  (try clear hb)
                  (try clear hb2)
                  (try clear hk)
                  (try clear hi)
                  refine hK.out _ _ ⟨(blk_cell BK343.out 0).trans rfl, (blk_cell BK343.out 1).trans rfl, (blk_cell BK343.out 2).trans rfl, (blk_cell BK343.out 3).trans rfl, (blk_cell BK335.out 0).trans rfl, (blk_cell BK335.out 1).trans rfl, (blk_cell BK335.out 2).trans rfl, ((HB.out.cell (World.block_lt_of_cell? w _ hw369_0)).trans hw369_0)⟩ (fun hHeld => ?_)
                  clear hK K
                  refine norm_ (a' := ?_) ?_ ?_
                  rotate_left
                  ·show Act.put _ (some 108) _ = _
                   simp only [Act.put, List.setIfInBounds_toArray, List.set_cons_zero, List.set_cons_succ, i64_w, i32_w]
                   rfl
                  refine pure_ (i := 13) (N := some 95) (v := ?_) (a' := ?_) #[true, true, true, true, true, true, true, true, true, true, true, true, true, true, false, false, false, true, false, false, false] rfl rfl (any_of HT_.out (by kernel_rfl)) (fun _ _ _ h => h) (Or.inl ⟨by rfl, ?_⟩) ?_ ?_
                  rotate_left
                  ·intro w'
                   go_simp
                   with_reducible rfl
                  rotate_left
                  ·simp only [Act.put, List.setIfInBounds_toArray, List.set_cons_zero, List.set_cons_succ, i64_w, i32_w]
                   rfl
                  refine pure_ (i := 14) (N := some 109) (v := ?_) (a' := ?_) #[true, true, true, true, true, true, true, true, true, true, true, true, true, true, true, false, false, true, false, false, false] rfl rfl (any_of HT_.out (by kernel_rfl)) (fun _ _ _ h => h) (Or.inl ⟨by rfl, ?_⟩) ?_ ?_
                  rotate_left
                  ·intro w'
                   go_simp
                   with_reducible rfl
                  rotate_left
                  ·simp only [Act.put, List.setIfInBounds_toArray, List.set_cons_zero, List.set_cons_succ, i64_w, i32_w]
                   rfl
                  refine pure_ (i := 15) (N := some 110) (v := ?_) (a' := ?_) #[true, true, true, true, true, true, true, true, true, true, true, true, true, true, true, true, false, true, false, false, false] rfl rfl (any_of HT_.out (by kernel_rfl)) (fun _ _ _ h => h) (Or.inl ⟨by rfl, ?_⟩) ?_ ?_
                  rotate_left
                  ·intro w'
                   go_simp
                   with_reducible rfl
                  rotate_left
                  ·simp only [Act.put, List.setIfInBounds_toArray, List.set_cons_zero, List.set_cons_succ, i64_w, i32_w]
                   rfl
                  refine pure_ (i := 16) (N := some 111) (v := ?_) (a' := ?_) #[true, true, true, true, true, true, true, true, true, true, true, true, true, true, true, true, true, true, false, false, false] rfl rfl (any_of HT_.out (by kernel_rfl)) (fun _ _ _ h => h) (Or.inl ⟨by rfl, ?_⟩) ?_ ?_
                  rotate_left
                  ·intro w'
                   go_simp
                   with_reducible rfl
                  rotate_left
                  ·simp only [Act.put, List.setIfInBounds_toArray, List.set_cons_zero, List.set_cons_succ, i64_w, i32_w]
                   rfl
                  exact norm_ (by simp only [putAll, Act.put, List.setIfInBounds_toArray, List.set_cons_zero, List.set_cons_succ]) (hCont (gb376) _ ⟨hHeld, (by (with_reducible repeat (first | refine blk_drewN ?_ _ | refine blk_drew ?_ | refine blk_alloc ?_ _)); exact BK335.out), (by (with_reducible repeat (first | refine blk_drewN ?_ _ | refine blk_drew ?_ | refine blk_alloc ?_ _)); exact BK343.out), (by (with_reducible repeat (first | refine blk_drewN ?_ _ | refine blk_drew ?_ | refine blk_alloc ?_ _)); exact BK376.out), GW376.out, GE376.out, NB335_376.out, NB376_335.out, NB343_376.out, NB376_343.out, (by repeat (first | (with_reducible first | exact HB.out | apply below_alloc | apply pw_below_drewN | apply below_drew1 | refine below_set ?_ GE335.out | refine below_set ?_ GE343.out | refine below_set ?_ GE376.out) | exact HB.out))⟩)
                rintro gb376 w100 ⟨hS_, h0_, h1_, h2_, h3_, h4_, h5_, h6_, h7_, h8_, h9_⟩
                have n0_ : Aside0 (w100.heap[gb335]? = some (.cells #[.int .i64 t332, .int .i64 t333, .int .i64 t334] 25 (0, 0))) := ⟨h0_⟩
                have n1_ : Aside0 (w100.heap[gb343]? = some (.cells #[.int .i64 x344000_2, .int .i64 x344001_2, .int .i64 x344002_2, .int .i64 x344003_2] 23 (0, 0))) := ⟨h1_⟩
                have n2_ : Aside0 (w100.heap[gb376]? = some (.cells #[.int .i64 0, .int .i64 0, .int .i64 0, .int .i64 0] 23 (0, 0))) := ⟨h2_⟩
                have n3_ : Aside0 (w.heap.size ≤ gb376) := ⟨h3_⟩
                have n4_ : Aside0 (w.heap.size ≤ gb376) := ⟨h4_⟩
                have n5_ : Aside0 (gb335 ≠ gb376) := ⟨h5_⟩
                have n6_ : Aside0 (gb376 ≠ gb335) := ⟨h6_⟩
                have n7_ : Aside0 (gb343 ≠ gb376) := ⟨h7_⟩
                have n8_ : Aside0 (gb376 ≠ gb343) := ⟨h8_⟩
                have n9_ : Aside0 (Below w.heap.size w w100) := ⟨h9_⟩
                clear BK335
                clear BK343
                clear HB
                clear h0_ h1_ h2_ h3_ h4_ h5_ h6_ h7_ h8_ h9_
                have BK335 := n0_
                have BK343 := n1_
                have BK376 := n2_
                have GW376 := n3_
                have GE376 := n4_
                have NB335_376 := n5_
                have NB376_335 := n6_
                have NB343_376 := n7_
                have NB376_343 := n8_
                have HB := n9_
                clear n0_ n1_ n2_ n3_ n4_ n5_ n6_ n7_ n8_ n9_
                have hHeld : w100.cell? ⟨gb343, 0, none⟩ = some (.int .i64 x344000_2) ∧ w100.cell? ⟨gb343, 1, none⟩ = some (.int .i64 x344001_2) ∧ w100.cell? ⟨gb343, 2, none⟩ = some (.int .i64 x344002_2) ∧ w100.cell? ⟨gb343, 3, none⟩ = some (.int .i64 x344003_2) ∧ w100.cell? ⟨gb335, 0, none⟩ = some (.int .i64 t332) ∧ w100.cell? ⟨gb335, 1, none⟩ = some (.int .i64 t333) ∧ w100.cell? ⟨gb335, 2, none⟩ = some (.int .i64 t334) ∧ w100.cell? (ad369.add (x13_2).toNat) = some (.bool (rdOf false l1 x13_2)) := hS_
                refine norm_ (a' := ?_) ?_ ?_
                rotate_left
                ·simp only [putAll, Act.put, List.setIfInBounds_toArray, List.set_cons_zero, List.set_cons_succ]
                 rfl
                refine one_ (i := 18) (N := none) #[true, true, true, true, true, true, true, true, true, true, true, true, true, true, true, true, true, true, true, false, false] rfl rfl (one_of HT_.out (by kernel_rfl)) (by decide) (fun K hK => ?_)
                have hs101 : w100.cell? ⟨gb376, 0, none⟩ = some (.int .i64 0) := (blk_cell BK376.out 0).trans rfl
                have hfs101 := blk_frozen BK376.out 0
                have hns101_0 := NB335_376.out
                have hns101_1 := NB343_376.out
                have hms101_0 := NB376_335.out
                have hms101_1 := NB376_343.out
                have hs102 : w100.cell? ⟨gb376, 1, none⟩ = some (.int .i64 0) := (blk_cell BK376.out 1).trans rfl
                have hfs102 := blk_frozen BK376.out 1
                have hns102_0 := NB335_376.out
                have hns102_1 := NB343_376.out
                have hms102_0 := NB376_335.out
                have hms102_1 := NB376_343.out
                have hs103 : w100.cell? ⟨gb376, 2, none⟩ = some (.int .i64 0) := (blk_cell BK376.out 2).trans rfl
                have hfs103 := blk_frozen BK376.out 2
                have hns103_0 := NB335_376.out
                have hns103_1 := NB343_376.out
                have hms103_0 := NB376_335.out
                have hms103_1 := NB376_343.out
                have hs104 : w100.cell? ⟨gb376, 3, none⟩ = some (.int .i64 0) := (blk_cell BK376.out 3).trans rfl
                have hfs104 := blk_frozen BK376.out 3
                have hns104_0 := NB335_376.out
                have hns104_1 := NB343_376.out
                have hms104_0 := NB376_335.out
                have hms104_1 := NB376_343.out
                refine skip_ (w1 := ?_) (by rfl) rfl ?_ ?_
                rotate_left
                ·go_simp
                 rfl
                refine hK.out _ _ ⟨((cell_far (p := ⟨gb376, _, none⟩) NB343_376.out _).trans (((cell_far (p := ⟨gb376, _, none⟩) NB343_376.out _).trans (((cell_far (p := ⟨gb376, _, none⟩) NB343_376.out _).trans (((cell_far (p := ⟨gb376, _, none⟩) NB343_376.out _).trans (hHeld.1)))))))), ((cell_far (p := ⟨gb376, _, none⟩) NB343_376.out _).trans (((cell_far (p := ⟨gb376, _, none⟩) NB343_376.out _).trans (((cell_far (p := ⟨gb376, _, none⟩) NB343_376.out _).trans (((cell_far (p := ⟨gb376, _, none⟩) NB343_376.out _).trans (hHeld.2.1)))))))), ((cell_far (p := ⟨gb376, _, none⟩) NB343_376.out _).trans (((cell_far (p := ⟨gb376, _, none⟩) NB343_376.out _).trans (((cell_far (p := ⟨gb376, _, none⟩) NB343_376.out _).trans (((cell_far (p := ⟨gb376, _, none⟩) NB343_376.out _).trans (hHeld.2.2.1)))))))), ((cell_far (p := ⟨gb376, _, none⟩) NB343_376.out _).trans (((cell_far (p := ⟨gb376, _, none⟩) NB343_376.out _).trans (((cell_far (p := ⟨gb376, _, none⟩) NB343_376.out _).trans (((cell_far (p := ⟨gb376, _, none⟩) NB343_376.out _).trans (hHeld.2.2.2.1)))))))), ((cell_far (p := ⟨gb376, _, none⟩) NB335_376.out _).trans (((cell_far (p := ⟨gb376, _, none⟩) NB335_376.out _).trans (((cell_far (p := ⟨gb376, _, none⟩) NB335_376.out _).trans (((cell_far (p := ⟨gb376, _, none⟩) NB335_376.out _).trans (hHeld.2.2.2.2.1)))))))), ((cell_far (p := ⟨gb376, _, none⟩) NB335_376.out _).trans (((cell_far (p := ⟨gb376, _, none⟩) NB335_376.out _).trans (((cell_far (p := ⟨gb376, _, none⟩) NB335_376.out _).trans (((cell_far (p := ⟨gb376, _, none⟩) NB335_376.out _).trans (hHeld.2.2.2.2.2.1)))))))), ((cell_far (p := ⟨gb376, _, none⟩) NB335_376.out _).trans (((cell_far (p := ⟨gb376, _, none⟩) NB335_376.out _).trans (((cell_far (p := ⟨gb376, _, none⟩) NB335_376.out _).trans (((cell_far (p := ⟨gb376, _, none⟩) NB335_376.out _).trans (hHeld.2.2.2.2.2.2.1)))))))), ((cell_far (p := ⟨gb376, _, none⟩) (by first | exact Nat.ne_of_lt (Nat.lt_of_lt_of_le (by have := World.block_lt_of_cell? _ _ hw369_0; first | rwa [add_block] at this | exact this) GW376.out) | (rw [add_block]; exact Nat.ne_of_lt (Nat.lt_of_lt_of_le (by have := World.block_lt_of_cell? _ _ hw369_0; first | rwa [add_block] at this | exact this) GW376.out)) | (show (Addr.add _ _).block ≠ _; rw [add_block]; exact Nat.ne_of_lt (Nat.lt_of_lt_of_le (by have := World.block_lt_of_cell? _ _ hw369_0; first | rwa [add_block] at this | exact this) GW376.out)) | (dsimp only; exact Nat.ne_of_lt (Nat.lt_of_lt_of_le (by have := World.block_lt_of_cell? _ _ hw369_0; first | rwa [add_block] at this | exact this) GW376.out))) _).trans (((cell_far (p := ⟨gb376, _, none⟩) (by first | exact Nat.ne_of_lt (Nat.lt_of_lt_of_le (by have := World.block_lt_of_cell? _ _ hw369_0; first | rwa [add_block] at this | exact this) GW376.out) | (rw [add_block]; exact Nat.ne_of_lt (Nat.lt_of_lt_of_le (by have := World.block_lt_of_cell? _ _ hw369_0; first | rwa [add_block] at this | exact this) GW376.out)) | (show (Addr.add _ _).block ≠ _; rw [add_block]; exact Nat.ne_of_lt (Nat.lt_of_lt_of_le (by have := World.block_lt_of_cell? _ _ hw369_0; first | rwa [add_block] at this | exact this) GW376.out)) | (dsimp only; exact Nat.ne_of_lt (Nat.lt_of_lt_of_le (by have := World.block_lt_of_cell? _ _ hw369_0; first | rwa [add_block] at this | exact this) GW376.out))) _).trans (((cell_far (p := ⟨gb376, _, none⟩) (by first | exact Nat.ne_of_lt (Nat.lt_of_lt_of_le (by have := World.block_lt_of_cell? _ _ hw369_0; first | rwa [add_block] at this | exact this) GW376.out) | (rw [add_block]; exact Nat.ne_of_lt (Nat.lt_of_lt_of_le (by have := World.block_lt_of_cell? _ _ hw369_0; first | rwa [add_block] at this | exact this) GW376.out)) | (show (Addr.add _ _).block ≠ _; rw [add_block]; exact Nat.ne_of_lt (Nat.lt_of_lt_of_le (by have := World.block_lt_of_cell? _ _ hw369_0; first | rwa [add_block] at this | exact this) GW376.out)) | (dsimp only; exact Nat.ne_of_lt (Nat.lt_of_lt_of_le (by have := World.block_lt_of_cell? _ _ hw369_0; first | rwa [add_block] at this | exact this) GW376.out))) _).trans (((cell_far (p := ⟨gb376, _, none⟩) (by first | exact Nat.ne_of_lt (Nat.lt_of_lt_of_le (by have := World.block_lt_of_cell? _ _ hw369_0; first | rwa [add_block] at this | exact this) GW376.out) | (rw [add_block]; exact Nat.ne_of_lt (Nat.lt_of_lt_of_le (by have := World.block_lt_of_cell? _ _ hw369_0; first | rwa [add_block] at this | exact this) GW376.out)) | (show (Addr.add _ _).block ≠ _; rw [add_block]; exact Nat.ne_of_lt (Nat.lt_of_lt_of_le (by have := World.block_lt_of_cell? _ _ hw369_0; first | rwa [add_block] at this | exact this) GW376.out)) | (dsimp only; exact Nat.ne_of_lt (Nat.lt_of_lt_of_le (by have := World.block_lt_of_cell? _ _ hw369_0; first | rwa [add_block] at this | exact this) GW376.out))) _).trans (hHeld.2.2.2.2.2.2.2))))))))⟩ (fun hHeld => ?_)
                clear hK K
                refine pure_ (i := 19) (N := some 19) (v := ?_) (a' := ?_) #[true, true, true, true, true, true, true, true, true, true, true, true, true, true, true, true, true, true, true, true, false] rfl rfl (any_of HT_.out (by kernel_rfl)) (fun _ _ _ h => h) (Or.inl ⟨by rfl, ?_⟩) ?_ ?_
                rotate_left
                ·intro w'
                 go_simp
                 with_reducible rfl
                rotate_left
                ·simp only [Act.put, List.setIfInBounds_toArray, List.set_cons_zero, List.set_cons_succ, i64_w, i32_w]
                 rfl
                refine pure_ (i := 20) (N := some 20) (v := ?_) (a' := ?_) #[true, true, true, true, true, true, true, true, true, true, true, true, true, true, true, true, true, true, true, true, true] rfl rfl (any_of HT_.out (by kernel_rfl)) (fun _ _ _ h => h) (Or.inl ⟨by rfl, ?_⟩) ?_ ?_
                rotate_left
                ·intro w'
                 go_simp
                 with_reducible rfl
                rotate_left
                ·simp only [Act.put, List.setIfInBounds_toArray, List.set_cons_zero, List.set_cons_succ, i64_w, i32_w]
                 rfl
                refine done_ (done_of HT_.out (by kernel_rfl)) ?_
                have hnb105 := NB376_335.out
                have hnc105 := NB335_376.out
                have hnb106 := NB376_343.out
                have hnc106 := NB343_376.out
                have hcz107_0 : w100.cell? ⟨gb376, 0, none⟩ = some (.int .i64 0) := (blk_cell BK376.out 0).trans rfl
                have hcz107_1 : w100.cell? ⟨gb376, 1, none⟩ = some (.int .i64 0) := (blk_cell BK376.out 1).trans rfl
                have hcz107_2 : w100.cell? ⟨gb376, 2, none⟩ = some (.int .i64 0) := (blk_cell BK376.out 2).trans rfl
                have hcz107_3 : w100.cell? ⟨gb376, 3, none⟩ = some (.int .i64 0) := (blk_cell BK376.out 3).trans rfl
                have hfz107_0 := blk_frozen BK376.out 0
                have hfz107_1 := blk_frozen BK376.out 1
                have hfz107_2 := blk_frozen BK376.out 2
                have hfz107_3 := blk_frozen BK376.out 3
                have hnb108 := NB335_343.out
                have hnc108 := NB343_335.out
                have hcz109_0 : w100.cell? ⟨gb335, 0, none⟩ = some (.int .i64 t332) := (blk_cell BK335.out 0).trans rfl
                have hcz109_1 : w100.cell? ⟨gb335, 1, none⟩ = some (.int .i64 t333) := (blk_cell BK335.out 1).trans rfl
                have hcz109_2 : w100.cell? ⟨gb335, 2, none⟩ = some (.int .i64 t334) := (blk_cell BK335.out 2).trans rfl
                have hfz109_0 := blk_frozen BK335.out 0
                have hfz109_1 := blk_frozen BK335.out 1
                have hfz109_2 := blk_frozen BK335.out 2
                have hcz110_0 : w100.cell? ⟨gb343, 0, none⟩ = some (.int .i64 x344000_2) := (blk_cell BK343.out 0).trans rfl
                have hcz110_1 : w100.cell? ⟨gb343, 1, none⟩ = some (.int .i64 x344001_2) := (blk_cell BK343.out 1).trans rfl
                have hcz110_2 : w100.cell? ⟨gb343, 2, none⟩ = some (.int .i64 x344002_2) := (blk_cell BK343.out 2).trans rfl
                have hcz110_3 : w100.cell? ⟨gb343, 3, none⟩ = some (.int .i64 x344003_2) := (blk_cell BK343.out 3).trans rfl
                have hfz110_0 := blk_frozen BK343.out 0
                have hfz110_1 := blk_frozen BK343.out 1
                have hfz110_2 := blk_frozen BK343.out 2
                have hfz110_3 := blk_frozen BK343.out 3
                try go_wp2
                go_roundg k2
                case measure => have := HJ6.out; have := HK2.out; omega
                case rel => exact ⟨(wrap64 (x13_2 + 1)), (t370), (t371), (t372), (t373), (by first | rfl | (simp; done) | (simp [*]; done)), H', ⟨by have := HJ6.out; have := HK2.out; omega⟩, ⟨by (with_reducible repeat (first | refine blk_drewN ?_ _ | refine blk_drew ?_ | refine blk_alloc ?_ _)); refine blk_far ?_ NB335_343.out _; (with_reducible repeat (first | refine blk_drewN ?_ _ | refine blk_drew ?_ | refine blk_alloc ?_ _)); refine blk_far ?_ NB335_343.out _; (with_reducible repeat (first | refine blk_drewN ?_ _ | refine blk_drew ?_ | refine blk_alloc ?_ _)); refine blk_far ?_ NB335_343.out _; (with_reducible repeat (first | refine blk_drewN ?_ _ | refine blk_drew ?_ | refine blk_alloc ?_ _)); refine blk_far ?_ NB335_343.out _; (with_reducible repeat (first | refine blk_drewN ?_ _ | refine blk_drew ?_ | refine blk_alloc ?_ _)); refine blk_far ?_ NB335_376.out _; (with_reducible repeat (first | refine blk_drewN ?_ _ | refine blk_drew ?_ | refine blk_alloc ?_ _)); refine blk_far ?_ NB335_376.out _; (with_reducible repeat (first | refine blk_drewN ?_ _ | refine blk_drew ?_ | refine blk_alloc ?_ _)); refine blk_far ?_ NB335_376.out _; (with_reducible repeat (first | refine blk_drewN ?_ _ | refine blk_drew ?_ | refine blk_alloc ?_ _)); refine blk_far ?_ NB335_376.out _; (with_reducible repeat (first | refine blk_drewN ?_ _ | refine blk_drew ?_ | refine blk_alloc ?_ _)); exact BK335.out⟩, ⟨by (with_reducible repeat (first | refine blk_drewN ?_ _ | refine blk_drew ?_ | refine blk_alloc ?_ _)); refine blk_put (cs := #[.int .i64 t370, .int .i64 t371, .int .i64 t372, .int .i64 x344003_2]) ?_ 3 _ rfl; (with_reducible repeat (first | refine blk_drewN ?_ _ | refine blk_drew ?_ | refine blk_alloc ?_ _)); refine blk_put (cs := #[.int .i64 t370, .int .i64 t371, .int .i64 x344002_2, .int .i64 x344003_2]) ?_ 2 _ rfl; (with_reducible repeat (first | refine blk_drewN ?_ _ | refine blk_drew ?_ | refine blk_alloc ?_ _)); refine blk_put (cs := #[.int .i64 t370, .int .i64 x344001_2, .int .i64 x344002_2, .int .i64 x344003_2]) ?_ 1 _ rfl; (with_reducible repeat (first | refine blk_drewN ?_ _ | refine blk_drew ?_ | refine blk_alloc ?_ _)); refine blk_put (cs := #[.int .i64 x344000_2, .int .i64 x344001_2, .int .i64 x344002_2, .int .i64 x344003_2]) ?_ 0 _ rfl; (with_reducible repeat (first | refine blk_drewN ?_ _ | refine blk_drew ?_ | refine blk_alloc ?_ _)); refine blk_far ?_ NB343_376.out _; (with_reducible repeat (first | refine blk_drewN ?_ _ | refine blk_drew ?_ | refine blk_alloc ?_ _)); refine blk_far ?_ NB343_376.out _; (with_reducible repeat (first | refine blk_drewN ?_ _ | refine blk_drew ?_ | refine blk_alloc ?_ _)); refine blk_far ?_ NB343_376.out _; (with_reducible repeat (first | refine blk_drewN ?_ _ | refine blk_drew ?_ | refine blk_alloc ?_ _)); refine blk_far ?_ NB343_376.out _; (with_reducible repeat (first | refine blk_drewN ?_ _ | refine blk_drew ?_ | refine blk_alloc ?_ _)); exact BK343.out⟩, ⟨by repeat (first | (with_reducible first | exact HB.out | apply below_alloc | apply pw_below_drewN | apply below_drew1 | refine below_set ?_ GE335.out | refine below_set ?_ GE343.out | refine below_set ?_ GE376.out) | exact HB.out)⟩⟩
          ·rw [if_neg c91] at H
           exact absurd H (by simp)
         ·rw [if_neg c89] at H
          exact absurd H (by simp)
        ·rw [if_neg c88] at H
         have c88b0 : decide (x13_2 < (l1.length : Int)) = false := decide_eq_false c88
         clear c88
         replace H := Option.bind_eq_some_iff.mp H
         obtain ⟨⟨t377, t378, t379, t380, t381, t382⟩, A1110, H⟩ := H
         replace H : (if t382 = 0 then (if t378 < 0 then (none) else (if t378 > t332 then (none) else (if t378 > (wrap64 (x344001_2 + 1)) then (none) else (if t378 < (wrap64 (x344001_2 - 1)) then (none) else (if t378 > (wrap64 ((wrap64 (t336 - x13_2)) - 1)) then (none) else (q_DoorCycles.l0 k2 l1 t336 t344 (wrap64 (x13_2 + 1)) t332 t333 t334 t377 t378 t379 t380)))))) else (none)) = some r := H
         have A111 := Aside0.mk A1110
         clear A1110
         by_cases c112 : t382 = 0
         ·rw [if_pos c112] at H
          have c112b0 : (t382 == 0) = true := beq_iff_eq.mpr c112
          have c112b1 : (t382 != 0) = false := bne_eq_false_iff_eq.mpr c112
          clear c112
          by_cases c113 : t378 < 0
          ·rw [if_pos c113] at H
           exact absurd H (by simp)
          ·rw [if_neg c113] at H
           have c113b0 : decide (t378 < 0) = false := decide_eq_false c113
           clear c113
           by_cases c114 : t378 > t332
           ·rw [if_pos c114] at H
            exact absurd H (by simp)
           ·rw [if_neg c114] at H
            have c114b0 : decide (t332 < t378) = false := decide_eq_false c114
            clear c114
            by_cases c115 : t378 > (wrap64 (x344001_2 + 1))
            ·rw [if_pos c115] at H
             exact absurd H (by simp)
            ·rw [if_neg c115] at H
             have c115b0 : decide ((wrap64 (x344001_2 + 1)) < t378) = false := decide_eq_false c115
             clear c115
             by_cases c116 : t378 < (wrap64 (x344001_2 - 1))
             ·rw [if_pos c116] at H
              exact absurd H (by simp)
             ·rw [if_neg c116] at H
              have c116b0 : decide (t378 < (wrap64 (x344001_2 - 1))) = false := decide_eq_false c116
              clear c116
              by_cases c117 : t378 > (wrap64 ((wrap64 (t336 - x13_2)) - 1))
              ·rw [if_pos c117] at H
               exact absurd H (by simp)
              ·rw [if_neg c117] at H
               have c117b0 : decide ((wrap64 ((wrap64 (t336 - x13_2)) - 1)) < t378) = false := decide_eq_false c117
               clear c117
               have H' := Aside0.mk H
               clear H
               try go_wp2
               have n0_ := Aside0.mk (blk_drew BK335.out)
               have n1_ := Aside0.mk (blk_drew BK343.out)
               have n2_ := Aside0.mk (below_drew1 HB.out)
               clear BK335
               clear BK343
               clear HB
               have BK335 := n0_
               have BK343 := n1_
               have HB := n2_
               clear n0_ n1_ n2_
               refine start_ (n := 21) (S := fun w' => w'.cell? ⟨gb343, 0, none⟩ = some (.int .i64 x344000_2) ∧ w'.cell? ⟨gb343, 1, none⟩ = some (.int .i64 x344001_2) ∧ w'.cell? ⟨gb343, 2, none⟩ = some (.int .i64 x344002_2) ∧ w'.cell? ⟨gb343, 3, none⟩ = some (.int .i64 x344003_2) ∧ w'.cell? ⟨gb335, 0, none⟩ = some (.int .i64 t332) ∧ w'.cell? ⟨gb335, 1, none⟩ = some (.int .i64 t333) ∧ w'.cell? ⟨gb335, 2, none⟩ = some (.int .i64 t334)) (ds := []) #[false, false, false, false, false, false, false, false, false, false, false, false, false, false, false, false, false, false, false, false, false] (by kernel_rfl) rfl rfl ⟨(blk_cell BK343.out 0).trans rfl, (blk_cell BK343.out 1).trans rfl, (blk_cell BK343.out 2).trans rfl, (blk_cell BK343.out 3).trans rfl, (blk_cell BK335.out 0).trans rfl, (blk_cell BK335.out 1).trans rfl, (blk_cell BK335.out 2).trans rfl⟩ (fun hHeld => ?_); refine with_tabW q_DoorCycles.tab18 q_DoorCycles.bits18 (fun HT_ HW_ => ?_)
               generalize wr.drew = w118 at BK335 BK343 HB hHeld ⊢
               refine pure_ (i := 2) (N := some 98) (v := ?_) (a' := ?_) #[false, false, true, false, false, false, false, false, false, false, false, false, false, false, false, false, false, false, false, false, false] rfl rfl (any_of HT_.out (by kernel_rfl)) (fun _ _ _ h => h) (Or.inl ⟨by rfl, ?_⟩) ?_ ?_
               rotate_left
               ·intro w'
                go_simp
                with_reducible rfl
               rotate_left
               ·simp only [Act.put, List.setIfInBounds_toArray, List.set_cons_zero, List.set_cons_succ, i64_w, i32_w]
                rfl
               refine pure_ (i := 3) (N := some 99) (v := ?_) (a' := ?_) #[false, false, true, true, false, false, false, false, false, false, false, false, false, false, false, false, false, false, false, false, false] rfl rfl (any_of HT_.out (by kernel_rfl)) (fun _ _ _ h => h) (Or.inl ⟨by rfl, ?_⟩) ?_ ?_
               rotate_left
               ·intro w'
                go_simp
                with_reducible rfl
               rotate_left
               ·simp only [Act.put, List.setIfInBounds_toArray, List.set_cons_zero, List.set_cons_succ, i64_w, i32_w]
                rfl
               refine pure_ (i := 4) (N := some 100) (v := ?_) (a' := ?_) #[false, false, true, true, true, false, false, false, false, false, false, false, false, false, false, false, false, false, false, false, false] rfl rfl (any_of HT_.out (by kernel_rfl)) (fun _ _ _ h => h) (Or.inl ⟨by rfl, ?_⟩) ?_ ?_
               rotate_left
               ·intro w'
                go_simp
                with_reducible rfl
               rotate_left
               ·simp only [Act.put, List.setIfInBounds_toArray, List.set_cons_zero, List.set_cons_succ, i64_w, i32_w]
                rfl
               refine pure_ (i := 5) (N := some 101) (v := ?_) (a' := ?_) #[false, false, true, true, true, true, false, false, false, false, false, false, false, false, false, false, false, false, false, false, false] rfl rfl (any_of HT_.out (by kernel_rfl)) (fun _ _ _ h => h) (Or.inl ⟨by rfl, ?_⟩) ?_ ?_
               rotate_left
               ·intro w'
                go_simp
                with_reducible rfl
               rotate_left
               ·simp only [Act.put, List.setIfInBounds_toArray, List.set_cons_zero, List.set_cons_succ, i64_w, i32_w]
                rfl
               refine pure_ (i := 6) (N := some 102) (v := ?_) (a' := ?_) #[false, false, true, true, true, true, true, false, false, false, false, false, false, false, false, false, false, false, false, false, false] rfl rfl (any_of HT_.out (by kernel_rfl)) (fun _ _ _ h => h) (Or.inl ⟨by rfl, ?_⟩) ?_ ?_
               rotate_left
               ·intro w'
                go_simp
                with_reducible rfl
               rotate_left
               ·simp only [Act.put, List.setIfInBounds_toArray, List.set_cons_zero, List.set_cons_succ, i64_w, i32_w]
                rfl
               refine pure_ (i := 7) (N := some 103) (v := undef) (a' := ?_) #[false, false, true, true, true, true, true, true, false, false, false, false, false, false, false, false, false, false, false, false, false] rfl rfl (any_of HT_.out (by kernel_rfl)) (fun _ _ _ h => h) (Or.inr ⟨by rfl, rfl⟩) ?_ ?_
               rotate_left
               ·simp only [Act.put, List.setIfInBounds_toArray, List.set_cons_zero, List.set_cons_succ, i64_w, i32_w]
                rfl
               refine pure_ (i := 8) (N := some 104) (v := undef) (a' := ?_) #[false, false, true, true, true, true, true, true, true, false, false, false, false, false, false, false, false, false, false, false, false] rfl rfl (any_of HT_.out (by kernel_rfl)) (fun _ _ _ h => h) (Or.inr ⟨by rfl, rfl⟩) ?_ ?_
               rotate_left
               ·simp only [Act.put, List.setIfInBounds_toArray, List.set_cons_zero, List.set_cons_succ, i64_w, i32_w]
                rfl
               refine pure_ (i := 9) (N := some 105) (v := undef) (a' := ?_) #[false, false, true, true, true, true, true, true, true, true, false, false, false, false, false, false, false, false, false, false, false] rfl rfl (any_of HT_.out (by kernel_rfl)) (fun _ _ _ h => h) (Or.inr ⟨by rfl, rfl⟩) ?_ ?_
               rotate_left
               ·simp only [Act.put, List.setIfInBounds_toArray, List.set_cons_zero, List.set_cons_succ, i64_w, i32_w]
                rfl
               refine pure_ (i := 10) (N := some 106) (v := undef) (a' := ?_) #[false, false, true, true, true, true, true, true, true, true, true, false, false, false, false, false, false, false, false, false, false] rfl rfl (any_of HT_.out (by kernel_rfl)) (fun _ _ _ h => h) (Or.inr ⟨by rfl, rfl⟩) ?_ ?_
               rotate_left
               ·simp only [Act.put, List.setIfInBounds_toArray, List.set_cons_zero, List.set_cons_succ, i64_w, i32_w]
                rfl
               refine pure_ (i := 11) (N := some 107) (v := ?_) (a' := ?_) #[false, false, true, true, true, true, true, true, true, true, true, true, false, false, false, false, false, false, false, false, false] rfl rfl (any_of HT_.out (by kernel_rfl)) (fun _ _ _ h => h) (Or.inl ⟨by rfl, ?_⟩) ?_ ?_
               rotate_left
               ·intro w'
                go_simp
                with_reducible rfl
               rotate_left
               ·simp only [Act.put, List.setIfInBounds_toArray, List.set_cons_zero, List.set_cons_succ, i64_w, i32_w]
                rfl
               refine take_ (i := 0) (N := some 96) (v := ?_) (a' := ?_) #[true, false, true, true, true, true, true, true, true, true, true, true, false, false, false, false, false, false, false, false, false] rfl rfl (take_ofW HT_.out HW_.out (by kernel_rfl)) (fun _ _ _ h => h) (Or.inl ⟨by rfl, ?_⟩) hHeld ?_ ?_
               rotate_left
               ·rintro w' ⟨s0, s1, s2, s3, s4, s5, s6⟩
                go_simp
                with_reducible rfl
               rotate_left
               ·simp only [Act.put, List.setIfInBounds_toArray, List.set_cons_zero, List.set_cons_succ, i64_w, i32_w]
                rfl
               refine take_ (i := 1) (N := some 97) (v := ?_) (a' := ?_) #[true, true, true, true, true, true, true, true, true, true, true, true, false, false, false, false, false, false, false, false, false] rfl rfl (take_ofW HT_.out HW_.out (by kernel_rfl)) (fun _ _ _ h => h) (Or.inl ⟨by rfl, ?_⟩) hHeld ?_ ?_
               rotate_left
               ·rintro w' ⟨s0, s1, s2, s3, s4, s5, s6⟩
                go_simp
                with_reducible rfl
               rotate_left
               ·simp only [Act.put, List.setIfInBounds_toArray, List.set_cons_zero, List.set_cons_succ, i64_w, i32_w]
                rfl
               refine join_ (σ := Nat) 3 #[true, true, true, true, true, true, true, true, true, true, true, true, true, true, true, true, true, true, false, false, false] (fun s_ => [(108, .tuple #[.agg #[.int .i64 t377, .int .i64 t378, .int .i64 t379, .int .i64 t380], .bool t381, .int .i64 t382]), (18, .pointer (some ⟨s_, 0, none⟩)), (95, .tuple #[.agg #[.int .i64 t377, .int .i64 t378, .int .i64 t379, .int .i64 t380], .bool t381, .int .i64 t382]), (109, .agg #[.int .i64 t377, .int .i64 t378, .int .i64 t379, .int .i64 t380]), (110, .bool t381), (111, .int .i64 t382)]) (fun s_ w' => (w'.cell? ⟨gb343, 0, none⟩ = some (.int .i64 x344000_2) ∧ w'.cell? ⟨gb343, 1, none⟩ = some (.int .i64 x344001_2) ∧ w'.cell? ⟨gb343, 2, none⟩ = some (.int .i64 x344002_2) ∧ w'.cell? ⟨gb343, 3, none⟩ = some (.int .i64 x344003_2) ∧ w'.cell? ⟨gb335, 0, none⟩ = some (.int .i64 t332) ∧ w'.cell? ⟨gb335, 1, none⟩ = some (.int .i64 t333) ∧ w'.cell? ⟨gb335, 2, none⟩ = some (.int .i64 t334)) ∧ (w'.heap[gb335]? = some (.cells #[.int .i64 t332, .int .i64 t333, .int .i64 t334] 25 (0, 0))) ∧ (w'.heap[gb343]? = some (.cells #[.int .i64 x344000_2, .int .i64 x344001_2, .int .i64 x344002_2, .int .i64 x344003_2] 23 (0, 0))) ∧ (w'.heap[s_]? = some (.cells #[.int .i64 0, .int .i64 0, .int .i64 0, .int .i64 0] 23 (0, 0))) ∧ (w.heap.size ≤ s_) ∧ (w.heap.size ≤ s_) ∧ (gb335 ≠ s_) ∧ (s_ ≠ gb335) ∧ (gb343 ≠ s_) ∧ (s_ ≠ gb343) ∧ (Below w.heap.size w w')) ?_ ?_
               rotate_left
               ·intro hCont
                refine two_ (i := 12) (j := 17) (Ni := some 108) (Nj := some 18) #[true, true, true, true, true, true, true, true, true, true, true, true, true, false, false, false, false, false, false, false, false] #[true, true, true, true, true, true, true, true, true, true, true, true, false, false, false, false, false, true, false, false, false] rfl rfl rfl rfl (two_of HT_.out (by kernel_rfl)) (by decide) (by decide) (fun K hK => ?_) (fun K hK => ?_)
                ·skip
                 refine goes_ Try.func9 (by kernel_rfl) rfl #[.agg #[.int .i64 x344000_2, .int .i64 x344001_2, .int .i64 x344002_2, .int .i64 x344003_2], .agg #[.int .i64 t332, .int .i64 t333, .int .i64 t334], .bool false] (by rfl) rfl rfl (by (try simp only [List.map_toArray, List.map_cons, List.map_nil]); first | done | rfl | (simp only [List.length_drop, List.length_take]; rfl)) ?_
                 with_reducible refine (door_Step.calls k2 x344000_2 x344001_2 x344002_2 x344003_2 t332 t333 t334 false t377 t378 t379 t380 t381 t382 _ A111.out).mono ?_
                 rintro e w119 ⟨rfl, hb⟩
                 refine ⟨_, rfl, ?_⟩
                 have n0_ := Aside0.mk (blk_below (g := gb335) (o := .cells #[.int .i64 t332, .int .i64 t333, .int .i64 t334] 25 (0, 0)) (by (with_reducible repeat (first | refine blk_drewN ?_ _ | refine blk_drew ?_ | refine blk_alloc ?_ _)); exact BK335.out) hb)
                 have n1_ := Aside0.mk (blk_below (g := gb343) (o := .cells #[.int .i64 x344000_2, .int .i64 x344001_2, .int .i64 x344002_2, .int .i64 x344003_2] 23 (0, 0)) (by (with_reducible repeat (first | refine blk_drewN ?_ _ | refine blk_drew ?_ | refine blk_alloc ?_ _)); exact BK343.out) hb)
                 have n2_ := Aside0.mk (below_step (by repeat (first | (with_reducible first | exact HB.out | apply below_alloc | apply pw_below_drewN | apply below_drew1 | refine below_set ?_ GE335.out | refine below_set ?_ GE343.out) | exact HB.out)) hb)
                 clear BK335
                 clear BK343
                 clear HB
                 have BK335 := n0_
                 have BK343 := n1_
                 have HB := n2_
                 clear n0_ n1_ n2_
                 (try clear hb)
                 (try clear hb2)
                 (try clear hk)
                 (try clear hi)
                 refine hK.out _ _ ⟨(blk_cell BK343.out 0).trans rfl, (blk_cell BK343.out 1).trans rfl, (blk_cell BK343.out 2).trans rfl, (blk_cell BK343.out 3).trans rfl, (blk_cell BK335.out 0).trans rfl, (blk_cell BK335.out 1).trans rfl, (blk_cell BK335.out 2).trans rfl⟩ (fun hHeld => ?_)
                 clear hK K
                 refine norm_ (a' := ?_) ?_ ?_
                 rotate_left
                 ·show Act.put _ (some 108) _ = _
                  simp only [Act.put, List.setIfInBounds_toArray, List.set_cons_zero, List.set_cons_succ, i64_w, i32_w]
                  rfl
                 refine pure_ (i := 13) (N := some 95) (v := ?_) (a' := ?_) #[true, true, true, true, true, true, true, true, true, true, true, true, true, true, false, false, false, false, false, false, false] rfl rfl (any_of HT_.out (by kernel_rfl)) (fun _ _ _ h => h) (Or.inl ⟨by rfl, ?_⟩) ?_ ?_
                 rotate_left
                 ·intro w'
                  go_simp
                  with_reducible rfl
                 rotate_left
                 ·simp only [Act.put, List.setIfInBounds_toArray, List.set_cons_zero, List.set_cons_succ, i64_w, i32_w]
                  rfl
                 refine pure_ (i := 14) (N := some 109) (v := ?_) (a' := ?_) #[true, true, true, true, true, true, true, true, true, true, true, true, true, true, true, false, false, false, false, false, false] rfl rfl (any_of HT_.out (by kernel_rfl)) (fun _ _ _ h => h) (Or.inl ⟨by rfl, ?_⟩) ?_ ?_
                 rotate_left
                 ·intro w'
                  go_simp
                  with_reducible rfl
                 rotate_left
                 ·simp only [Act.put, List.setIfInBounds_toArray, List.set_cons_zero, List.set_cons_succ, i64_w, i32_w]
                  rfl
                 refine pure_ (i := 15) (N := some 110) (v := ?_) (a' := ?_) #[true, true, true, true, true, true, true, true, true, true, true, true, true, true, true, true, false, false, false, false, false] rfl rfl (any_of HT_.out (by kernel_rfl)) (fun _ _ _ h => h) (Or.inl ⟨by rfl, ?_⟩) ?_ ?_
                 rotate_left
                 ·intro w'
                  go_simp
                  with_reducible rfl
                 rotate_left
                 ·simp only [Act.put, List.setIfInBounds_toArray, List.set_cons_zero, List.set_cons_succ, i64_w, i32_w]
                  rfl
                 refine pure_ (i := 16) (N := some 111) (v := ?_) (a' := ?_) #[true, true, true, true, true, true, true, true, true, true, true, true, true, true, true, true, true, false, false, false, false] rfl rfl (any_of HT_.out (by kernel_rfl)) (fun _ _ _ h => h) (Or.inl ⟨by rfl, ?_⟩) ?_ ?_
                 rotate_left
                 ·intro w'
                  go_simp
                  with_reducible rfl
                 rotate_left
                 ·simp only [Act.put, List.setIfInBounds_toArray, List.set_cons_zero, List.set_cons_succ, i64_w, i32_w]
                  rfl
                 refine one_ (i := 17) (N := some 18) #[true, true, true, true, true, true, true, true, true, true, true, true, true, true, true, true, true, true, false, false, false] rfl rfl (one_of HT_.out (by kernel_rfl)) (by decide) (fun K hK => ?_)
                 refine box_step ?hg (N := 18) ?hd (cs := #[.int .i64 0, .int .i64 0, .int .i64 0, .int .i64 0]) (t := 23) ?hr ?_; (case hd => rfl); (case hg => rfl); (case hr => first | (go_simp; done) | (go_simp; rfl))
                 intro gb383 hg w120 hbox hb
                 have n0_ := Aside0.mk (blk_below (g := gb335) (o := .cells #[.int .i64 t332, .int .i64 t333, .int .i64 t334] 25 (0, 0)) (by (with_reducible repeat (first | refine blk_drewN ?_ _ | refine blk_drew ?_ | refine blk_alloc ?_ _)); exact BK335.out) hb)
                 have n1_ := Aside0.mk (blk_below (g := gb343) (o := .cells #[.int .i64 x344000_2, .int .i64 x344001_2, .int .i64 x344002_2, .int .i64 x344003_2] 23 (0, 0)) (by (with_reducible repeat (first | refine blk_drewN ?_ _ | refine blk_drew ?_ | refine blk_alloc ?_ _)); exact BK343.out) hb)
                 have n2_ := Aside0.mk (below_step (by repeat (first | (with_reducible first | exact HB.out | apply below_alloc | apply pw_below_drewN | apply below_drew1 | refine below_set ?_ GE335.out | refine below_set ?_ GE343.out) | exact HB.out)) hb)
                 have n3_ := Aside0.mk (hbox)
                 have n4_ := Aside0.mk ((by rw [hg]; exact (below_size (by repeat (first | (with_reducible first | exact HB.out | apply below_alloc | apply pw_below_drewN | apply below_drew1 | refine below_set ?_ GE335.out | refine below_set ?_ GE343.out) | exact HB.out))) : w.heap.size ≤ gb383))
                 have n5_ := Aside0.mk ((by rw [hg]; exact (below_size (by repeat (first | (with_reducible first | exact HB.out | apply below_alloc | apply pw_below_drewN | apply below_drew1 | refine below_set ?_ GE335.out | refine below_set ?_ GE343.out) | exact HB.out))) : w.heap.size ≤ gb383))
                 have n6_ := Aside0.mk ((by rw [hg]; exact Nat.ne_of_lt (blk_lt (g := gb335) (o := .cells #[.int .i64 t332, .int .i64 t333, .int .i64 t334] 25 (0, 0)) (by (with_reducible repeat (first | refine blk_drewN ?_ _ | refine blk_drew ?_ | refine blk_alloc ?_ _)); exact BK335.out)) : gb335 ≠ gb383))
                 have n7_ := Aside0.mk ((by rw [hg]; exact Nat.ne_of_gt (blk_lt (g := gb335) (o := .cells #[.int .i64 t332, .int .i64 t333, .int .i64 t334] 25 (0, 0)) (by (with_reducible repeat (first | refine blk_drewN ?_ _ | refine blk_drew ?_ | refine blk_alloc ?_ _)); exact BK335.out)) : gb383 ≠ gb335))
                 have n8_ := Aside0.mk ((by rw [hg]; exact Nat.ne_of_lt (blk_lt (g := gb343) (o := .cells #[.int .i64 x344000_2, .int .i64 x344001_2, .int .i64 x344002_2, .int .i64 x344003_2] 23 (0, 0)) (by (with_reducible repeat (first | refine blk_drewN ?_ _ | refine blk_drew ?_ | refine blk_alloc ?_ _)); exact BK343.out)) : gb343 ≠ gb383))
                 have n9_ := Aside0.mk ((by rw [hg]; exact Nat.ne_of_gt (blk_lt (g := gb343) (o := .cells #[.int .i64 x344000_2, .int .i64 x344001_2, .int .i64 x344002_2, .int .i64 x344003_2] 23 (0, 0)) (by (with_reducible repeat (first | refine blk_drewN ?_ _ | refine blk_drew ?_ | refine blk_alloc ?_ _)); exact BK343.out)) : gb383 ≠ gb343))
                 clear BK335
                 clear BK343
                 clear HB
                 have BK335 := n0_
                 have BK343 := n1_
                 have HB := n2_
                 have BK383 := n3_
                 have GW383 := n4_
                 have GE383 := n5_
                 have NB335_383 := n6_
                 have NB383_335 := n7_
                 have NB343_383 := n8_
                 have NB383_343 := n9_
                 clear n0_ n1_ n2_ n3_ n4_ n5_ n6_ n7_ n8_ n9_
                 clear hb hbox hg
                 refine hK.out _ _ ⟨(blk_cell BK343.out 0).trans rfl, (blk_cell BK343.out 1).trans rfl, (blk_cell BK343.out 2).trans rfl, (blk_cell BK343.out 3).trans rfl, (blk_cell BK335.out 0).trans rfl, (blk_cell BK335.out 1).trans rfl, (blk_cell BK335.out 2).trans rfl⟩ (fun hHeld => ?_)
                 clear hK K
                 refine norm_ (a' := ?_) ?_ ?_
                 rotate_left
                 ·show Act.put _ (some 18) _ = _
                  simp only [Act.put, List.setIfInBounds_toArray, List.set_cons_zero, List.set_cons_succ, i64_w, i32_w]
                  rfl
                 exact norm_ (by simp only [putAll, Act.put, List.setIfInBounds_toArray, List.set_cons_zero, List.set_cons_succ]) (hCont (gb383) _ ⟨hHeld, (by (with_reducible repeat (first | refine blk_drewN ?_ _ | refine blk_drew ?_ | refine blk_alloc ?_ _)); exact BK335.out), (by (with_reducible repeat (first | refine blk_drewN ?_ _ | refine blk_drew ?_ | refine blk_alloc ?_ _)); exact BK343.out), (by (with_reducible repeat (first | refine blk_drewN ?_ _ | refine blk_drew ?_ | refine blk_alloc ?_ _)); exact BK383.out), GW383.out, GE383.out, NB335_383.out, NB383_335.out, NB343_383.out, NB383_343.out, (by repeat (first | (with_reducible first | exact HB.out | apply below_alloc | apply pw_below_drewN | apply below_drew1 | refine below_set ?_ GE335.out | refine below_set ?_ GE343.out | refine below_set ?_ GE383.out) | exact HB.out))⟩)
                ·skip
                 refine box_step ?hg (N := 18) ?hd (cs := #[.int .i64 0, .int .i64 0, .int .i64 0, .int .i64 0]) (t := 23) ?hr ?_; (case hd => rfl); (case hg => rfl); (case hr => first | (go_simp; done) | (go_simp; rfl))
                 intro gb383 hg w119 hbox hb
                 have n0_ := Aside0.mk (blk_below (g := gb335) (o := .cells #[.int .i64 t332, .int .i64 t333, .int .i64 t334] 25 (0, 0)) (by (with_reducible repeat (first | refine blk_drewN ?_ _ | refine blk_drew ?_ | refine blk_alloc ?_ _)); exact BK335.out) hb)
                 have n1_ := Aside0.mk (blk_below (g := gb343) (o := .cells #[.int .i64 x344000_2, .int .i64 x344001_2, .int .i64 x344002_2, .int .i64 x344003_2] 23 (0, 0)) (by (with_reducible repeat (first | refine blk_drewN ?_ _ | refine blk_drew ?_ | refine blk_alloc ?_ _)); exact BK343.out) hb)
                 have n2_ := Aside0.mk (below_step (by repeat (first | (with_reducible first | exact HB.out | apply below_alloc | apply pw_below_drewN | apply below_drew1 | refine below_set ?_ GE335.out | refine below_set ?_ GE343.out) | exact HB.out)) hb)
                 have n3_ := Aside0.mk (hbox)
                 have n4_ := Aside0.mk ((by rw [hg]; exact (below_size (by repeat (first | (with_reducible first | exact HB.out | apply below_alloc | apply pw_below_drewN | apply below_drew1 | refine below_set ?_ GE335.out | refine below_set ?_ GE343.out) | exact HB.out))) : w.heap.size ≤ gb383))
                 have n5_ := Aside0.mk ((by rw [hg]; exact (below_size (by repeat (first | (with_reducible first | exact HB.out | apply below_alloc | apply pw_below_drewN | apply below_drew1 | refine below_set ?_ GE335.out | refine below_set ?_ GE343.out) | exact HB.out))) : w.heap.size ≤ gb383))
                 have n6_ := Aside0.mk ((by rw [hg]; exact Nat.ne_of_lt (blk_lt (g := gb335) (o := .cells #[.int .i64 t332, .int .i64 t333, .int .i64 t334] 25 (0, 0)) (by (with_reducible repeat (first | refine blk_drewN ?_ _ | refine blk_drew ?_ | refine blk_alloc ?_ _)); exact BK335.out)) : gb335 ≠ gb383))
                 have n7_ := Aside0.mk ((by rw [hg]; exact Nat.ne_of_gt (blk_lt (g := gb335) (o := .cells #[.int .i64 t332, .int .i64 t333, .int .i64 t334] 25 (0, 0)) (by (with_reducible repeat (first | refine blk_drewN ?_ _ | refine blk_drew ?_ | refine blk_alloc ?_ _)); exact BK335.out)) : gb383 ≠ gb335))
                 have n8_ := Aside0.mk ((by rw [hg]; exact Nat.ne_of_lt (blk_lt (g := gb343) (o := .cells #[.int .i64 x344000_2, .int .i64 x344001_2, .int .i64 x344002_2, .int .i64 x344003_2] 23 (0, 0)) (by (with_reducible repeat (first | refine blk_drewN ?_ _ | refine blk_drew ?_ | refine blk_alloc ?_ _)); exact BK343.out)) : gb343 ≠ gb383))
                 have n9_ := Aside0.mk ((by rw [hg]; exact Nat.ne_of_gt (blk_lt (g := gb343) (o := .cells #[.int .i64 x344000_2, .int .i64 x344001_2, .int .i64 x344002_2, .int .i64 x344003_2] 23 (0, 0)) (by (with_reducible repeat (first | refine blk_drewN ?_ _ | refine blk_drew ?_ | refine blk_alloc ?_ _)); exact BK343.out)) : gb383 ≠ gb343))
                 clear BK335
                 clear BK343
                 clear HB
                 have BK335 := n0_
                 have BK343 := n1_
                 have HB := n2_
                 have BK383 := n3_
                 have GW383 := n4_
                 have GE383 := n5_
                 have NB335_383 := n6_
                 have NB383_335 := n7_
                 have NB343_383 := n8_
                 have NB383_343 := n9_
                 clear n0_ n1_ n2_ n3_ n4_ n5_ n6_ n7_ n8_ n9_
                 clear hb hbox hg
                 refine hK.out _ _ ⟨(blk_cell BK343.out 0).trans rfl, (blk_cell BK343.out 1).trans rfl, (blk_cell BK343.out 2).trans rfl, (blk_cell BK343.out 3).trans rfl, (blk_cell BK335.out 0).trans rfl, (blk_cell BK335.out 1).trans rfl, (blk_cell BK335.out 2).trans rfl⟩ (fun hHeld => ?_)
                 clear hK K
                 refine norm_ (a' := ?_) ?_ ?_
                 rotate_left
                 ·show Act.put _ (some 18) _ = _
                  simp only [Act.put, List.setIfInBounds_toArray, List.set_cons_zero, List.set_cons_succ, i64_w, i32_w]
                  rfl
                 refine one_ (i := 12) (N := some 108) #[true, true, true, true, true, true, true, true, true, true, true, true, true, false, false, false, false, true, false, false, false] rfl rfl (one_of HT_.out (by kernel_rfl)) (by decide) (fun K hK => ?_)
                 refine goes_ Try.func9 (by kernel_rfl) rfl #[.agg #[.int .i64 x344000_2, .int .i64 x344001_2, .int .i64 x344002_2, .int .i64 x344003_2], .agg #[.int .i64 t332, .int .i64 t333, .int .i64 t334], .bool false] (by rfl) rfl rfl (by (try simp only [List.map_toArray, List.map_cons, List.map_nil]); first | done | rfl | (simp only [List.length_drop, List.length_take]; rfl)) ?_
                 with_reducible refine (door_Step.calls k2 x344000_2 x344001_2 x344002_2 x344003_2 t332 t333 t334 false t377 t378 t379 t380 t381 t382 _ A111.out).mono ?_
                 rintro e w120 ⟨rfl, hb⟩
                 refine ⟨_, rfl, ?_⟩
                 have n0_ := Aside0.mk (blk_below (g := gb335) (o := .cells #[.int .i64 t332, .int .i64 t333, .int .i64 t334] 25 (0, 0)) (by (with_reducible repeat (first | refine blk_drewN ?_ _ | refine blk_drew ?_ | refine blk_alloc ?_ _)); exact BK335.out) hb)
                 have n1_ := Aside0.mk (blk_below (g := gb343) (o := .cells #[.int .i64 x344000_2, .int .i64 x344001_2, .int .i64 x344002_2, .int .i64 x344003_2] 23 (0, 0)) (by (with_reducible repeat (first | refine blk_drewN ?_ _ | refine blk_drew ?_ | refine blk_alloc ?_ _)); exact BK343.out) hb)
                 have n2_ := Aside0.mk (blk_below (g := gb383) (o := .cells #[.int .i64 0, .int .i64 0, .int .i64 0, .int .i64 0] 23 (0, 0)) (by (with_reducible repeat (first | refine blk_drewN ?_ _ | refine blk_drew ?_ | refine blk_alloc ?_ _)); exact BK383.out) hb)
                 have n3_ := Aside0.mk (below_step (by repeat (first | (with_reducible first | exact HB.out | apply below_alloc | apply pw_below_drewN | apply below_drew1 | refine below_set ?_ GE335.out | refine below_set ?_ GE343.out | refine below_set ?_ GE383.out) | exact HB.out)) hb)
                 clear BK335
                 clear BK343
                 clear BK383
                 clear HB
                 have BK335 := n0_
                 have BK343 := n1_
                 have BK383 := n2_
                 have HB := n3_
                 clear n0_ n1_ n2_ n3_
                 (try clear hb)
                 (try clear hb2)
                 (try clear hk)
                 (try clear hi)
                 refine hK.out _ _ ⟨(blk_cell BK343.out 0).trans rfl, (blk_cell BK343.out 1).trans rfl, (blk_cell BK343.out 2).trans rfl, (blk_cell BK343.out 3).trans rfl, (blk_cell BK335.out 0).trans rfl, (blk_cell BK335.out 1).trans rfl, (blk_cell BK335.out 2).trans rfl⟩ (fun hHeld => ?_)
                 clear hK K
                 refine norm_ (a' := ?_) ?_ ?_
                 rotate_left
                 ·show Act.put _ (some 108) _ = _
                  simp only [Act.put, List.setIfInBounds_toArray, List.set_cons_zero, List.set_cons_succ, i64_w, i32_w]
                  rfl
                 refine pure_ (i := 13) (N := some 95) (v := ?_) (a' := ?_) #[true, true, true, true, true, true, true, true, true, true, true, true, true, true, false, false, false, true, false, false, false] rfl rfl (any_of HT_.out (by kernel_rfl)) (fun _ _ _ h => h) (Or.inl ⟨by rfl, ?_⟩) ?_ ?_
                 rotate_left
                 ·intro w'
                  go_simp
                  with_reducible rfl
                 rotate_left
                 ·simp only [Act.put, List.setIfInBounds_toArray, List.set_cons_zero, List.set_cons_succ, i64_w, i32_w]
                  rfl
                 refine pure_ (i := 14) (N := some 109) (v := ?_) (a' := ?_) #[true, true, true, true, true, true, true, true, true, true, true, true, true, true, true, false, false, true, false, false, false] rfl rfl (any_of HT_.out (by kernel_rfl)) (fun _ _ _ h => h) (Or.inl ⟨by rfl, ?_⟩) ?_ ?_
                 rotate_left
                 ·intro w'
                  go_simp
                  with_reducible rfl
                 rotate_left
                 ·simp only [Act.put, List.setIfInBounds_toArray, List.set_cons_zero, List.set_cons_succ, i64_w, i32_w]
                  rfl
                 refine pure_ (i := 15) (N := some 110) (v := ?_) (a' := ?_) #[true, true, true, true, true, true, true, true, true, true, true, true, true, true, true, true, false, true, false, false, false] rfl rfl (any_of HT_.out (by kernel_rfl)) (fun _ _ _ h => h) (Or.inl ⟨by rfl, ?_⟩) ?_ ?_
                 rotate_left
                 ·intro w'
                  go_simp
                  with_reducible rfl
                 rotate_left
                 ·simp only [Act.put, List.setIfInBounds_toArray, List.set_cons_zero, List.set_cons_succ, i64_w, i32_w]
                  rfl
                 refine pure_ (i := 16) (N := some 111) (v := ?_) (a' := ?_) #[true, true, true, true, true, true, true, true, true, true, true, true, true, true, true, true, true, true, false, false, false] rfl rfl (any_of HT_.out (by kernel_rfl)) (fun _ _ _ h => h) (Or.inl ⟨by rfl, ?_⟩) ?_ ?_
                 rotate_left
                 ·intro w'
                  go_simp
                  with_reducible rfl
                 rotate_left
                 ·simp only [Act.put, List.setIfInBounds_toArray, List.set_cons_zero, List.set_cons_succ, i64_w, i32_w]
                  rfl
                 exact norm_ (by simp only [putAll, Act.put, List.setIfInBounds_toArray, List.set_cons_zero, List.set_cons_succ]) (hCont (gb383) _ ⟨hHeld, (by (with_reducible repeat (first | refine blk_drewN ?_ _ | refine blk_drew ?_ | refine blk_alloc ?_ _)); exact BK335.out), (by (with_reducible repeat (first | refine blk_drewN ?_ _ | refine blk_drew ?_ | refine blk_alloc ?_ _)); exact BK343.out), (by (with_reducible repeat (first | refine blk_drewN ?_ _ | refine blk_drew ?_ | refine blk_alloc ?_ _)); exact BK383.out), GW383.out, GE383.out, NB335_383.out, NB383_335.out, NB343_383.out, NB383_343.out, (by repeat (first | (with_reducible first | exact HB.out | apply below_alloc | apply pw_below_drewN | apply below_drew1 | refine below_set ?_ GE335.out | refine below_set ?_ GE343.out | refine below_set ?_ GE383.out) | exact HB.out))⟩)
               rintro gb383 w121 ⟨hS_, h0_, h1_, h2_, h3_, h4_, h5_, h6_, h7_, h8_, h9_⟩
               have n0_ : Aside0 (w121.heap[gb335]? = some (.cells #[.int .i64 t332, .int .i64 t333, .int .i64 t334] 25 (0, 0))) := ⟨h0_⟩
               have n1_ : Aside0 (w121.heap[gb343]? = some (.cells #[.int .i64 x344000_2, .int .i64 x344001_2, .int .i64 x344002_2, .int .i64 x344003_2] 23 (0, 0))) := ⟨h1_⟩
               have n2_ : Aside0 (w121.heap[gb383]? = some (.cells #[.int .i64 0, .int .i64 0, .int .i64 0, .int .i64 0] 23 (0, 0))) := ⟨h2_⟩
               have n3_ : Aside0 (w.heap.size ≤ gb383) := ⟨h3_⟩
               have n4_ : Aside0 (w.heap.size ≤ gb383) := ⟨h4_⟩
               have n5_ : Aside0 (gb335 ≠ gb383) := ⟨h5_⟩
               have n6_ : Aside0 (gb383 ≠ gb335) := ⟨h6_⟩
               have n7_ : Aside0 (gb343 ≠ gb383) := ⟨h7_⟩
               have n8_ : Aside0 (gb383 ≠ gb343) := ⟨h8_⟩
               have n9_ : Aside0 (Below w.heap.size w w121) := ⟨h9_⟩
               clear BK335
               clear BK343
               clear HB
               clear h0_ h1_ h2_ h3_ h4_ h5_ h6_ h7_ h8_ h9_
               have BK335 := n0_
               have BK343 := n1_
               have BK383 := n2_
               have GW383 := n3_
               have GE383 := n4_
               have NB335_383 := n5_
               have NB383_335 := n6_
               have NB343_383 := n7_
               have NB383_343 := n8_
               have HB := n9_
               clear n0_ n1_ n2_ n3_ n4_ n5_ n6_ n7_ n8_ n9_
               have hHeld : w121.cell? ⟨gb343, 0, none⟩ = some (.int .i64 x344000_2) ∧ w121.cell? ⟨gb343, 1, none⟩ = some (.int .i64 x344001_2) ∧ w121.cell? ⟨gb343, 2, none⟩ = some (.int .i64 x344002_2) ∧ w121.cell? ⟨gb343, 3, none⟩ = some (.int .i64 x344003_2) ∧ w121.cell? ⟨gb335, 0, none⟩ = some (.int .i64 t332) ∧ w121.cell? ⟨gb335, 1, none⟩ = some (.int .i64 t333) ∧ w121.cell? ⟨gb335, 2, none⟩ = some (.int .i64 t334) := hS_
               refine norm_ (a' := ?_) ?_ ?_
               rotate_left
               ·simp only [putAll, Act.put, List.setIfInBounds_toArray, List.set_cons_zero, List.set_cons_succ]
                rfl
               refine one_ (i := 18) (N := none) #[true, true, true, true, true, true, true, true, true, true, true, true, true, true, true, true, true, true, true, false, false] rfl rfl (one_of HT_.out (by kernel_rfl)) (by decide) (fun K hK => ?_)
               have hs122 : w121.cell? ⟨gb383, 0, none⟩ = some (.int .i64 0) := (blk_cell BK383.out 0).trans rfl
               have hfs122 := blk_frozen BK383.out 0
               have hns122_0 := NB335_383.out
               have hns122_1 := NB343_383.out
               have hms122_0 := NB383_335.out
               have hms122_1 := NB383_343.out
               have hs123 : w121.cell? ⟨gb383, 1, none⟩ = some (.int .i64 0) := (blk_cell BK383.out 1).trans rfl
               have hfs123 := blk_frozen BK383.out 1
               have hns123_0 := NB335_383.out
               have hns123_1 := NB343_383.out
               have hms123_0 := NB383_335.out
               have hms123_1 := NB383_343.out
               have hs124 : w121.cell? ⟨gb383, 2, none⟩ = some (.int .i64 0) := (blk_cell BK383.out 2).trans rfl
               have hfs124 := blk_frozen BK383.out 2
               have hns124_0 := NB335_383.out
               have hns124_1 := NB343_383.out
               have hms124_0 := NB383_335.out
               have hms124_1 := NB383_343.out
               have hs125 : w121.cell? ⟨gb383, 3, none⟩ = some (.int .i64 0) := (blk_cell BK383.out 3).trans rfl
               have hfs125 := blk_frozen BK383.out 3
               have hns125_0 := NB335_383.out
               have hns125_1 := NB343_383.out
               have hms125_0 := NB383_335.out
               have hms125_1 := NB383_343.out
               refine skip_ (w1 := ?_) (by rfl) rfl ?_ ?_
               rotate_left
               ·go_simp
                rfl
               refine hK.out _ _ ⟨((cell_far (p := ⟨gb383, _, none⟩) NB343_383.out _).trans (((cell_far (p := ⟨gb383, _, none⟩) NB343_383.out _).trans (((cell_far (p := ⟨gb383, _, none⟩) NB343_383.out _).trans (((cell_far (p := ⟨gb383, _, none⟩) NB343_383.out _).trans (hHeld.1)))))))), ((cell_far (p := ⟨gb383, _, none⟩) NB343_383.out _).trans (((cell_far (p := ⟨gb383, _, none⟩) NB343_383.out _).trans (((cell_far (p := ⟨gb383, _, none⟩) NB343_383.out _).trans (((cell_far (p := ⟨gb383, _, none⟩) NB343_383.out _).trans (hHeld.2.1)))))))), ((cell_far (p := ⟨gb383, _, none⟩) NB343_383.out _).trans (((cell_far (p := ⟨gb383, _, none⟩) NB343_383.out _).trans (((cell_far (p := ⟨gb383, _, none⟩) NB343_383.out _).trans (((cell_far (p := ⟨gb383, _, none⟩) NB343_383.out _).trans (hHeld.2.2.1)))))))), ((cell_far (p := ⟨gb383, _, none⟩) NB343_383.out _).trans (((cell_far (p := ⟨gb383, _, none⟩) NB343_383.out _).trans (((cell_far (p := ⟨gb383, _, none⟩) NB343_383.out _).trans (((cell_far (p := ⟨gb383, _, none⟩) NB343_383.out _).trans (hHeld.2.2.2.1)))))))), ((cell_far (p := ⟨gb383, _, none⟩) NB335_383.out _).trans (((cell_far (p := ⟨gb383, _, none⟩) NB335_383.out _).trans (((cell_far (p := ⟨gb383, _, none⟩) NB335_383.out _).trans (((cell_far (p := ⟨gb383, _, none⟩) NB335_383.out _).trans (hHeld.2.2.2.2.1)))))))), ((cell_far (p := ⟨gb383, _, none⟩) NB335_383.out _).trans (((cell_far (p := ⟨gb383, _, none⟩) NB335_383.out _).trans (((cell_far (p := ⟨gb383, _, none⟩) NB335_383.out _).trans (((cell_far (p := ⟨gb383, _, none⟩) NB335_383.out _).trans (hHeld.2.2.2.2.2.1)))))))), ((cell_far (p := ⟨gb383, _, none⟩) NB335_383.out _).trans (((cell_far (p := ⟨gb383, _, none⟩) NB335_383.out _).trans (((cell_far (p := ⟨gb383, _, none⟩) NB335_383.out _).trans (((cell_far (p := ⟨gb383, _, none⟩) NB335_383.out _).trans (hHeld.2.2.2.2.2.2))))))))⟩ (fun hHeld => ?_)
               clear hK K
               refine pure_ (i := 19) (N := some 19) (v := ?_) (a' := ?_) #[true, true, true, true, true, true, true, true, true, true, true, true, true, true, true, true, true, true, true, true, false] rfl rfl (any_of HT_.out (by kernel_rfl)) (fun _ _ _ h => h) (Or.inl ⟨by rfl, ?_⟩) ?_ ?_
               rotate_left
               ·intro w'
                go_simp
                with_reducible rfl
               rotate_left
               ·simp only [Act.put, List.setIfInBounds_toArray, List.set_cons_zero, List.set_cons_succ, i64_w, i32_w]
                rfl
               refine pure_ (i := 20) (N := some 20) (v := ?_) (a' := ?_) #[true, true, true, true, true, true, true, true, true, true, true, true, true, true, true, true, true, true, true, true, true] rfl rfl (any_of HT_.out (by kernel_rfl)) (fun _ _ _ h => h) (Or.inl ⟨by rfl, ?_⟩) ?_ ?_
               rotate_left
               ·intro w'
                go_simp
                with_reducible rfl
               rotate_left
               ·simp only [Act.put, List.setIfInBounds_toArray, List.set_cons_zero, List.set_cons_succ, i64_w, i32_w]
                rfl
               refine done_ (done_of HT_.out (by kernel_rfl)) ?_
               have hnb126 := NB383_335.out
               have hnc126 := NB335_383.out
               have hnb127 := NB383_343.out
               have hnc127 := NB343_383.out
               have hcz128_0 : w121.cell? ⟨gb383, 0, none⟩ = some (.int .i64 0) := (blk_cell BK383.out 0).trans rfl
               have hcz128_1 : w121.cell? ⟨gb383, 1, none⟩ = some (.int .i64 0) := (blk_cell BK383.out 1).trans rfl
               have hcz128_2 : w121.cell? ⟨gb383, 2, none⟩ = some (.int .i64 0) := (blk_cell BK383.out 2).trans rfl
               have hcz128_3 : w121.cell? ⟨gb383, 3, none⟩ = some (.int .i64 0) := (blk_cell BK383.out 3).trans rfl
               have hfz128_0 := blk_frozen BK383.out 0
               have hfz128_1 := blk_frozen BK383.out 1
               have hfz128_2 := blk_frozen BK383.out 2
               have hfz128_3 := blk_frozen BK383.out 3
               have hnb129 := NB335_343.out
               have hnc129 := NB343_335.out
               have hcz130_0 : w121.cell? ⟨gb335, 0, none⟩ = some (.int .i64 t332) := (blk_cell BK335.out 0).trans rfl
               have hcz130_1 : w121.cell? ⟨gb335, 1, none⟩ = some (.int .i64 t333) := (blk_cell BK335.out 1).trans rfl
               have hcz130_2 : w121.cell? ⟨gb335, 2, none⟩ = some (.int .i64 t334) := (blk_cell BK335.out 2).trans rfl
               have hfz130_0 := blk_frozen BK335.out 0
               have hfz130_1 := blk_frozen BK335.out 1
               have hfz130_2 := blk_frozen BK335.out 2
               have hcz131_0 : w121.cell? ⟨gb343, 0, none⟩ = some (.int .i64 x344000_2) := (blk_cell BK343.out 0).trans rfl
               have hcz131_1 : w121.cell? ⟨gb343, 1, none⟩ = some (.int .i64 x344001_2) := (blk_cell BK343.out 1).trans rfl
               have hcz131_2 : w121.cell? ⟨gb343, 2, none⟩ = some (.int .i64 x344002_2) := (blk_cell BK343.out 2).trans rfl
               have hcz131_3 : w121.cell? ⟨gb343, 3, none⟩ = some (.int .i64 x344003_2) := (blk_cell BK343.out 3).trans rfl
               have hfz131_0 := blk_frozen BK343.out 0
               have hfz131_1 := blk_frozen BK343.out 1
               have hfz131_2 := blk_frozen BK343.out 2
               have hfz131_3 := blk_frozen BK343.out 3
               try go_wp2
               go_roundg k2
               case measure => have := HJ6.out; have := HK2.out; omega
               case rel => exact ⟨(wrap64 (x13_2 + 1)), (t377), (t378), (t379), (t380), (by first | rfl | (simp; done) | (simp [*]; done)), H', ⟨by have := HJ6.out; have := HK2.out; omega⟩, ⟨by (with_reducible repeat (first | refine blk_drewN ?_ _ | refine blk_drew ?_ | refine blk_alloc ?_ _)); refine blk_far ?_ NB335_343.out _; (with_reducible repeat (first | refine blk_drewN ?_ _ | refine blk_drew ?_ | refine blk_alloc ?_ _)); refine blk_far ?_ NB335_343.out _; (with_reducible repeat (first | refine blk_drewN ?_ _ | refine blk_drew ?_ | refine blk_alloc ?_ _)); refine blk_far ?_ NB335_343.out _; (with_reducible repeat (first | refine blk_drewN ?_ _ | refine blk_drew ?_ | refine blk_alloc ?_ _)); refine blk_far ?_ NB335_343.out _; (with_reducible repeat (first | refine blk_drewN ?_ _ | refine blk_drew ?_ | refine blk_alloc ?_ _)); refine blk_far ?_ NB335_383.out _; (with_reducible repeat (first | refine blk_drewN ?_ _ | refine blk_drew ?_ | refine blk_alloc ?_ _)); refine blk_far ?_ NB335_383.out _; (with_reducible repeat (first | refine blk_drewN ?_ _ | refine blk_drew ?_ | refine blk_alloc ?_ _)); refine blk_far ?_ NB335_383.out _; (with_reducible repeat (first | refine blk_drewN ?_ _ | refine blk_drew ?_ | refine blk_alloc ?_ _)); refine blk_far ?_ NB335_383.out _; (with_reducible repeat (first | refine blk_drewN ?_ _ | refine blk_drew ?_ | refine blk_alloc ?_ _)); exact BK335.out⟩, ⟨by (with_reducible repeat (first | refine blk_drewN ?_ _ | refine blk_drew ?_ | refine blk_alloc ?_ _)); refine blk_put (cs := #[.int .i64 t377, .int .i64 t378, .int .i64 t379, .int .i64 x344003_2]) ?_ 3 _ rfl; (with_reducible repeat (first | refine blk_drewN ?_ _ | refine blk_drew ?_ | refine blk_alloc ?_ _)); refine blk_put (cs := #[.int .i64 t377, .int .i64 t378, .int .i64 x344002_2, .int .i64 x344003_2]) ?_ 2 _ rfl; (with_reducible repeat (first | refine blk_drewN ?_ _ | refine blk_drew ?_ | refine blk_alloc ?_ _)); refine blk_put (cs := #[.int .i64 t377, .int .i64 x344001_2, .int .i64 x344002_2, .int .i64 x344003_2]) ?_ 1 _ rfl; (with_reducible repeat (first | refine blk_drewN ?_ _ | refine blk_drew ?_ | refine blk_alloc ?_ _)); refine blk_put (cs := #[.int .i64 x344000_2, .int .i64 x344001_2, .int .i64 x344002_2, .int .i64 x344003_2]) ?_ 0 _ rfl; (with_reducible repeat (first | refine blk_drewN ?_ _ | refine blk_drew ?_ | refine blk_alloc ?_ _)); refine blk_far ?_ NB343_383.out _; (with_reducible repeat (first | refine blk_drewN ?_ _ | refine blk_drew ?_ | refine blk_alloc ?_ _)); refine blk_far ?_ NB343_383.out _; (with_reducible repeat (first | refine blk_drewN ?_ _ | refine blk_drew ?_ | refine blk_alloc ?_ _)); refine blk_far ?_ NB343_383.out _; (with_reducible repeat (first | refine blk_drewN ?_ _ | refine blk_drew ?_ | refine blk_alloc ?_ _)); refine blk_far ?_ NB343_383.out _; (with_reducible repeat (first | refine blk_drewN ?_ _ | refine blk_drew ?_ | refine blk_alloc ?_ _)); exact BK343.out⟩, ⟨by repeat (first | (with_reducible first | exact HB.out | apply below_alloc | apply pw_below_drewN | apply below_drew1 | refine below_set ?_ GE335.out | refine below_set ?_ GE343.out | refine below_set ?_ GE383.out) | exact HB.out)⟩⟩
         ·rw [if_neg c112] at H
          exact absurd H (by simp)
      ·rw [if_neg c22] at H
       have c22b0 : decide (x13_2 < t336) = false := decide_eq_false c22
       clear c22
       by_cases c132 : (x344000_2 == 0 && (x344001_2 == 0 && (x344002_2 == 0 && (x344003_2 == 0)))) = true
       ·rw [if_pos c132] at H
        have c132b0 : (x344000_2 == 0 && (x344001_2 == 0 && (x344002_2 == 0 && (x344003_2 == 0)))) = true := c132
        (try (have c132b1 : decide (x344000_2 = 0 && (x344001_2 == 0 && (x344002_2 == 0 && (x344003_2 == 0)))) = true := by simpa using c132))
        (try (have c132b2 : (x344000_2 == 0 && (x344001_2 == 0 && (x344002_2 == 0 && (x344003_2 == 0)))) = true := by simpa using c132))
        clear c132
        replace H := Option.bind_eq_some_iff.mp H
        obtain ⟨t345, A1330, H⟩ := H
        replace H : (if t345 = true then (some true) else (none)) = some r := H
        have A133 := Aside0.mk A1330
        clear A1330
        by_cases c134 : t345 = true
        ·subst c134
         have H1 : (some true) = some r := by rw [if_pos rfl] at H; exact H
         clear H
         have H := H1
         clear H1
         obtain rfl := Option.some.inj H
         have hnb135 := NB343_335.out
         have hnc135 := NB335_343.out
         have hcz136_0 : wr.cell? ⟨gb343, 0, none⟩ = some (.int .i64 x344000_2) := (blk_cell BK343.out 0).trans rfl
         have hcz136_1 : wr.cell? ⟨gb343, 1, none⟩ = some (.int .i64 x344001_2) := (blk_cell BK343.out 1).trans rfl
         have hcz136_2 : wr.cell? ⟨gb343, 2, none⟩ = some (.int .i64 x344002_2) := (blk_cell BK343.out 2).trans rfl
         have hcz136_3 : wr.cell? ⟨gb343, 3, none⟩ = some (.int .i64 x344003_2) := (blk_cell BK343.out 3).trans rfl
         have hfz136_0 := blk_frozen BK343.out 0
         have hfz136_1 := blk_frozen BK343.out 1
         have hfz136_2 := blk_frozen BK343.out 2
         have hfz136_3 := blk_frozen BK343.out 3
         go_wp2_with (first | (go_at_call 19; (with_reducible refine (q_awake.calls k2  true _ A133.out).mono ?_); rintro e w137 ⟨rfl, hb⟩; have n0_ := Aside0.mk (blk_below (g := gb335) (o := .cells #[.int .i64 t332, .int .i64 t333, .int .i64 t334] 25 (0, 0)) (by (with_reducible repeat (first | refine blk_drewN ?_ _ | refine blk_drew ?_ | refine blk_alloc ?_ _)); exact BK335.out) hb); have n1_ := Aside0.mk (blk_below (g := gb343) (o := .cells #[.int .i64 x344000_2, .int .i64 x344001_2, .int .i64 x344002_2, .int .i64 x344003_2] 23 (0, 0)) (by (with_reducible repeat (first | refine blk_drewN ?_ _ | refine blk_drew ?_ | refine blk_alloc ?_ _)); exact BK343.out) hb); have n2_ := Aside0.mk (below_step (by repeat (first | (with_reducible first | exact HB.out | apply below_alloc | apply pw_below_drewN | apply below_drew1 | refine below_set ?_ GE335.out | refine below_set ?_ GE343.out) | exact HB.out)) hb); clear BK335; clear BK343; clear HB; have BK335 := n0_; have BK343 := n1_; have HB := n2_; clear n0_ n1_ n2_; (try clear hb); (try clear hb2); (try clear hk); (try clear hi)))
         go_ret
         exact ⟨by first | rfl | (simp [errW_none, errW_some] <;> rfl) | (simp [*, errW_none, errW_some] <;> rfl), by repeat (first | (with_reducible first | exact HB.out | apply below_alloc | apply pw_below_drewN | apply below_drew1 | refine below_set ?_ GE335.out | refine below_set ?_ GE343.out) | exact HB.out)⟩
        ·replace c134 := Bool.eq_false_iff.mpr c134
         subst c134
         have H1 : (none) = some r := by rw [if_neg (show ¬ (false = true) by decide)] at H; exact H
         clear H
         have H := H1
         clear H1
         exact absurd H (by simp)
       ·rw [if_neg c132] at H
        exact absurd H (by simp)

/-- THE ONE PURE STATEMENT of q_DoorCycles: yours. -/
def q_DoorCycles.Pure : Prop := ∀ (a0 : Int) (l1 : List Bool) (a2 : Int), (Lit.int .i64 a0).wf = true → l1.length ≤ maxLen → l1.length * 1 ≤ 140737488351232 → (Lit.int .i64 a2).wf = true → ∃ k, q_DoorCycles.f k a0 l1 a2 = some true
theorem q_DoorCycles.walk (P : q_DoorCycles.Pure) (a0 : Int) (A1 : Option Addr) (c1 : Nat) (l1 : List Bool) (a2 : Int) (w : World) (w0 : (Lit.int .i64 a0).wf = true) (hr1 : Kd.C Kd.bool w A1 l1.length l1) (hc1 : l1.length ≤ c1) (hm1 : l1.length ≤ maxLen) (y1 : l1.length * 1 ≤ 140737488351232) (w2 : (Lit.int .i64 a2).wf = true) :
  Calls Try.prog 6 #[.int .i64 a0, .slice A1 l1.length c1, .int .i64 a2] w fun e w' => e = .returned (.bool true) ∧ Below w.heap.size w w' := by
 obtain ⟨k, h⟩ := P a0 l1 a2 w0 hm1 y1 w2
 refine (q_DoorCycles.calls k a0 _ _ l1 a2 true w hr1 hc1 h).mono ?_
 rintro e w' ⟨rfl, hd⟩
 exact ⟨rfl, hd⟩

end Go.Proofs.Ytofffhnhinolnaa.P
