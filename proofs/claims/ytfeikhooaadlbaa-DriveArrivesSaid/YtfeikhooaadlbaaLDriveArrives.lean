-- Printed by wip/myprint.py of this repo (over the kit's printer). Not trusted: Lean checks it.
import Derived.Test.YtfeikhooaadlbaaP0
import Derived.Test.YtfeikhooaadlbaaE24
import Derived.Test.YtfeikhooaadlbaaLDriveKnown
import Derived.Test.YtfeikhooaadlbaaP0drive
import Derived.Test.YtfeikhooaadlbaaP0drivea
import Derived.Test.YtfeikhooaadlbaaP0tipstafflaw13
import Derived.Test.YtfeikhooaadlbaaP1driveb
namespace Go.Proofs.Ytfeikhooaadlbaa.P
open Go.RowKit Go.Proofs.YtfeikhooaadlbaaW.PrintWords Go.Proofs.YtfeikhooaadlbaaW.PrintLast Go.Proofs.YtfeikhooaadlbaaW.PrintMore
attribute [local go_sem] cell_same1 cell_some1
attribute [local go_sem] max2_int min2_int max_two min_two max_three min_three max_four min_four   -- for this text's walks alone
set_option linter.unusedVariables false
set_option linter.unusedSimpArgs false

attribute [local go_sem high] eqA24
/-! ### q_DriveArrives: function 5 -/
mutual
def q_DriveArrives.j0 : Nat → Int → Int → Int → Int → Int → Bool → Int → Int → Int → Int → Int → Option (Bool)
 | 0, _, _, _, _, _, _, _, _, _, _, _ => none
 | k + 1, x8, x9, x10, x11, x15, x69, x382000, x382001, x382002, x382003, x382004 => if x69 = true then (none) else (q_DriveArrives.l0 k x8 x9 x10 x11 x15 x382000 x382001 x382002 x382003 x382004)
def q_DriveArrives.l0 : Nat → Int → Int → Int → Int → Int → Int → Int → Int → Int → Int → Option (Bool)
 | 0, _, _, _, _, _, _, _, _, _, _ => none
 | k + 1, x8, x9, x10, x11, x15, x382000, x382001, x382002, x382003, x382004 => if x15 > 0 then ((drive_Step.f k x382000 x382001 x382002 x382003 x382004 x10 x11).bind fun bt390 => ((drive_Needs.f k bt390.1 bt390.2.1 bt390.2.2.1 bt390.2.2.2.1 bt390.2.2.2.2.1 x10 x11).bind fun bt398 => (if bt390.2.2.2.2.2.2 = 0 then (if bt398.2 = 0 then (if bt398.1 = (wrap64 (x15 - 1)) then ((drive_Check.f k bt390.1 bt390.2.1 bt390.2.2.1 bt390.2.2.2.1 bt390.2.2.2.2.1).bind fun t400 => (if t400 = 0 then (if bt390.1 < (mn x8 x9) then (none) else (if bt390.1 > (mx x8 x9) then (none) else (if bt390.2.2.2.2.2.1 = true then (if (wrap64 ((mx bt390.1 x382000) - (mn bt390.1 x382000))) > x10 then (none) else (if (wrap64 ((mx bt390.1 x382000) - (mn bt390.1 x382000))) > (wrap64 (x382002 + 1)) then (none) else (if (wrap64 ((mx bt390.1 x382000) - (mn bt390.1 x382000))) < (wrap64 (x382002 - 1)) then (none) else (if bt390.2.2.2.1 = 2 then (if bt390.2.2.1 = (wrap64 ((mx bt390.1 x382000) - (mn bt390.1 x382000))) then (q_DriveArrives.l0 k x8 x9 x10 x11 bt398.1 bt390.1 bt390.2.1 bt390.2.2.1 bt390.2.2.2.1 bt390.2.2.2.2.1) else (none)) else (q_DriveArrives.l0 k x8 x9 x10 x11 bt398.1 bt390.1 bt390.2.1 bt390.2.2.1 bt390.2.2.2.1 bt390.2.2.2.2.1))))) else (if (wrap64 ((mx bt390.1 x382000) - (mn bt390.1 x382000))) > 0 then (none) else (if (wrap64 ((mx bt390.1 x382000) - (mn bt390.1 x382000))) > x10 then (none) else (if (wrap64 ((mx bt390.1 x382000) - (mn bt390.1 x382000))) > (wrap64 (x382002 + 1)) then (none) else (if (wrap64 ((mx bt390.1 x382000) - (mn bt390.1 x382000))) < (wrap64 (x382002 - 1)) then (none) else (if bt390.2.2.2.1 = 2 then (if bt390.2.2.1 = (wrap64 ((mx bt390.1 x382000) - (mn bt390.1 x382000))) then (q_DriveArrives.l0 k x8 x9 x10 x11 bt398.1 bt390.1 bt390.2.1 bt390.2.2.1 bt390.2.2.2.1 bt390.2.2.2.2.1) else (none)) else (q_DriveArrives.l0 k x8 x9 x10 x11 bt398.1 bt390.1 bt390.2.1 bt390.2.2.1 bt390.2.2.2.1 bt390.2.2.2.2.1))))))))) else (none))) else (none)) else (none)) else (none)))) else (some (x382000 == x9 && (x382001 == x9 && (x382002 == 0 && (x382003 == 0 && (x382004 == 0))))))
end
def q_DriveArrives.f (k : Nat) (a0 : Int) (a1 : Int) (a2 : Int) : Option (Bool) := (q_DriveKnown.f k).bind fun t370 => (if t370 = true then ((q_made.f a0 a1 a2).bind fun bt371 => ((drive_At.f bt371.1).bind fun bt375 => ((drive_Go.f k bt375.1 bt375.2.1 bt375.2.2.1 bt375.2.2.2.1 bt375.2.2.2.2.1 bt371.2.1 bt371.2.2.2).bind fun bt382 => ((drive_Needs.f k bt382.1 bt382.2.1 bt382.2.2.1 bt382.2.2.2.1 bt382.2.2.2.2.1 bt371.2.2.1 bt371.2.2.2).bind fun bt388 => (if bt375.2.2.2.2.2 = 0 then (if bt382.2.2.2.2.2 = 0 then (if bt388.2 = 0 then (if bt388.1 < 0 then (q_DriveArrives.j0 k bt371.1 bt371.2.1 bt371.2.2.1 bt371.2.2.2 bt388.1 true bt382.1 bt382.2.1 bt382.2.2.1 bt382.2.2.2.1 bt382.2.2.2.2.1) else (q_DriveArrives.j0 k bt371.1 bt371.2.1 bt371.2.2.1 bt371.2.2.2 bt388.1 (decide (bt388.1 > 500)) bt382.1 bt382.2.1 bt382.2.2.1 bt382.2.2.2.1 bt382.2.2.2.2.1)) else (q_DriveArrives.j0 k bt371.1 bt371.2.1 bt371.2.2.1 bt371.2.2.2 bt388.1 true bt382.1 bt382.2.1 bt382.2.2.1 bt382.2.2.2.1 bt382.2.2.2.2.1)) else (q_DriveArrives.j0 k bt371.1 bt371.2.1 bt371.2.2.1 bt371.2.2.2 bt388.1 true bt382.1 bt382.2.1 bt382.2.2.1 bt382.2.2.2.1 bt382.2.2.2.2.1)) else (q_DriveArrives.j0 k bt371.1 bt371.2.1 bt371.2.2.1 bt371.2.2.2 bt388.1 true bt382.1 bt382.2.1 bt382.2.2.1 bt382.2.2.2.1 bt382.2.2.2.2.1)))))) else (none))
theorem q_DriveArrives.mono_l : ∀ k, (∀ y0 y1 y2 y3 y4 y5 y6 y7 y8 y9 y10, LeO (q_DriveArrives.j0 k y0 y1 y2 y3 y4 y5 y6 y7 y8 y9 y10) (q_DriveArrives.j0 (k + 1) y0 y1 y2 y3 y4 y5 y6 y7 y8 y9 y10)) ∧ (∀ y0 y1 y2 y3 y4 y5 y6 y7 y8 y9, LeO (q_DriveArrives.l0 k y0 y1 y2 y3 y4 y5 y6 y7 y8 y9) (q_DriveArrives.l0 (k + 1) y0 y1 y2 y3 y4 y5 y6 y7 y8 y9))
 | 0 => ⟨fun _ _ _ _ _ _ _ _ _ _ _ r h => by simp [q_DriveArrives.j0] at h, fun _ _ _ _ _ _ _ _ _ _ r h => by simp [q_DriveArrives.l0] at h⟩
 | k + 1 => by
  obtain ⟨ih0, ih1⟩ := q_DriveArrives.mono_l k
  refine ⟨?_, ?_⟩
  ·intro y0 y1 y2 y3 y4 y5 y6 y7 y8 y9 y10
   unfold q_DriveArrives.j0
   repeat' first
   | (with_reducible exact ih0 _ _ _ _ _ _ _ _ _ _ _)
   | (with_reducible exact ih1 _ _ _ _ _ _ _ _ _ _)
   | (with_reducible exact drive_Check.mono _ _ _ _ _ _)
   | (with_reducible exact drive_Go.mono _ _ _ _ _ _ _ _)
   | (with_reducible exact drive_Needs.mono _ _ _ _ _ _ _ _)
   | (with_reducible exact drive_Step.mono _ _ _ _ _ _ _ _)
   | (with_reducible exact q_DriveKnown.mono _)
   | (with_reducible exact LeO.refl _)
   | (with_reducible exact LeO.none _)
   | (with_reducible refine LeO.ite ?_ ?_)
   | (with_reducible refine LeO.bind ?_ (fun _ => ?_))
   | exact ih0 _ _ _ _ _ _ _ _ _ _ _
   | exact ih1 _ _ _ _ _ _ _ _ _ _
   | exact drive_Check.mono _ _ _ _ _ _
   | exact drive_Go.mono _ _ _ _ _ _ _ _
   | exact drive_Needs.mono _ _ _ _ _ _ _ _
   | exact drive_Step.mono _ _ _ _ _ _ _ _
   | exact q_DriveKnown.mono _
   | exact LeO.none _
   | refine LeO.ite ?_ ?_
   | refine LeO.bind ?_ (fun _ => ?_)
  ·intro y0 y1 y2 y3 y4 y5 y6 y7 y8 y9
   unfold q_DriveArrives.l0
   repeat' first
   | (with_reducible exact ih0 _ _ _ _ _ _ _ _ _ _ _)
   | (with_reducible exact ih1 _ _ _ _ _ _ _ _ _ _)
   | (with_reducible exact drive_Check.mono _ _ _ _ _ _)
   | (with_reducible exact drive_Go.mono _ _ _ _ _ _ _ _)
   | (with_reducible exact drive_Needs.mono _ _ _ _ _ _ _ _)
   | (with_reducible exact drive_Step.mono _ _ _ _ _ _ _ _)
   | (with_reducible exact q_DriveKnown.mono _)
   | (with_reducible exact LeO.refl _)
   | (with_reducible exact LeO.none _)
   | (with_reducible refine LeO.ite ?_ ?_)
   | (with_reducible refine LeO.bind ?_ (fun _ => ?_))
   | exact ih0 _ _ _ _ _ _ _ _ _ _ _
   | exact ih1 _ _ _ _ _ _ _ _ _ _
   | exact drive_Check.mono _ _ _ _ _ _
   | exact drive_Go.mono _ _ _ _ _ _ _ _
   | exact drive_Needs.mono _ _ _ _ _ _ _ _
   | exact drive_Step.mono _ _ _ _ _ _ _ _
   | exact q_DriveKnown.mono _
   | exact LeO.none _
   | refine LeO.ite ?_ ?_
   | refine LeO.bind ?_ (fun _ => ?_)
theorem q_DriveArrives.mono : ∀ a0 a1 a2 k, LeO (q_DriveArrives.f k a0 a1 a2) (q_DriveArrives.f (k + 1) a0 a1 a2) := by
 intro a0 a1 a2 k
 obtain ⟨ih0, ih1⟩ := q_DriveArrives.mono_l k
 unfold q_DriveArrives.f
 repeat' first
   | (with_reducible exact ih0 _ _ _ _ _ _ _ _ _ _ _)
   | (with_reducible exact ih1 _ _ _ _ _ _ _ _ _ _)
   | (with_reducible exact drive_Check.mono _ _ _ _ _ _)
   | (with_reducible exact drive_Go.mono _ _ _ _ _ _ _ _)
   | (with_reducible exact drive_Needs.mono _ _ _ _ _ _ _ _)
   | (with_reducible exact drive_Step.mono _ _ _ _ _ _ _ _)
   | (with_reducible exact q_DriveKnown.mono _)
   | (with_reducible exact LeO.refl _)
   | (with_reducible exact LeO.none _)
   | (with_reducible refine LeO.ite ?_ ?_)
   | (with_reducible refine LeO.bind ?_ (fun _ => ?_))
   | exact ih0 _ _ _ _ _ _ _ _ _ _ _
   | exact ih1 _ _ _ _ _ _ _ _ _ _
   | exact drive_Check.mono _ _ _ _ _ _
   | exact drive_Go.mono _ _ _ _ _ _ _ _
   | exact drive_Needs.mono _ _ _ _ _ _ _ _
   | exact drive_Step.mono _ _ _ _ _ _ _ _
   | exact q_DriveKnown.mono _
   | exact LeO.none _
   | refine LeO.ite ?_ ?_
   | refine LeO.bind ?_ (fun _ => ?_)
set_option maxHeartbeats 8000000 in
set_option maxRecDepth 100000 in
theorem q_DriveArrives.calls (k : Nat) (a0 : Int) (a1 : Int) (a2 : Int) (r : Bool) (w : World) (h : q_DriveArrives.f k a0 a1 a2 = some r) :
  Calls Try.prog 5 #[.int .i64 a0, .int .i64 a1, .int .i64 a2] w fun e w' => e = .returned (.bool r) ∧ Below w.heap.size w w' := by
 have hu24 := Try.underlying24
 have HB := Aside0.mk (Below.refl w.heap.size w)
 have H : ((q_DriveKnown.f k).bind fun t370 => (if t370 = true then ((q_made.f a0 a1 a2).bind fun bt371 => ((drive_At.f bt371.1).bind fun bt375 => ((drive_Go.f k bt375.1 bt375.2.1 bt375.2.2.1 bt375.2.2.2.1 bt375.2.2.2.2.1 bt371.2.1 bt371.2.2.2).bind fun bt382 => ((drive_Needs.f k bt382.1 bt382.2.1 bt382.2.2.1 bt382.2.2.2.1 bt382.2.2.2.2.1 bt371.2.2.1 bt371.2.2.2).bind fun bt388 => (if bt375.2.2.2.2.2 = 0 then (if bt382.2.2.2.2.2 = 0 then (if bt388.2 = 0 then (if bt388.1 < 0 then (q_DriveArrives.j0 k bt371.1 bt371.2.1 bt371.2.2.1 bt371.2.2.2 bt388.1 true bt382.1 bt382.2.1 bt382.2.2.1 bt382.2.2.2.1 bt382.2.2.2.2.1) else (q_DriveArrives.j0 k bt371.1 bt371.2.1 bt371.2.2.1 bt371.2.2.2 bt388.1 (decide (bt388.1 > 500)) bt382.1 bt382.2.1 bt382.2.2.1 bt382.2.2.2.1 bt382.2.2.2.2.1)) else (q_DriveArrives.j0 k bt371.1 bt371.2.1 bt371.2.2.1 bt371.2.2.2 bt388.1 true bt382.1 bt382.2.1 bt382.2.2.1 bt382.2.2.2.1 bt382.2.2.2.2.1)) else (q_DriveArrives.j0 k bt371.1 bt371.2.1 bt371.2.2.1 bt371.2.2.2 bt388.1 true bt382.1 bt382.2.1 bt382.2.2.1 bt382.2.2.2.1 bt382.2.2.2.2.1)) else (q_DriveArrives.j0 k bt371.1 bt371.2.1 bt371.2.2.1 bt371.2.2.2 bt388.1 true bt382.1 bt382.2.1 bt382.2.2.1 bt382.2.2.2.1 bt382.2.2.2.2.1)))))) else (none))) = some r := h
 clear h
 replace H := Option.bind_eq_some_iff.mp H
 obtain ⟨t370, A40, H⟩ := H
 replace H : (if t370 = true then ((q_made.f a0 a1 a2).bind fun bt371 => ((drive_At.f bt371.1).bind fun bt375 => ((drive_Go.f k bt375.1 bt375.2.1 bt375.2.2.1 bt375.2.2.2.1 bt375.2.2.2.2.1 bt371.2.1 bt371.2.2.2).bind fun bt382 => ((drive_Needs.f k bt382.1 bt382.2.1 bt382.2.2.1 bt382.2.2.2.1 bt382.2.2.2.2.1 bt371.2.2.1 bt371.2.2.2).bind fun bt388 => (if bt375.2.2.2.2.2 = 0 then (if bt382.2.2.2.2.2 = 0 then (if bt388.2 = 0 then (if bt388.1 < 0 then (q_DriveArrives.j0 k bt371.1 bt371.2.1 bt371.2.2.1 bt371.2.2.2 bt388.1 true bt382.1 bt382.2.1 bt382.2.2.1 bt382.2.2.2.1 bt382.2.2.2.2.1) else (q_DriveArrives.j0 k bt371.1 bt371.2.1 bt371.2.2.1 bt371.2.2.2 bt388.1 (decide (bt388.1 > 500)) bt382.1 bt382.2.1 bt382.2.2.1 bt382.2.2.2.1 bt382.2.2.2.2.1)) else (q_DriveArrives.j0 k bt371.1 bt371.2.1 bt371.2.2.1 bt371.2.2.2 bt388.1 true bt382.1 bt382.2.1 bt382.2.2.1 bt382.2.2.2.1 bt382.2.2.2.2.1)) else (q_DriveArrives.j0 k bt371.1 bt371.2.1 bt371.2.2.1 bt371.2.2.2 bt388.1 true bt382.1 bt382.2.1 bt382.2.2.1 bt382.2.2.2.1 bt382.2.2.2.2.1)) else (q_DriveArrives.j0 k bt371.1 bt371.2.1 bt371.2.2.1 bt371.2.2.2 bt388.1 true bt382.1 bt382.2.1 bt382.2.2.1 bt382.2.2.2.1 bt382.2.2.2.2.1)))))) else (none)) = some r := H
 have A4 := Aside0.mk A40
 clear A40
 by_cases c5 : t370 = true
 ·subst c5
  have H1 : ((q_made.f a0 a1 a2).bind fun bt371 => ((drive_At.f bt371.1).bind fun bt375 => ((drive_Go.f k bt375.1 bt375.2.1 bt375.2.2.1 bt375.2.2.2.1 bt375.2.2.2.2.1 bt371.2.1 bt371.2.2.2).bind fun bt382 => ((drive_Needs.f k bt382.1 bt382.2.1 bt382.2.2.1 bt382.2.2.2.1 bt382.2.2.2.2.1 bt371.2.2.1 bt371.2.2.2).bind fun bt388 => (if bt375.2.2.2.2.2 = 0 then (if bt382.2.2.2.2.2 = 0 then (if bt388.2 = 0 then (if bt388.1 < 0 then (q_DriveArrives.j0 k bt371.1 bt371.2.1 bt371.2.2.1 bt371.2.2.2 bt388.1 true bt382.1 bt382.2.1 bt382.2.2.1 bt382.2.2.2.1 bt382.2.2.2.2.1) else (q_DriveArrives.j0 k bt371.1 bt371.2.1 bt371.2.2.1 bt371.2.2.2 bt388.1 (decide (bt388.1 > 500)) bt382.1 bt382.2.1 bt382.2.2.1 bt382.2.2.2.1 bt382.2.2.2.2.1)) else (q_DriveArrives.j0 k bt371.1 bt371.2.1 bt371.2.2.1 bt371.2.2.2 bt388.1 true bt382.1 bt382.2.1 bt382.2.2.1 bt382.2.2.2.1 bt382.2.2.2.2.1)) else (q_DriveArrives.j0 k bt371.1 bt371.2.1 bt371.2.2.1 bt371.2.2.2 bt388.1 true bt382.1 bt382.2.1 bt382.2.2.1 bt382.2.2.2.1 bt382.2.2.2.2.1)) else (q_DriveArrives.j0 k bt371.1 bt371.2.1 bt371.2.2.1 bt371.2.2.2 bt388.1 true bt382.1 bt382.2.1 bt382.2.2.1 bt382.2.2.2.1 bt382.2.2.2.2.1)))))) = some r := by rw [if_pos rfl] at H; exact H
  clear H
  have H := H1
  clear H1
  replace H := Option.bind_eq_some_iff.mp H
  obtain ⟨⟨t371, t372, t373, t374⟩, A60, H⟩ := H
  replace H : ((drive_At.f t371).bind fun bt375 => ((drive_Go.f k bt375.1 bt375.2.1 bt375.2.2.1 bt375.2.2.2.1 bt375.2.2.2.2.1 t372 t374).bind fun bt382 => ((drive_Needs.f k bt382.1 bt382.2.1 bt382.2.2.1 bt382.2.2.2.1 bt382.2.2.2.2.1 t373 t374).bind fun bt388 => (if bt375.2.2.2.2.2 = 0 then (if bt382.2.2.2.2.2 = 0 then (if bt388.2 = 0 then (if bt388.1 < 0 then (q_DriveArrives.j0 k t371 t372 t373 t374 bt388.1 true bt382.1 bt382.2.1 bt382.2.2.1 bt382.2.2.2.1 bt382.2.2.2.2.1) else (q_DriveArrives.j0 k t371 t372 t373 t374 bt388.1 (decide (bt388.1 > 500)) bt382.1 bt382.2.1 bt382.2.2.1 bt382.2.2.2.1 bt382.2.2.2.2.1)) else (q_DriveArrives.j0 k t371 t372 t373 t374 bt388.1 true bt382.1 bt382.2.1 bt382.2.2.1 bt382.2.2.2.1 bt382.2.2.2.2.1)) else (q_DriveArrives.j0 k t371 t372 t373 t374 bt388.1 true bt382.1 bt382.2.1 bt382.2.2.1 bt382.2.2.2.1 bt382.2.2.2.2.1)) else (q_DriveArrives.j0 k t371 t372 t373 t374 bt388.1 true bt382.1 bt382.2.1 bt382.2.2.1 bt382.2.2.2.1 bt382.2.2.2.2.1))))) = some r := H
  have A6 := Aside0.mk A60
  clear A60
  replace H := Option.bind_eq_some_iff.mp H
  obtain ⟨⟨t375, t376, t377, t378, t379, t380⟩, A70, H⟩ := H
  replace H : ((drive_Go.f k t375 t376 t377 t378 t379 t372 t374).bind fun bt382 => ((drive_Needs.f k bt382.1 bt382.2.1 bt382.2.2.1 bt382.2.2.2.1 bt382.2.2.2.2.1 t373 t374).bind fun bt388 => (if t380 = 0 then (if bt382.2.2.2.2.2 = 0 then (if bt388.2 = 0 then (if bt388.1 < 0 then (q_DriveArrives.j0 k t371 t372 t373 t374 bt388.1 true bt382.1 bt382.2.1 bt382.2.2.1 bt382.2.2.2.1 bt382.2.2.2.2.1) else (q_DriveArrives.j0 k t371 t372 t373 t374 bt388.1 (decide (bt388.1 > 500)) bt382.1 bt382.2.1 bt382.2.2.1 bt382.2.2.2.1 bt382.2.2.2.2.1)) else (q_DriveArrives.j0 k t371 t372 t373 t374 bt388.1 true bt382.1 bt382.2.1 bt382.2.2.1 bt382.2.2.2.1 bt382.2.2.2.2.1)) else (q_DriveArrives.j0 k t371 t372 t373 t374 bt388.1 true bt382.1 bt382.2.1 bt382.2.2.1 bt382.2.2.2.1 bt382.2.2.2.2.1)) else (q_DriveArrives.j0 k t371 t372 t373 t374 bt388.1 true bt382.1 bt382.2.1 bt382.2.2.1 bt382.2.2.2.1 bt382.2.2.2.2.1)))) = some r := H
  have A7 := Aside0.mk A70
  clear A70
  replace H := Option.bind_eq_some_iff.mp H
  obtain ⟨⟨t382, t383, t384, t385, t386, t387⟩, A80, H⟩ := H
  replace H : ((drive_Needs.f k t382 t383 t384 t385 t386 t373 t374).bind fun bt388 => (if t380 = 0 then (if t387 = 0 then (if bt388.2 = 0 then (if bt388.1 < 0 then (q_DriveArrives.j0 k t371 t372 t373 t374 bt388.1 true t382 t383 t384 t385 t386) else (q_DriveArrives.j0 k t371 t372 t373 t374 bt388.1 (decide (bt388.1 > 500)) t382 t383 t384 t385 t386)) else (q_DriveArrives.j0 k t371 t372 t373 t374 bt388.1 true t382 t383 t384 t385 t386)) else (q_DriveArrives.j0 k t371 t372 t373 t374 bt388.1 true t382 t383 t384 t385 t386)) else (q_DriveArrives.j0 k t371 t372 t373 t374 bt388.1 true t382 t383 t384 t385 t386))) = some r := H
  have A8 := Aside0.mk A80
  clear A80
  replace H := Option.bind_eq_some_iff.mp H
  obtain ⟨⟨t388, t389⟩, A90, H⟩ := H
  replace H : (if t380 = 0 then (if t387 = 0 then (if t389 = 0 then (if t388 < 0 then (q_DriveArrives.j0 k t371 t372 t373 t374 t388 true t382 t383 t384 t385 t386) else (q_DriveArrives.j0 k t371 t372 t373 t374 t388 (decide (t388 > 500)) t382 t383 t384 t385 t386)) else (q_DriveArrives.j0 k t371 t372 t373 t374 t388 true t382 t383 t384 t385 t386)) else (q_DriveArrives.j0 k t371 t372 t373 t374 t388 true t382 t383 t384 t385 t386)) else (q_DriveArrives.j0 k t371 t372 t373 t374 t388 true t382 t383 t384 t385 t386)) = some r := H
  have A9 := Aside0.mk A90
  clear A90
  have HC10 := Aside0.mk H
  clear H
  go_enter Try.func5, Try.ntmps5
  go_upto_region 6 with (first | ((with_reducible refine gate_callee (f := 4) rfl ?_); refine goesL_ (some 23) rfl rfl Try.func4 (by kernel_rfl) rfl #[] rfl (by (try simp only [List.map_toArray, List.map_cons, List.map_nil]); first | done | rfl | (simp only [List.length_drop, List.length_take]; rfl)) ?_; (with_reducible refine (q_DriveKnown.calls k  true _ A4.out).mono ?_); rintro e w11 ⟨rfl, hb⟩; refine ⟨_, rfl, ?_⟩; have n0_ := Aside0.mk (below_step (by repeat (first | (with_reducible first | exact HB.out | apply below_alloc | apply pw_below_drewN | apply below_drew1) | exact HB.out)) hb); clear HB; have HB := n0_; clear n0_; (try clear hb); (try clear hb2); (try clear hk); (try clear hi)) | ((with_reducible refine gate_callee (f := 19) rfl ?_); refine goesL_ (some 28) rfl rfl Try.func19 (by kernel_rfl) rfl #[.int .i64 a0, .int .i64 a1, .int .i64 a2] rfl (by (try simp only [List.map_toArray, List.map_cons, List.map_nil]); first | done | rfl | (simp only [List.length_drop, List.length_take]; rfl)) ?_; (with_reducible refine (q_made.calls a0 a1 a2 t371 t372 t373 t374 _ A6.out).mono ?_); rintro e w' ⟨rfl, ⟨nd, rfl⟩⟩; refine ⟨_, rfl, ?_⟩; (try (rw [drewN_self w11]; generalize hq_ : World.drewN w11 _ = w11; have n0_ : Aside0 (Below w.heap.size w w11) := ⟨by rw [← hq_]; exact (by repeat (first | (with_reducible first | exact HB.out | apply below_alloc | apply pw_below_drewN | apply below_drew1) | exact HB.out))⟩; clear HB hq_; have HB := n0_; clear n0_))) | ((with_reducible refine gate_callee (f := 17) rfl ?_); refine goesL_ (some 35) rfl rfl Try.func17 (by kernel_rfl) rfl #[.int .i64 t371] rfl (by (try simp only [List.map_toArray, List.map_cons, List.map_nil]); first | done | rfl | (simp only [List.length_drop, List.length_take]; rfl)) ?_; (with_reducible refine (drive_At.calls t371 t375 t376 t377 t378 t379 t380 _ A7.out).mono ?_); rintro e w12 ⟨rfl, hb⟩; refine ⟨_, rfl, ?_⟩; have n0_ := Aside0.mk (below_step (by repeat (first | (with_reducible first | exact HB.out | apply below_alloc | apply pw_below_drewN | apply below_drew1) | exact HB.out)) hb); clear HB; have HB := n0_; clear n0_; (try clear hb); (try clear hb2); (try clear hk); (try clear hi)) | ((with_reducible refine gate_dst (N := 12) rfl ?_); (try (refine gate_guard (by rfl) ?_; dsimp only)); refine box_event ?hg (N := 12) ?hd (cs := #[.int .i64 0, .int .i64 0, .int .i64 0, .int .i64 0, .int .i64 0]) (t := 24) ?hr ?_; (case hd => rfl); (case hg => rfl); (case hr => first | (go_simp; done) | (go_simp; rfl)); intro gb381 hg w13 hbox hb; have n0_ := Aside0.mk (below_step (by repeat (first | (with_reducible first | exact HB.out | apply below_alloc | apply pw_below_drewN | apply below_drew1) | exact HB.out)) hb); have n1_ := Aside0.mk (hbox); have n2_ := Aside0.mk ((by rw [hg]; exact (below_size (by repeat (first | (with_reducible first | exact HB.out | apply below_alloc | apply pw_below_drewN | apply below_drew1) | exact HB.out))) : w.heap.size ≤ gb381)); have n3_ := Aside0.mk ((by rw [hg]; exact (below_size (by repeat (first | (with_reducible first | exact HB.out | apply below_alloc | apply pw_below_drewN | apply below_drew1) | exact HB.out))) : w.heap.size ≤ gb381)); clear HB; have HB := n0_; have BK381 := n1_; have GW381 := n2_; have GE381 := n3_; clear n0_ n1_ n2_ n3_; clear hb hbox hg; have hcz14_0 : w13.cell? ⟨gb381, 0, none⟩ = some (.int .i64 0) := (blk_cell BK381.out 0).trans rfl; have hcz14_1 : w13.cell? ⟨gb381, 1, none⟩ = some (.int .i64 0) := (blk_cell BK381.out 1).trans rfl; have hcz14_2 : w13.cell? ⟨gb381, 2, none⟩ = some (.int .i64 0) := (blk_cell BK381.out 2).trans rfl; have hcz14_3 : w13.cell? ⟨gb381, 3, none⟩ = some (.int .i64 0) := (blk_cell BK381.out 3).trans rfl; have hcz14_4 : w13.cell? ⟨gb381, 4, none⟩ = some (.int .i64 0) := (blk_cell BK381.out 4).trans rfl; have hfz14_0 := blk_frozen BK381.out 0; have hfz14_1 := blk_frozen BK381.out 1; have hfz14_2 := blk_frozen BK381.out 2; have hfz14_3 := blk_frozen BK381.out 3; have hfz14_4 := blk_frozen BK381.out 4) | ((with_reducible refine gate_callee (f := 12) rfl ?_); refine goesL_ (some 42) rfl rfl Try.func12 (by kernel_rfl) rfl #[.agg #[.int .i64 t375, .int .i64 t376, .int .i64 t377, .int .i64 t378, .int .i64 t379], .int .i64 t372, .int .i64 t374] rfl (by (try simp only [List.map_toArray, List.map_cons, List.map_nil]); first | done | rfl | (simp only [List.length_drop, List.length_take]; rfl)) ?_; (with_reducible refine (drive_Go.calls k t375 t376 t377 t378 t379 t372 t374 t382 t383 t384 t385 t386 t387 _ A8.out).mono ?_); rintro e w15 ⟨rfl, hb⟩; refine ⟨_, rfl, ?_⟩; have n0_ := Aside0.mk (blk_below (g := gb381) (o := .cells #[.int .i64 t375, .int .i64 t376, .int .i64 t377, .int .i64 t378, .int .i64 t379] 24 (0, 0)) (by (with_reducible repeat (first | refine blk_drewN ?_ _ | refine blk_drew ?_ | refine blk_alloc ?_ _)); refine blk_put (cs := #[.int .i64 t375, .int .i64 t376, .int .i64 t377, .int .i64 t378, .int .i64 0]) ?_ 4 _ rfl; (with_reducible repeat (first | refine blk_drewN ?_ _ | refine blk_drew ?_ | refine blk_alloc ?_ _)); refine blk_put (cs := #[.int .i64 t375, .int .i64 t376, .int .i64 t377, .int .i64 0, .int .i64 0]) ?_ 3 _ rfl; (with_reducible repeat (first | refine blk_drewN ?_ _ | refine blk_drew ?_ | refine blk_alloc ?_ _)); refine blk_put (cs := #[.int .i64 t375, .int .i64 t376, .int .i64 0, .int .i64 0, .int .i64 0]) ?_ 2 _ rfl; (with_reducible repeat (first | refine blk_drewN ?_ _ | refine blk_drew ?_ | refine blk_alloc ?_ _)); refine blk_put (cs := #[.int .i64 t375, .int .i64 0, .int .i64 0, .int .i64 0, .int .i64 0]) ?_ 1 _ rfl; (with_reducible repeat (first | refine blk_drewN ?_ _ | refine blk_drew ?_ | refine blk_alloc ?_ _)); refine blk_put (cs := #[.int .i64 0, .int .i64 0, .int .i64 0, .int .i64 0, .int .i64 0]) ?_ 0 _ rfl; (with_reducible repeat (first | refine blk_drewN ?_ _ | refine blk_drew ?_ | refine blk_alloc ?_ _)); exact BK381.out) hb); have n1_ := Aside0.mk (below_step (by repeat (first | (with_reducible first | exact HB.out | apply below_alloc | apply pw_below_drewN | apply below_drew1 | refine below_set ?_ GE381.out) | exact HB.out)) hb); clear BK381; clear HB; have BK381 := n0_; have HB := n1_; clear n0_ n1_; (try clear hb); (try clear hb2); (try clear hk); (try clear hi); have hcz16_0 : w15.cell? ⟨gb381, 0, none⟩ = some (.int .i64 t375) := (blk_cell BK381.out 0).trans rfl; have hcz16_1 : w15.cell? ⟨gb381, 1, none⟩ = some (.int .i64 t376) := (blk_cell BK381.out 1).trans rfl; have hcz16_2 : w15.cell? ⟨gb381, 2, none⟩ = some (.int .i64 t377) := (blk_cell BK381.out 2).trans rfl; have hcz16_3 : w15.cell? ⟨gb381, 3, none⟩ = some (.int .i64 t378) := (blk_cell BK381.out 3).trans rfl; have hcz16_4 : w15.cell? ⟨gb381, 4, none⟩ = some (.int .i64 t379) := (blk_cell BK381.out 4).trans rfl; have hfz16_0 := blk_frozen BK381.out 0; have hfz16_1 := blk_frozen BK381.out 1; have hfz16_2 := blk_frozen BK381.out 2; have hfz16_3 := blk_frozen BK381.out 3; have hfz16_4 := blk_frozen BK381.out 4) | ((with_reducible refine gate_callee (f := 15) rfl ?_); refine goesL_ (some 49) rfl rfl Try.func15 (by kernel_rfl) rfl #[.agg #[.int .i64 t382, .int .i64 t383, .int .i64 t384, .int .i64 t385, .int .i64 t386], .int .i64 t373, .int .i64 t374] rfl (by (try simp only [List.map_toArray, List.map_cons, List.map_nil]); first | done | rfl | (simp only [List.length_drop, List.length_take]; rfl)) ?_; (with_reducible refine (drive_Needs.calls k t382 t383 t384 t385 t386 t373 t374 t388 t389 _ A9.out).mono ?_); rintro e w17 ⟨rfl, hb⟩; refine ⟨_, rfl, ?_⟩; have n0_ := Aside0.mk (blk_below (g := gb381) (o := .cells #[.int .i64 t382, .int .i64 t383, .int .i64 t384, .int .i64 t385, .int .i64 t386] 24 (0, 0)) (by (with_reducible repeat (first | refine blk_drewN ?_ _ | refine blk_drew ?_ | refine blk_alloc ?_ _)); refine blk_put (cs := #[.int .i64 t382, .int .i64 t383, .int .i64 t384, .int .i64 t385, .int .i64 t379]) ?_ 4 _ rfl; (with_reducible repeat (first | refine blk_drewN ?_ _ | refine blk_drew ?_ | refine blk_alloc ?_ _)); refine blk_put (cs := #[.int .i64 t382, .int .i64 t383, .int .i64 t384, .int .i64 t378, .int .i64 t379]) ?_ 3 _ rfl; (with_reducible repeat (first | refine blk_drewN ?_ _ | refine blk_drew ?_ | refine blk_alloc ?_ _)); refine blk_put (cs := #[.int .i64 t382, .int .i64 t383, .int .i64 t377, .int .i64 t378, .int .i64 t379]) ?_ 2 _ rfl; (with_reducible repeat (first | refine blk_drewN ?_ _ | refine blk_drew ?_ | refine blk_alloc ?_ _)); refine blk_put (cs := #[.int .i64 t382, .int .i64 t376, .int .i64 t377, .int .i64 t378, .int .i64 t379]) ?_ 1 _ rfl; (with_reducible repeat (first | refine blk_drewN ?_ _ | refine blk_drew ?_ | refine blk_alloc ?_ _)); refine blk_put (cs := #[.int .i64 t375, .int .i64 t376, .int .i64 t377, .int .i64 t378, .int .i64 t379]) ?_ 0 _ rfl; (with_reducible repeat (first | refine blk_drewN ?_ _ | refine blk_drew ?_ | refine blk_alloc ?_ _)); exact BK381.out) hb); have n1_ := Aside0.mk (below_step (by repeat (first | (with_reducible first | exact HB.out | apply below_alloc | apply pw_below_drewN | apply below_drew1 | refine below_set ?_ GE381.out) | exact HB.out)) hb); clear BK381; clear HB; have BK381 := n0_; have HB := n1_; clear n0_ n1_; (try clear hb); (try clear hb2); (try clear hk); (try clear hi)))
  (try simp only [Act.put, List.setIfInBounds_toArray, List.set_cons_zero, List.set_cons_succ])
  go_cut [69] (fun v69 wc => ∃ (kq : Nat) (x69_9 : Bool), v69 = .bool x69_9 ∧ Aside0 (q_DriveArrives.j0 kq t371 t372 t373 t374 t388 x69_9 t382 t383 t384 t385 t386 = some r) ∧ Aside0 (kq ≤ k) ∧ Aside0 (wc.heap[gb381]? = some (.cells #[.int .i64 t382, .int .i64 t383, .int .i64 t384, .int .i64 t385, .int .i64 t386] 24 (0, 0))) ∧ Aside0 (Below w.heap.size w wc))
  case first =>
   have H := HC10.out
   clear HC10
   by_cases c18 : t380 = 0
   ·rw [if_pos c18] at H
    have c18b0 : (t380 == 0) = true := beq_iff_eq.mpr c18
    have c18b1 : (t380 != 0) = false := bne_eq_false_iff_eq.mpr c18
    clear c18
    (first | rw [c18b0] | (simp only [i64_w, i32_w]; rw [c18b0]) | skip)
    by_cases c19 : t387 = 0
    ·rw [if_pos c19] at H
     have c19b0 : (t387 == 0) = true := beq_iff_eq.mpr c19
     have c19b1 : (t387 != 0) = false := bne_eq_false_iff_eq.mpr c19
     clear c19
     by_cases c20 : t389 = 0
     ·rw [if_pos c20] at H
      have c20b0 : (t389 == 0) = true := beq_iff_eq.mpr c20
      have c20b1 : (t389 != 0) = false := bne_eq_false_iff_eq.mpr c20
      clear c20
      by_cases c21 : t388 < 0
      ·rw [if_pos c21] at H
       have c21b0 : decide (t388 < 0) = true := decide_eq_true c21
       clear c21
       have H' := Aside0.mk H
       clear H
       go_wp2
       go_meet
       case rel => exact ⟨_, (true), (by first | rfl | (simp; done) | (simp [*]; done)), H', ⟨by first | omega | exact Nat.le_refl _⟩, ⟨by (with_reducible repeat (first | refine blk_drewN ?_ _ | refine blk_drew ?_ | refine blk_alloc ?_ _)); exact BK381.out⟩, ⟨by repeat (first | (with_reducible first | exact HB.out | apply below_alloc | apply pw_below_drewN | apply below_drew1 | refine below_set ?_ GE381.out) | exact HB.out)⟩⟩
      ·rw [if_neg c21] at H
       have c21b0 : decide (t388 < 0) = false := decide_eq_false c21
       clear c21
       have H' := Aside0.mk H
       clear H
       go_wp2
       go_meet
       case rel => exact ⟨_, (decide (t388 > 500)), (by first | rfl | (simp; done) | (simp [*]; done)), H', ⟨by first | omega | exact Nat.le_refl _⟩, ⟨by (with_reducible repeat (first | refine blk_drewN ?_ _ | refine blk_drew ?_ | refine blk_alloc ?_ _)); exact BK381.out⟩, ⟨by repeat (first | (with_reducible first | exact HB.out | apply below_alloc | apply pw_below_drewN | apply below_drew1 | refine below_set ?_ GE381.out) | exact HB.out)⟩⟩
     ·rw [if_neg c20] at H
      have c20b0 : (t389 == 0) = false := beq_eq_false_iff_ne.mpr c20
      have c20b1 : (t389 != 0) = true := bne_iff_ne.mpr c20
      have H' := Aside0.mk H
      clear H
      go_wp2
      go_meet
      case rel => exact ⟨_, (true), (by first | rfl | (simp; done) | (simp [*]; done)), H', ⟨by first | omega | exact Nat.le_refl _⟩, ⟨by (with_reducible repeat (first | refine blk_drewN ?_ _ | refine blk_drew ?_ | refine blk_alloc ?_ _)); exact BK381.out⟩, ⟨by repeat (first | (with_reducible first | exact HB.out | apply below_alloc | apply pw_below_drewN | apply below_drew1 | refine below_set ?_ GE381.out) | exact HB.out)⟩⟩
    ·rw [if_neg c19] at H
     have c19b0 : (t387 == 0) = false := beq_eq_false_iff_ne.mpr c19
     have c19b1 : (t387 != 0) = true := bne_iff_ne.mpr c19
     have H' := Aside0.mk H
     clear H
     go_wp2
     go_meet
     case rel => exact ⟨_, (true), (by first | rfl | (simp; done) | (simp [*]; done)), H', ⟨by first | omega | exact Nat.le_refl _⟩, ⟨by (with_reducible repeat (first | refine blk_drewN ?_ _ | refine blk_drew ?_ | refine blk_alloc ?_ _)); exact BK381.out⟩, ⟨by repeat (first | (with_reducible first | exact HB.out | apply below_alloc | apply pw_below_drewN | apply below_drew1 | refine below_set ?_ GE381.out) | exact HB.out)⟩⟩
   ·rw [if_neg c18] at H
    have c18b0 : (t380 == 0) = false := beq_eq_false_iff_ne.mpr c18
    have c18b1 : (t380 != 0) = true := bne_iff_ne.mpr c18
    (first | rw [c18b0] | (simp only [i64_w, i32_w]; rw [c18b0]) | skip)
    have H' := Aside0.mk H
    clear H
    go_wp2
    go_meet
    case rel => exact ⟨_, (true), (by first | rfl | (simp; done) | (simp [*]; done)), H', ⟨by first | omega | exact Nat.le_refl _⟩, ⟨by (with_reducible repeat (first | refine blk_drewN ?_ _ | refine blk_drew ?_ | refine blk_alloc ?_ _)); exact BK381.out⟩, ⟨by repeat (first | (with_reducible first | exact HB.out | apply below_alloc | apply pw_below_drewN | apply below_drew1 | refine below_set ?_ GE381.out) | exact HB.out)⟩⟩
  case rest =>
   clear HC10
   try clear c1
   try clear c2
   try clear p2
   try clear c4
   try clear c5
   try clear c12
   try clear c15
   try clear c17
   try clear c18
   try clear c18b0
   try clear c18b1
   try clear c19
   try clear c19b0
   try clear c19b1
   try clear c20
   try clear c20b0
   try clear c20b1
   try clear c21
   try clear c21b0
   try clear hcz14_0
   try clear hcz14_1
   try clear hcz14_2
   try clear hcz14_3
   try clear hcz14_4
   try clear hcz16_0
   try clear hcz16_1
   try clear hcz16_2
   try clear hcz16_3
   try clear hcz16_4
   try clear hfz14_0
   try clear hfz14_1
   try clear hfz14_2
   try clear hfz14_3
   try clear hfz14_4
   try clear hfz16_0
   try clear hfz16_1
   try clear hfz16_2
   try clear hfz16_3
   try clear hfz16_4
   obtain ⟨kq, x69_9, rfl, HA, HJ9, BK381, HB⟩ := hcut
   cases kq with
   | zero => exact absurd HA.out (by simp [q_DriveArrives.j0])
   | succ kj9 =>
    have H := HA.out
    clear HA
    simp only [q_DriveArrives.j0] at H
    by_cases c22 : x69_9 = true
    ·subst c22
     have H1 : (none) = some r := by rw [if_pos rfl] at H; exact H
     clear H
     have H := H1
     clear H1
     exact absurd H (by simp)
    ·replace c22 := Bool.eq_false_iff.mpr c22
     subst c22
     have H1 : (q_DriveArrives.l0 kj9 t371 t372 t373 t374 t388 t382 t383 t384 t385 t386) = some r := by rw [if_neg (show ¬ (false = true) by decide)] at H; exact H
     clear H
     have H := H1
     clear H1
     have H' := Aside0.mk H
     clear H
     go_wp2
     go_loopg [15] kj9 (fun kq v15 w' => ∃ (x15_2 : Int) (x382000_2 : Int) (x382001_2 : Int) (x382002_2 : Int) (x382003_2 : Int) (x382004_2 : Int), v15 = .int .i64 x15_2 ∧ Aside0 (q_DriveArrives.l0 kq t371 t372 t373 t374 x15_2 x382000_2 x382001_2 x382002_2 x382003_2 x382004_2 = some r) ∧ Aside0 (kq ≤ kj9) ∧ Aside0 (w'.heap[gb381]? = some (.cells #[.int .i64 x382000_2, .int .i64 x382001_2, .int .i64 x382002_2, .int .i64 x382003_2, .int .i64 x382004_2] 24 (0, 0))) ∧ Aside0 (Below w.heap.size w w'))
     case atStart => exact ⟨(t388), (t382), (t383), (t384), (t385), (t386), (by first | rfl | (simp; done) | (simp [*]; done)), H', ⟨Nat.le_refl _⟩, ⟨by (with_reducible repeat (first | refine blk_drewN ?_ _ | refine blk_drew ?_ | refine blk_alloc ?_ _)); exact BK381.out⟩, ⟨by repeat (first | (with_reducible first | exact HB.out | apply below_alloc | apply pw_below_drewN | apply below_drew1 | refine below_set ?_ GE381.out) | exact HB.out)⟩⟩
     case round =>
      clear H'
      try clear c1
      try clear c2
      try clear p2
      try clear c4
      try clear c5
      try clear c12
      try clear c15
      try clear c17
      try clear c18
      try clear c18b0
      try clear c18b1
      try clear c19
      try clear c19b0
      try clear c19b1
      try clear c20
      try clear c20b0
      try clear c20b1
      try clear c21
      try clear c21b0
      try clear c22
      try clear hcz14_0
      try clear hcz14_1
      try clear hcz14_2
      try clear hcz14_3
      try clear hcz14_4
      try clear hcz16_0
      try clear hcz16_1
      try clear hcz16_2
      try clear hcz16_3
      try clear hcz16_4
      try clear hfz14_0
      try clear hfz14_1
      try clear hfz14_2
      try clear hfz14_3
      try clear hfz14_4
      try clear hfz16_0
      try clear hfz16_1
      try clear hfz16_2
      try clear hfz16_3
      try clear hfz16_4
      try clear p2
      obtain ⟨x15_2, x382000_2, x382001_2, x382002_2, x382003_2, x382004_2, rfl, HA, HK2, BK381, HB⟩ := hrel
      cases gk with
      | zero => exact absurd HA.out (by simp [q_DriveArrives.l0])
      | succ k2 =>
       have H := HA.out
       clear HA
       simp only [q_DriveArrives.l0] at H
       by_cases c23 : x15_2 > 0
       ·rw [if_pos c23] at H
        have c23b0 : decide (0 < x15_2) = true := decide_eq_true c23
        clear c23
        replace H := Option.bind_eq_some_iff.mp H
        obtain ⟨⟨t390, t391, t392, t393, t394, t395, t396⟩, A240, H⟩ := H
        replace H : ((drive_Needs.f k2 t390 t391 t392 t393 t394 t373 t374).bind fun bt398 => (if t396 = 0 then (if bt398.2 = 0 then (if bt398.1 = (wrap64 (x15_2 - 1)) then ((drive_Check.f k2 t390 t391 t392 t393 t394).bind fun t400 => (if t400 = 0 then (if t390 < (mn t371 t372) then (none) else (if t390 > (mx t371 t372) then (none) else (if t395 = true then (if (wrap64 ((mx t390 x382000_2) - (mn t390 x382000_2))) > t373 then (none) else (if (wrap64 ((mx t390 x382000_2) - (mn t390 x382000_2))) > (wrap64 (x382002_2 + 1)) then (none) else (if (wrap64 ((mx t390 x382000_2) - (mn t390 x382000_2))) < (wrap64 (x382002_2 - 1)) then (none) else (if t393 = 2 then (if t392 = (wrap64 ((mx t390 x382000_2) - (mn t390 x382000_2))) then (q_DriveArrives.l0 k2 t371 t372 t373 t374 bt398.1 t390 t391 t392 t393 t394) else (none)) else (q_DriveArrives.l0 k2 t371 t372 t373 t374 bt398.1 t390 t391 t392 t393 t394))))) else (if (wrap64 ((mx t390 x382000_2) - (mn t390 x382000_2))) > 0 then (none) else (if (wrap64 ((mx t390 x382000_2) - (mn t390 x382000_2))) > t373 then (none) else (if (wrap64 ((mx t390 x382000_2) - (mn t390 x382000_2))) > (wrap64 (x382002_2 + 1)) then (none) else (if (wrap64 ((mx t390 x382000_2) - (mn t390 x382000_2))) < (wrap64 (x382002_2 - 1)) then (none) else (if t393 = 2 then (if t392 = (wrap64 ((mx t390 x382000_2) - (mn t390 x382000_2))) then (q_DriveArrives.l0 k2 t371 t372 t373 t374 bt398.1 t390 t391 t392 t393 t394) else (none)) else (q_DriveArrives.l0 k2 t371 t372 t373 t374 bt398.1 t390 t391 t392 t393 t394))))))))) else (none))) else (none)) else (none)) else (none))) = some r := H
        have A24 := Aside0.mk A240
        clear A240
        replace H := Option.bind_eq_some_iff.mp H
        obtain ⟨⟨t398, t399⟩, A250, H⟩ := H
        replace H : (if t396 = 0 then (if t399 = 0 then (if t398 = (wrap64 (x15_2 - 1)) then ((drive_Check.f k2 t390 t391 t392 t393 t394).bind fun t400 => (if t400 = 0 then (if t390 < (mn t371 t372) then (none) else (if t390 > (mx t371 t372) then (none) else (if t395 = true then (if (wrap64 ((mx t390 x382000_2) - (mn t390 x382000_2))) > t373 then (none) else (if (wrap64 ((mx t390 x382000_2) - (mn t390 x382000_2))) > (wrap64 (x382002_2 + 1)) then (none) else (if (wrap64 ((mx t390 x382000_2) - (mn t390 x382000_2))) < (wrap64 (x382002_2 - 1)) then (none) else (if t393 = 2 then (if t392 = (wrap64 ((mx t390 x382000_2) - (mn t390 x382000_2))) then (q_DriveArrives.l0 k2 t371 t372 t373 t374 t398 t390 t391 t392 t393 t394) else (none)) else (q_DriveArrives.l0 k2 t371 t372 t373 t374 t398 t390 t391 t392 t393 t394))))) else (if (wrap64 ((mx t390 x382000_2) - (mn t390 x382000_2))) > 0 then (none) else (if (wrap64 ((mx t390 x382000_2) - (mn t390 x382000_2))) > t373 then (none) else (if (wrap64 ((mx t390 x382000_2) - (mn t390 x382000_2))) > (wrap64 (x382002_2 + 1)) then (none) else (if (wrap64 ((mx t390 x382000_2) - (mn t390 x382000_2))) < (wrap64 (x382002_2 - 1)) then (none) else (if t393 = 2 then (if t392 = (wrap64 ((mx t390 x382000_2) - (mn t390 x382000_2))) then (q_DriveArrives.l0 k2 t371 t372 t373 t374 t398 t390 t391 t392 t393 t394) else (none)) else (q_DriveArrives.l0 k2 t371 t372 t373 t374 t398 t390 t391 t392 t393 t394))))))))) else (none))) else (none)) else (none)) else (none)) = some r := H
        have A25 := Aside0.mk A250
        clear A250
        obtain ⟨ji26, hji26⟩ : ∃ j_ : Int, (mx t390 x382000_2) = j_ := ⟨_, rfl⟩
        replace H : (if t396 = 0 then (if t399 = 0 then (if t398 = (wrap64 (x15_2 - 1)) then ((drive_Check.f k2 t390 t391 t392 t393 t394).bind fun t400 => (if t400 = 0 then (if t390 < (mn t371 t372) then (none) else (if t390 > (mx t371 t372) then (none) else (if t395 = true then (if (wrap64 ((ji26) - (mn t390 x382000_2))) > t373 then (none) else (if (wrap64 ((ji26) - (mn t390 x382000_2))) > (wrap64 (x382002_2 + 1)) then (none) else (if (wrap64 ((ji26) - (mn t390 x382000_2))) < (wrap64 (x382002_2 - 1)) then (none) else (if t393 = 2 then (if t392 = (wrap64 ((ji26) - (mn t390 x382000_2))) then (q_DriveArrives.l0 k2 t371 t372 t373 t374 t398 t390 t391 t392 t393 t394) else (none)) else (q_DriveArrives.l0 k2 t371 t372 t373 t374 t398 t390 t391 t392 t393 t394))))) else (if (wrap64 ((ji26) - (mn t390 x382000_2))) > 0 then (none) else (if (wrap64 ((ji26) - (mn t390 x382000_2))) > t373 then (none) else (if (wrap64 ((ji26) - (mn t390 x382000_2))) > (wrap64 (x382002_2 + 1)) then (none) else (if (wrap64 ((ji26) - (mn t390 x382000_2))) < (wrap64 (x382002_2 - 1)) then (none) else (if t393 = 2 then (if t392 = (wrap64 ((ji26) - (mn t390 x382000_2))) then (q_DriveArrives.l0 k2 t371 t372 t373 t374 t398 t390 t391 t392 t393 t394) else (none)) else (q_DriveArrives.l0 k2 t371 t372 t373 t374 t398 t390 t391 t392 t393 t394))))))))) else (none))) else (none)) else (none)) else (none)) = some r := by first | (rw [hji26] at H; exact H) | (simp only [hji26] at H ⊢; exact H)
        (try rw [hji26] at A24)
        (try rw [hji26] at A25)
        have hji26_ : (if t390 < x382000_2 then x382000_2 else t390) = ji26 := hji26
        obtain ⟨ji27, hji27⟩ : ∃ j_ : Int, (mn t390 x382000_2) = j_ := ⟨_, rfl⟩
        replace H : (if t396 = 0 then (if t399 = 0 then (if t398 = (wrap64 (x15_2 - 1)) then ((drive_Check.f k2 t390 t391 t392 t393 t394).bind fun t400 => (if t400 = 0 then (if t390 < (mn t371 t372) then (none) else (if t390 > (mx t371 t372) then (none) else (if t395 = true then (if (wrap64 ((ji26) - (ji27))) > t373 then (none) else (if (wrap64 ((ji26) - (ji27))) > (wrap64 (x382002_2 + 1)) then (none) else (if (wrap64 ((ji26) - (ji27))) < (wrap64 (x382002_2 - 1)) then (none) else (if t393 = 2 then (if t392 = (wrap64 ((ji26) - (ji27))) then (q_DriveArrives.l0 k2 t371 t372 t373 t374 t398 t390 t391 t392 t393 t394) else (none)) else (q_DriveArrives.l0 k2 t371 t372 t373 t374 t398 t390 t391 t392 t393 t394))))) else (if (wrap64 ((ji26) - (ji27))) > 0 then (none) else (if (wrap64 ((ji26) - (ji27))) > t373 then (none) else (if (wrap64 ((ji26) - (ji27))) > (wrap64 (x382002_2 + 1)) then (none) else (if (wrap64 ((ji26) - (ji27))) < (wrap64 (x382002_2 - 1)) then (none) else (if t393 = 2 then (if t392 = (wrap64 ((ji26) - (ji27))) then (q_DriveArrives.l0 k2 t371 t372 t373 t374 t398 t390 t391 t392 t393 t394) else (none)) else (q_DriveArrives.l0 k2 t371 t372 t373 t374 t398 t390 t391 t392 t393 t394))))))))) else (none))) else (none)) else (none)) else (none)) = some r := by first | (rw [hji27] at H; exact H) | (simp only [hji27] at H ⊢; exact H)
        (try rw [hji27] at A24)
        (try rw [hji27] at A25)
        have hji27_ : (if x382000_2 < t390 then x382000_2 else t390) = ji27 := hji27
        by_cases c28 : t396 = 0
        ·rw [if_pos c28] at H
         have c28b0 : (t396 == 0) = true := beq_iff_eq.mpr c28
         have c28b1 : (t396 != 0) = false := bne_eq_false_iff_eq.mpr c28
         clear c28
         by_cases c29 : t399 = 0
         ·rw [if_pos c29] at H
          have c29b0 : (t399 == 0) = true := beq_iff_eq.mpr c29
          have c29b1 : (t399 != 0) = false := bne_eq_false_iff_eq.mpr c29
          clear c29
          by_cases c30 : t398 = (wrap64 (x15_2 - 1))
          ·rw [if_pos c30] at H
           have c30b0 : (t398 == (wrap64 (x15_2 - 1))) = true := beq_iff_eq.mpr c30
           have c30b1 : (t398 != (wrap64 (x15_2 - 1))) = false := bne_eq_false_iff_eq.mpr c30
           clear c30
           replace H := Option.bind_eq_some_iff.mp H
           obtain ⟨t400, A310, H⟩ := H
           replace H : (if t400 = 0 then (if t390 < (mn t371 t372) then (none) else (if t390 > (mx t371 t372) then (none) else (if t395 = true then (if (wrap64 ((ji26) - (ji27))) > t373 then (none) else (if (wrap64 ((ji26) - (ji27))) > (wrap64 (x382002_2 + 1)) then (none) else (if (wrap64 ((ji26) - (ji27))) < (wrap64 (x382002_2 - 1)) then (none) else (if t393 = 2 then (if t392 = (wrap64 ((ji26) - (ji27))) then (q_DriveArrives.l0 k2 t371 t372 t373 t374 t398 t390 t391 t392 t393 t394) else (none)) else (q_DriveArrives.l0 k2 t371 t372 t373 t374 t398 t390 t391 t392 t393 t394))))) else (if (wrap64 ((ji26) - (ji27))) > 0 then (none) else (if (wrap64 ((ji26) - (ji27))) > t373 then (none) else (if (wrap64 ((ji26) - (ji27))) > (wrap64 (x382002_2 + 1)) then (none) else (if (wrap64 ((ji26) - (ji27))) < (wrap64 (x382002_2 - 1)) then (none) else (if t393 = 2 then (if t392 = (wrap64 ((ji26) - (ji27))) then (q_DriveArrives.l0 k2 t371 t372 t373 t374 t398 t390 t391 t392 t393 t394) else (none)) else (q_DriveArrives.l0 k2 t371 t372 t373 t374 t398 t390 t391 t392 t393 t394))))))))) else (none)) = some r := H
           have A31 := Aside0.mk A310
           clear A310
           by_cases c32 : t400 = 0
           ·rw [if_pos c32] at H
            have c32b0 : (t400 == 0) = true := beq_iff_eq.mpr c32
            have c32b1 : (t400 != 0) = false := bne_eq_false_iff_eq.mpr c32
            clear c32
            obtain ⟨ji33, hji33⟩ : ∃ j_ : Int, (mn t371 t372) = j_ := ⟨_, rfl⟩
            replace H : (if t390 < (ji33) then (none) else (if t390 > (mx t371 t372) then (none) else (if t395 = true then (if (wrap64 ((ji26) - (ji27))) > t373 then (none) else (if (wrap64 ((ji26) - (ji27))) > (wrap64 (x382002_2 + 1)) then (none) else (if (wrap64 ((ji26) - (ji27))) < (wrap64 (x382002_2 - 1)) then (none) else (if t393 = 2 then (if t392 = (wrap64 ((ji26) - (ji27))) then (q_DriveArrives.l0 k2 t371 t372 t373 t374 t398 t390 t391 t392 t393 t394) else (none)) else (q_DriveArrives.l0 k2 t371 t372 t373 t374 t398 t390 t391 t392 t393 t394))))) else (if (wrap64 ((ji26) - (ji27))) > 0 then (none) else (if (wrap64 ((ji26) - (ji27))) > t373 then (none) else (if (wrap64 ((ji26) - (ji27))) > (wrap64 (x382002_2 + 1)) then (none) else (if (wrap64 ((ji26) - (ji27))) < (wrap64 (x382002_2 - 1)) then (none) else (if t393 = 2 then (if t392 = (wrap64 ((ji26) - (ji27))) then (q_DriveArrives.l0 k2 t371 t372 t373 t374 t398 t390 t391 t392 t393 t394) else (none)) else (q_DriveArrives.l0 k2 t371 t372 t373 t374 t398 t390 t391 t392 t393 t394))))))))) = some r := by first | (rw [hji33] at H; exact H) | (simp only [hji33] at H ⊢; exact H)
            (try rw [hji33] at A24)
            (try rw [hji33] at A25)
            (try rw [hji33] at A31)
            have hji33_ : (if t372 < t371 then t372 else t371) = ji33 := hji33
            by_cases c34 : t390 < (ji33)
            ·rw [if_pos c34] at H
             exact absurd H (by simp)
            ·rw [if_neg c34] at H
             have c34b0 : decide (t390 < (ji33)) = false := decide_eq_false c34
             clear c34
             obtain ⟨ji35, hji35⟩ : ∃ j_ : Int, (mx t371 t372) = j_ := ⟨_, rfl⟩
             replace H : (if t390 > (ji35) then (none) else (if t395 = true then (if (wrap64 ((ji26) - (ji27))) > t373 then (none) else (if (wrap64 ((ji26) - (ji27))) > (wrap64 (x382002_2 + 1)) then (none) else (if (wrap64 ((ji26) - (ji27))) < (wrap64 (x382002_2 - 1)) then (none) else (if t393 = 2 then (if t392 = (wrap64 ((ji26) - (ji27))) then (q_DriveArrives.l0 k2 t371 t372 t373 t374 t398 t390 t391 t392 t393 t394) else (none)) else (q_DriveArrives.l0 k2 t371 t372 t373 t374 t398 t390 t391 t392 t393 t394))))) else (if (wrap64 ((ji26) - (ji27))) > 0 then (none) else (if (wrap64 ((ji26) - (ji27))) > t373 then (none) else (if (wrap64 ((ji26) - (ji27))) > (wrap64 (x382002_2 + 1)) then (none) else (if (wrap64 ((ji26) - (ji27))) < (wrap64 (x382002_2 - 1)) then (none) else (if t393 = 2 then (if t392 = (wrap64 ((ji26) - (ji27))) then (q_DriveArrives.l0 k2 t371 t372 t373 t374 t398 t390 t391 t392 t393 t394) else (none)) else (q_DriveArrives.l0 k2 t371 t372 t373 t374 t398 t390 t391 t392 t393 t394)))))))) = some r := by first | (rw [hji35] at H; exact H) | (simp only [hji35] at H ⊢; exact H)
             (try rw [hji35] at A24)
             (try rw [hji35] at A25)
             (try rw [hji35] at A31)
             have hji35_ : (if t371 < t372 then t372 else t371) = ji35 := hji35
             by_cases c36 : t390 > (ji35)
             ·rw [if_pos c36] at H
              exact absurd H (by simp)
             ·rw [if_neg c36] at H
              have c36b0 : decide ((ji35) < t390) = false := decide_eq_false c36
              clear c36
              by_cases c37 : t395 = true
              ·subst c37
               have H1 : (if (wrap64 ((ji26) - (ji27))) > t373 then (none) else (if (wrap64 ((ji26) - (ji27))) > (wrap64 (x382002_2 + 1)) then (none) else (if (wrap64 ((ji26) - (ji27))) < (wrap64 (x382002_2 - 1)) then (none) else (if t393 = 2 then (if t392 = (wrap64 ((ji26) - (ji27))) then (q_DriveArrives.l0 k2 t371 t372 t373 t374 t398 t390 t391 t392 t393 t394) else (none)) else (q_DriveArrives.l0 k2 t371 t372 t373 t374 t398 t390 t391 t392 t393 t394))))) = some r := by rw [if_pos rfl] at H; exact H
               clear H
               have H := H1
               clear H1
               by_cases c38 : (wrap64 ((ji26) - (ji27))) > t373
               ·rw [if_pos c38] at H
                exact absurd H (by simp)
               ·rw [if_neg c38] at H
                have c38b0 : decide (t373 < (wrap64 ((ji26) - (ji27)))) = false := decide_eq_false c38
                clear c38
                by_cases c39 : (wrap64 ((ji26) - (ji27))) > (wrap64 (x382002_2 + 1))
                ·rw [if_pos c39] at H
                 exact absurd H (by simp)
                ·rw [if_neg c39] at H
                 have c39b0 : decide ((wrap64 (x382002_2 + 1)) < (wrap64 ((ji26) - (ji27)))) = false := decide_eq_false c39
                 clear c39
                 by_cases c40 : (wrap64 ((ji26) - (ji27))) < (wrap64 (x382002_2 - 1))
                 ·rw [if_pos c40] at H
                  exact absurd H (by simp)
                 ·rw [if_neg c40] at H
                  have c40b0 : decide ((wrap64 ((ji26) - (ji27))) < (wrap64 (x382002_2 - 1))) = false := decide_eq_false c40
                  clear c40
                  by_cases c41 : t393 = 2
                  ·rw [if_pos c41] at H
                   have c41b0 : (t393 == 2) = true := beq_iff_eq.mpr c41
                   have c41b1 : (t393 != 2) = false := bne_eq_false_iff_eq.mpr c41
                   clear c41
                   by_cases c42 : t392 = (wrap64 ((ji26) - (ji27)))
                   ·rw [if_pos c42] at H
                    have c42b0 : (t392 == (wrap64 ((ji26) - (ji27)))) = true := beq_iff_eq.mpr c42
                    have c42b1 : (t392 != (wrap64 ((ji26) - (ji27)))) = false := bne_eq_false_iff_eq.mpr c42
                    clear c42
                    have H' := Aside0.mk H
                    clear H
                    have hcz43_0 : wr.cell? ⟨gb381, 0, none⟩ = some (.int .i64 x382000_2) := (blk_cell BK381.out 0).trans rfl
                    have hcz43_1 : wr.cell? ⟨gb381, 1, none⟩ = some (.int .i64 x382001_2) := (blk_cell BK381.out 1).trans rfl
                    have hcz43_2 : wr.cell? ⟨gb381, 2, none⟩ = some (.int .i64 x382002_2) := (blk_cell BK381.out 2).trans rfl
                    have hcz43_3 : wr.cell? ⟨gb381, 3, none⟩ = some (.int .i64 x382003_2) := (blk_cell BK381.out 3).trans rfl
                    have hcz43_4 : wr.cell? ⟨gb381, 4, none⟩ = some (.int .i64 x382004_2) := (blk_cell BK381.out 4).trans rfl
                    have hfz43_0 := blk_frozen BK381.out 0
                    have hfz43_1 := blk_frozen BK381.out 1
                    have hfz43_2 := blk_frozen BK381.out 2
                    have hfz43_3 := blk_frozen BK381.out 3
                    have hfz43_4 := blk_frozen BK381.out 4
                    go_wp2_with (first | ((with_reducible refine gate_callee (f := 16) rfl ?_); refine goesL_ (some 76) rfl rfl Try.func16 (by kernel_rfl) rfl #[.agg #[.int .i64 x382000_2, .int .i64 x382001_2, .int .i64 x382002_2, .int .i64 x382003_2, .int .i64 x382004_2], .int .i64 t373, .int .i64 t374] rfl (by (try simp only [List.map_toArray, List.map_cons, List.map_nil]); first | done | rfl | (simp only [List.length_drop, List.length_take]; rfl)) ?_; (with_reducible refine (drive_Step.calls k2 x382000_2 x382001_2 x382002_2 x382003_2 x382004_2 t373 t374 t390 t391 t392 t393 t394 true t396 _ A24.out).mono ?_); rintro e w44 ⟨rfl, hb⟩; refine ⟨_, rfl, ?_⟩; have n0_ := Aside0.mk (blk_below (g := gb381) (o := .cells #[.int .i64 x382000_2, .int .i64 x382001_2, .int .i64 x382002_2, .int .i64 x382003_2, .int .i64 x382004_2] 24 (0, 0)) (by (with_reducible repeat (first | refine blk_drewN ?_ _ | refine blk_drew ?_ | refine blk_alloc ?_ _)); exact BK381.out) hb); have n1_ := Aside0.mk (below_step (by repeat (first | (with_reducible first | exact HB.out | apply below_alloc | apply pw_below_drewN | apply below_drew1 | refine below_set ?_ GE381.out) | exact HB.out)) hb); clear BK381; clear HB; have BK381 := n0_; have HB := n1_; clear n0_ n1_; (try clear hb); (try clear hb2); (try clear hk); (try clear hi)) | ((with_reducible refine gate_dst (N := 17) rfl ?_); (try (refine gate_guard (by rfl) ?_; dsimp only)); refine box_event ?hg (N := 17) ?hd (cs := #[.int .i64 0, .int .i64 0, .int .i64 0, .int .i64 0, .int .i64 0]) (t := 24) ?hr ?_; (case hd => rfl); (case hg => rfl); (case hr => first | (go_simp; done) | (go_simp; rfl)); intro gb397 hg w45 hbox hb; have n0_ := Aside0.mk (blk_below (g := gb381) (o := .cells #[.int .i64 x382000_2, .int .i64 x382001_2, .int .i64 x382002_2, .int .i64 x382003_2, .int .i64 x382004_2] 24 (0, 0)) (by (with_reducible repeat (first | refine blk_drewN ?_ _ | refine blk_drew ?_ | refine blk_alloc ?_ _)); exact BK381.out) hb); have n1_ := Aside0.mk (below_step (by repeat (first | (with_reducible first | exact HB.out | apply below_alloc | apply pw_below_drewN | apply below_drew1 | refine below_set ?_ GE381.out) | exact HB.out)) hb); have n2_ := Aside0.mk (hbox); have n3_ := Aside0.mk ((by rw [hg]; exact (below_size (by repeat (first | (with_reducible first | exact HB.out | apply below_alloc | apply pw_below_drewN | apply below_drew1 | refine below_set ?_ GE381.out) | exact HB.out))) : w.heap.size ≤ gb397)); have n4_ := Aside0.mk ((by rw [hg]; exact (below_size (by repeat (first | (with_reducible first | exact HB.out | apply below_alloc | apply pw_below_drewN | apply below_drew1 | refine below_set ?_ GE381.out) | exact HB.out))) : w.heap.size ≤ gb397)); have n5_ := Aside0.mk ((by rw [hg]; exact Nat.ne_of_lt (blk_lt (g := gb381) (o := .cells #[.int .i64 x382000_2, .int .i64 x382001_2, .int .i64 x382002_2, .int .i64 x382003_2, .int .i64 x382004_2] 24 (0, 0)) (by (with_reducible repeat (first | refine blk_drewN ?_ _ | refine blk_drew ?_ | refine blk_alloc ?_ _)); exact BK381.out)) : gb381 ≠ gb397)); have n6_ := Aside0.mk ((by rw [hg]; exact Nat.ne_of_gt (blk_lt (g := gb381) (o := .cells #[.int .i64 x382000_2, .int .i64 x382001_2, .int .i64 x382002_2, .int .i64 x382003_2, .int .i64 x382004_2] 24 (0, 0)) (by (with_reducible repeat (first | refine blk_drewN ?_ _ | refine blk_drew ?_ | refine blk_alloc ?_ _)); exact BK381.out)) : gb397 ≠ gb381)); clear BK381; clear HB; have BK381 := n0_; have HB := n1_; have BK397 := n2_; have GW397 := n3_; have GE397 := n4_; have NB381_397 := n5_; have NB397_381 := n6_; clear n0_ n1_ n2_ n3_ n4_ n5_ n6_; clear hb hbox hg; have hnb46 := NB397_381.out; have hnc46 := NB381_397.out; have hcz47_0 : w45.cell? ⟨gb397, 0, none⟩ = some (.int .i64 0) := (blk_cell BK397.out 0).trans rfl; have hcz47_1 : w45.cell? ⟨gb397, 1, none⟩ = some (.int .i64 0) := (blk_cell BK397.out 1).trans rfl; have hcz47_2 : w45.cell? ⟨gb397, 2, none⟩ = some (.int .i64 0) := (blk_cell BK397.out 2).trans rfl; have hcz47_3 : w45.cell? ⟨gb397, 3, none⟩ = some (.int .i64 0) := (blk_cell BK397.out 3).trans rfl; have hcz47_4 : w45.cell? ⟨gb397, 4, none⟩ = some (.int .i64 0) := (blk_cell BK397.out 4).trans rfl; have hfz47_0 := blk_frozen BK397.out 0; have hfz47_1 := blk_frozen BK397.out 1; have hfz47_2 := blk_frozen BK397.out 2; have hfz47_3 := blk_frozen BK397.out 3; have hfz47_4 := blk_frozen BK397.out 4) | ((with_reducible refine gate_callee (f := 15) rfl ?_); refine goesL_ (some 84) rfl rfl Try.func15 (by kernel_rfl) rfl #[.agg #[.int .i64 t390, .int .i64 t391, .int .i64 t392, .int .i64 t393, .int .i64 t394], .int .i64 t373, .int .i64 t374] rfl (by (try simp only [List.map_toArray, List.map_cons, List.map_nil]); first | done | rfl | (simp only [List.length_drop, List.length_take]; rfl)) ?_; (with_reducible refine (drive_Needs.calls k2 t390 t391 t392 t393 t394 t373 t374 t398 t399 _ A25.out).mono ?_); rintro e w48 ⟨rfl, hb⟩; refine ⟨_, rfl, ?_⟩; have n0_ := Aside0.mk (blk_below (g := gb381) (o := .cells #[.int .i64 x382000_2, .int .i64 x382001_2, .int .i64 x382002_2, .int .i64 x382003_2, .int .i64 x382004_2] 24 (0, 0)) (by (with_reducible repeat (first | refine blk_drewN ?_ _ | refine blk_drew ?_ | refine blk_alloc ?_ _)); refine blk_far ?_ NB381_397.out _; (with_reducible repeat (first | refine blk_drewN ?_ _ | refine blk_drew ?_ | refine blk_alloc ?_ _)); refine blk_far ?_ NB381_397.out _; (with_reducible repeat (first | refine blk_drewN ?_ _ | refine blk_drew ?_ | refine blk_alloc ?_ _)); refine blk_far ?_ NB381_397.out _; (with_reducible repeat (first | refine blk_drewN ?_ _ | refine blk_drew ?_ | refine blk_alloc ?_ _)); refine blk_far ?_ NB381_397.out _; (with_reducible repeat (first | refine blk_drewN ?_ _ | refine blk_drew ?_ | refine blk_alloc ?_ _)); refine blk_far ?_ NB381_397.out _; (with_reducible repeat (first | refine blk_drewN ?_ _ | refine blk_drew ?_ | refine blk_alloc ?_ _)); exact BK381.out) hb); have n1_ := Aside0.mk (blk_below (g := gb397) (o := .cells #[.int .i64 t390, .int .i64 t391, .int .i64 t392, .int .i64 t393, .int .i64 t394] 24 (0, 0)) (by (with_reducible repeat (first | refine blk_drewN ?_ _ | refine blk_drew ?_ | refine blk_alloc ?_ _)); refine blk_put (cs := #[.int .i64 t390, .int .i64 t391, .int .i64 t392, .int .i64 t393, .int .i64 0]) ?_ 4 _ rfl; (with_reducible repeat (first | refine blk_drewN ?_ _ | refine blk_drew ?_ | refine blk_alloc ?_ _)); refine blk_put (cs := #[.int .i64 t390, .int .i64 t391, .int .i64 t392, .int .i64 0, .int .i64 0]) ?_ 3 _ rfl; (with_reducible repeat (first | refine blk_drewN ?_ _ | refine blk_drew ?_ | refine blk_alloc ?_ _)); refine blk_put (cs := #[.int .i64 t390, .int .i64 t391, .int .i64 0, .int .i64 0, .int .i64 0]) ?_ 2 _ rfl; (with_reducible repeat (first | refine blk_drewN ?_ _ | refine blk_drew ?_ | refine blk_alloc ?_ _)); refine blk_put (cs := #[.int .i64 t390, .int .i64 0, .int .i64 0, .int .i64 0, .int .i64 0]) ?_ 1 _ rfl; (with_reducible repeat (first | refine blk_drewN ?_ _ | refine blk_drew ?_ | refine blk_alloc ?_ _)); refine blk_put (cs := #[.int .i64 0, .int .i64 0, .int .i64 0, .int .i64 0, .int .i64 0]) ?_ 0 _ rfl; (with_reducible repeat (first | refine blk_drewN ?_ _ | refine blk_drew ?_ | refine blk_alloc ?_ _)); exact BK397.out) hb); have n2_ := Aside0.mk (below_step (by repeat (first | (with_reducible first | exact HB.out | apply below_alloc | apply pw_below_drewN | apply below_drew1 | refine below_set ?_ GE381.out | refine below_set ?_ GE397.out) | exact HB.out)) hb); clear BK381; clear BK397; clear HB; have BK381 := n0_; have BK397 := n1_; have HB := n2_; clear n0_ n1_ n2_; (try clear hb); (try clear hb2); (try clear hk); (try clear hi); have hcz49_0 : w48.cell? ⟨gb397, 0, none⟩ = some (.int .i64 t390) := (blk_cell BK397.out 0).trans rfl; have hcz49_1 : w48.cell? ⟨gb397, 1, none⟩ = some (.int .i64 t391) := (blk_cell BK397.out 1).trans rfl; have hcz49_2 : w48.cell? ⟨gb397, 2, none⟩ = some (.int .i64 t392) := (blk_cell BK397.out 2).trans rfl; have hcz49_3 : w48.cell? ⟨gb397, 3, none⟩ = some (.int .i64 t393) := (blk_cell BK397.out 3).trans rfl; have hcz49_4 : w48.cell? ⟨gb397, 4, none⟩ = some (.int .i64 t394) := (blk_cell BK397.out 4).trans rfl; have hfz49_0 := blk_frozen BK397.out 0; have hfz49_1 := blk_frozen BK397.out 1; have hfz49_2 := blk_frozen BK397.out 2; have hfz49_3 := blk_frozen BK397.out 3; have hfz49_4 := blk_frozen BK397.out 4; have hcz50_0 : w48.cell? ⟨gb381, 0, none⟩ = some (.int .i64 x382000_2) := (blk_cell BK381.out 0).trans rfl; have hcz50_1 : w48.cell? ⟨gb381, 1, none⟩ = some (.int .i64 x382001_2) := (blk_cell BK381.out 1).trans rfl; have hcz50_2 : w48.cell? ⟨gb381, 2, none⟩ = some (.int .i64 x382002_2) := (blk_cell BK381.out 2).trans rfl; have hcz50_3 : w48.cell? ⟨gb381, 3, none⟩ = some (.int .i64 x382003_2) := (blk_cell BK381.out 3).trans rfl; have hcz50_4 : w48.cell? ⟨gb381, 4, none⟩ = some (.int .i64 x382004_2) := (blk_cell BK381.out 4).trans rfl; have hfz50_0 := blk_frozen BK381.out 0; have hfz50_1 := blk_frozen BK381.out 1; have hfz50_2 := blk_frozen BK381.out 2; have hfz50_3 := blk_frozen BK381.out 3; have hfz50_4 := blk_frozen BK381.out 4) | (go_at_call 20; (with_reducible refine (drive_Check.calls k2 t390 t391 t392 t393 t394 t400 _ A31.out).mono ?_); rintro e w51 ⟨rfl, hb⟩; have n0_ := Aside0.mk (blk_below (g := gb381) (o := .cells #[.int .i64 x382000_2, .int .i64 x382001_2, .int .i64 x382002_2, .int .i64 x382003_2, .int .i64 x382004_2] 24 (0, 0)) (by (with_reducible repeat (first | refine blk_drewN ?_ _ | refine blk_drew ?_ | refine blk_alloc ?_ _)); exact BK381.out) hb); have n1_ := Aside0.mk (blk_below (g := gb397) (o := .cells #[.int .i64 t390, .int .i64 t391, .int .i64 t392, .int .i64 t393, .int .i64 t394] 24 (0, 0)) (by (with_reducible repeat (first | refine blk_drewN ?_ _ | refine blk_drew ?_ | refine blk_alloc ?_ _)); exact BK397.out) hb); have n2_ := Aside0.mk (below_step (by repeat (first | (with_reducible first | exact HB.out | apply below_alloc | apply pw_below_drewN | apply below_drew1 | refine below_set ?_ GE381.out | refine below_set ?_ GE397.out) | exact HB.out)) hb); clear BK381; clear BK397; clear HB; have BK381 := n0_; have BK397 := n1_; have HB := n2_; clear n0_ n1_ n2_; (try clear hb); (try clear hb2); (try clear hk); (try clear hi); have hcz52_0 : w51.cell? ⟨gb397, 0, none⟩ = some (.int .i64 t390) := (blk_cell BK397.out 0).trans rfl; have hcz52_1 : w51.cell? ⟨gb397, 1, none⟩ = some (.int .i64 t391) := (blk_cell BK397.out 1).trans rfl; have hcz52_2 : w51.cell? ⟨gb397, 2, none⟩ = some (.int .i64 t392) := (blk_cell BK397.out 2).trans rfl; have hcz52_3 : w51.cell? ⟨gb397, 3, none⟩ = some (.int .i64 t393) := (blk_cell BK397.out 3).trans rfl; have hcz52_4 : w51.cell? ⟨gb397, 4, none⟩ = some (.int .i64 t394) := (blk_cell BK397.out 4).trans rfl; have hfz52_0 := blk_frozen BK397.out 0; have hfz52_1 := blk_frozen BK397.out 1; have hfz52_2 := blk_frozen BK397.out 2; have hfz52_3 := blk_frozen BK397.out 3; have hfz52_4 := blk_frozen BK397.out 4; have hcz53_0 : w51.cell? ⟨gb381, 0, none⟩ = some (.int .i64 x382000_2) := (blk_cell BK381.out 0).trans rfl; have hcz53_1 : w51.cell? ⟨gb381, 1, none⟩ = some (.int .i64 x382001_2) := (blk_cell BK381.out 1).trans rfl; have hcz53_2 : w51.cell? ⟨gb381, 2, none⟩ = some (.int .i64 x382002_2) := (blk_cell BK381.out 2).trans rfl; have hcz53_3 : w51.cell? ⟨gb381, 3, none⟩ = some (.int .i64 x382003_2) := (blk_cell BK381.out 3).trans rfl; have hcz53_4 : w51.cell? ⟨gb381, 4, none⟩ = some (.int .i64 x382004_2) := (blk_cell BK381.out 4).trans rfl; have hfz53_0 := blk_frozen BK381.out 0; have hfz53_1 := blk_frozen BK381.out 1; have hfz53_2 := blk_frozen BK381.out 2; have hfz53_3 := blk_frozen BK381.out 3; have hfz53_4 := blk_frozen BK381.out 4))
                    go_roundg k2
                    case measure => have := HJ9.out; have := HK2.out; omega
                    case rel => exact ⟨(t398), (t390), (t391), (t392), (t393), (t394), (by first | rfl | (simp; done) | (simp [*]; done)), H', ⟨by have := HJ9.out; have := HK2.out; omega⟩, ⟨by (with_reducible repeat (first | refine blk_drewN ?_ _ | refine blk_drew ?_ | refine blk_alloc ?_ _)); refine blk_put (cs := #[.int .i64 t390, .int .i64 t391, .int .i64 t392, .int .i64 t393, .int .i64 x382004_2]) ?_ 4 _ rfl; (with_reducible repeat (first | refine blk_drewN ?_ _ | refine blk_drew ?_ | refine blk_alloc ?_ _)); refine blk_put (cs := #[.int .i64 t390, .int .i64 t391, .int .i64 t392, .int .i64 x382003_2, .int .i64 x382004_2]) ?_ 3 _ rfl; (with_reducible repeat (first | refine blk_drewN ?_ _ | refine blk_drew ?_ | refine blk_alloc ?_ _)); refine blk_put (cs := #[.int .i64 t390, .int .i64 t391, .int .i64 x382002_2, .int .i64 x382003_2, .int .i64 x382004_2]) ?_ 2 _ rfl; (with_reducible repeat (first | refine blk_drewN ?_ _ | refine blk_drew ?_ | refine blk_alloc ?_ _)); refine blk_put (cs := #[.int .i64 t390, .int .i64 x382001_2, .int .i64 x382002_2, .int .i64 x382003_2, .int .i64 x382004_2]) ?_ 1 _ rfl; (with_reducible repeat (first | refine blk_drewN ?_ _ | refine blk_drew ?_ | refine blk_alloc ?_ _)); refine blk_put (cs := #[.int .i64 x382000_2, .int .i64 x382001_2, .int .i64 x382002_2, .int .i64 x382003_2, .int .i64 x382004_2]) ?_ 0 _ rfl; (with_reducible repeat (first | refine blk_drewN ?_ _ | refine blk_drew ?_ | refine blk_alloc ?_ _)); exact BK381.out⟩, ⟨by repeat (first | (with_reducible first | exact HB.out | apply below_alloc | apply pw_below_drewN | apply below_drew1 | refine below_set ?_ GE381.out | refine below_set ?_ GE397.out) | exact HB.out)⟩⟩
                   ·rw [if_neg c42] at H
                    exact absurd H (by simp)
                  ·rw [if_neg c41] at H
                   have c41b0 : (t393 == 2) = false := beq_eq_false_iff_ne.mpr c41
                   have c41b1 : (t393 != 2) = true := bne_iff_ne.mpr c41
                   have H' := Aside0.mk H
                   clear H
                   have hcz54_0 : wr.cell? ⟨gb381, 0, none⟩ = some (.int .i64 x382000_2) := (blk_cell BK381.out 0).trans rfl
                   have hcz54_1 : wr.cell? ⟨gb381, 1, none⟩ = some (.int .i64 x382001_2) := (blk_cell BK381.out 1).trans rfl
                   have hcz54_2 : wr.cell? ⟨gb381, 2, none⟩ = some (.int .i64 x382002_2) := (blk_cell BK381.out 2).trans rfl
                   have hcz54_3 : wr.cell? ⟨gb381, 3, none⟩ = some (.int .i64 x382003_2) := (blk_cell BK381.out 3).trans rfl
                   have hcz54_4 : wr.cell? ⟨gb381, 4, none⟩ = some (.int .i64 x382004_2) := (blk_cell BK381.out 4).trans rfl
                   have hfz54_0 := blk_frozen BK381.out 0
                   have hfz54_1 := blk_frozen BK381.out 1
                   have hfz54_2 := blk_frozen BK381.out 2
                   have hfz54_3 := blk_frozen BK381.out 3
                   have hfz54_4 := blk_frozen BK381.out 4
                   go_wp2_with (first | ((with_reducible refine gate_callee (f := 16) rfl ?_); refine goesL_ (some 76) rfl rfl Try.func16 (by kernel_rfl) rfl #[.agg #[.int .i64 x382000_2, .int .i64 x382001_2, .int .i64 x382002_2, .int .i64 x382003_2, .int .i64 x382004_2], .int .i64 t373, .int .i64 t374] rfl (by (try simp only [List.map_toArray, List.map_cons, List.map_nil]); first | done | rfl | (simp only [List.length_drop, List.length_take]; rfl)) ?_; (with_reducible refine (drive_Step.calls k2 x382000_2 x382001_2 x382002_2 x382003_2 x382004_2 t373 t374 t390 t391 t392 t393 t394 true t396 _ A24.out).mono ?_); rintro e w55 ⟨rfl, hb⟩; refine ⟨_, rfl, ?_⟩; have n0_ := Aside0.mk (blk_below (g := gb381) (o := .cells #[.int .i64 x382000_2, .int .i64 x382001_2, .int .i64 x382002_2, .int .i64 x382003_2, .int .i64 x382004_2] 24 (0, 0)) (by (with_reducible repeat (first | refine blk_drewN ?_ _ | refine blk_drew ?_ | refine blk_alloc ?_ _)); exact BK381.out) hb); have n1_ := Aside0.mk (below_step (by repeat (first | (with_reducible first | exact HB.out | apply below_alloc | apply pw_below_drewN | apply below_drew1 | refine below_set ?_ GE381.out) | exact HB.out)) hb); clear BK381; clear HB; have BK381 := n0_; have HB := n1_; clear n0_ n1_; (try clear hb); (try clear hb2); (try clear hk); (try clear hi)) | ((with_reducible refine gate_dst (N := 17) rfl ?_); (try (refine gate_guard (by rfl) ?_; dsimp only)); refine box_event ?hg (N := 17) ?hd (cs := #[.int .i64 0, .int .i64 0, .int .i64 0, .int .i64 0, .int .i64 0]) (t := 24) ?hr ?_; (case hd => rfl); (case hg => rfl); (case hr => first | (go_simp; done) | (go_simp; rfl)); intro gb397 hg w56 hbox hb; have n0_ := Aside0.mk (blk_below (g := gb381) (o := .cells #[.int .i64 x382000_2, .int .i64 x382001_2, .int .i64 x382002_2, .int .i64 x382003_2, .int .i64 x382004_2] 24 (0, 0)) (by (with_reducible repeat (first | refine blk_drewN ?_ _ | refine blk_drew ?_ | refine blk_alloc ?_ _)); exact BK381.out) hb); have n1_ := Aside0.mk (below_step (by repeat (first | (with_reducible first | exact HB.out | apply below_alloc | apply pw_below_drewN | apply below_drew1 | refine below_set ?_ GE381.out) | exact HB.out)) hb); have n2_ := Aside0.mk (hbox); have n3_ := Aside0.mk ((by rw [hg]; exact (below_size (by repeat (first | (with_reducible first | exact HB.out | apply below_alloc | apply pw_below_drewN | apply below_drew1 | refine below_set ?_ GE381.out) | exact HB.out))) : w.heap.size ≤ gb397)); have n4_ := Aside0.mk ((by rw [hg]; exact (below_size (by repeat (first | (with_reducible first | exact HB.out | apply below_alloc | apply pw_below_drewN | apply below_drew1 | refine below_set ?_ GE381.out) | exact HB.out))) : w.heap.size ≤ gb397)); have n5_ := Aside0.mk ((by rw [hg]; exact Nat.ne_of_lt (blk_lt (g := gb381) (o := .cells #[.int .i64 x382000_2, .int .i64 x382001_2, .int .i64 x382002_2, .int .i64 x382003_2, .int .i64 x382004_2] 24 (0, 0)) (by (with_reducible repeat (first | refine blk_drewN ?_ _ | refine blk_drew ?_ | refine blk_alloc ?_ _)); exact BK381.out)) : gb381 ≠ gb397)); have n6_ := Aside0.mk ((by rw [hg]; exact Nat.ne_of_gt (blk_lt (g := gb381) (o := .cells #[.int .i64 x382000_2, .int .i64 x382001_2, .int .i64 x382002_2, .int .i64 x382003_2, .int .i64 x382004_2] 24 (0, 0)) (by (with_reducible repeat (first | refine blk_drewN ?_ _ | refine blk_drew ?_ | refine blk_alloc ?_ _)); exact BK381.out)) : gb397 ≠ gb381)); clear BK381; clear HB; have BK381 := n0_; have HB := n1_; have BK397 := n2_; have GW397 := n3_; have GE397 := n4_; have NB381_397 := n5_; have NB397_381 := n6_; clear n0_ n1_ n2_ n3_ n4_ n5_ n6_; clear hb hbox hg; have hnb57 := NB397_381.out; have hnc57 := NB381_397.out; have hcz58_0 : w56.cell? ⟨gb397, 0, none⟩ = some (.int .i64 0) := (blk_cell BK397.out 0).trans rfl; have hcz58_1 : w56.cell? ⟨gb397, 1, none⟩ = some (.int .i64 0) := (blk_cell BK397.out 1).trans rfl; have hcz58_2 : w56.cell? ⟨gb397, 2, none⟩ = some (.int .i64 0) := (blk_cell BK397.out 2).trans rfl; have hcz58_3 : w56.cell? ⟨gb397, 3, none⟩ = some (.int .i64 0) := (blk_cell BK397.out 3).trans rfl; have hcz58_4 : w56.cell? ⟨gb397, 4, none⟩ = some (.int .i64 0) := (blk_cell BK397.out 4).trans rfl; have hfz58_0 := blk_frozen BK397.out 0; have hfz58_1 := blk_frozen BK397.out 1; have hfz58_2 := blk_frozen BK397.out 2; have hfz58_3 := blk_frozen BK397.out 3; have hfz58_4 := blk_frozen BK397.out 4) | ((with_reducible refine gate_callee (f := 15) rfl ?_); refine goesL_ (some 84) rfl rfl Try.func15 (by kernel_rfl) rfl #[.agg #[.int .i64 t390, .int .i64 t391, .int .i64 t392, .int .i64 t393, .int .i64 t394], .int .i64 t373, .int .i64 t374] rfl (by (try simp only [List.map_toArray, List.map_cons, List.map_nil]); first | done | rfl | (simp only [List.length_drop, List.length_take]; rfl)) ?_; (with_reducible refine (drive_Needs.calls k2 t390 t391 t392 t393 t394 t373 t374 t398 t399 _ A25.out).mono ?_); rintro e w59 ⟨rfl, hb⟩; refine ⟨_, rfl, ?_⟩; have n0_ := Aside0.mk (blk_below (g := gb381) (o := .cells #[.int .i64 x382000_2, .int .i64 x382001_2, .int .i64 x382002_2, .int .i64 x382003_2, .int .i64 x382004_2] 24 (0, 0)) (by (with_reducible repeat (first | refine blk_drewN ?_ _ | refine blk_drew ?_ | refine blk_alloc ?_ _)); refine blk_far ?_ NB381_397.out _; (with_reducible repeat (first | refine blk_drewN ?_ _ | refine blk_drew ?_ | refine blk_alloc ?_ _)); refine blk_far ?_ NB381_397.out _; (with_reducible repeat (first | refine blk_drewN ?_ _ | refine blk_drew ?_ | refine blk_alloc ?_ _)); refine blk_far ?_ NB381_397.out _; (with_reducible repeat (first | refine blk_drewN ?_ _ | refine blk_drew ?_ | refine blk_alloc ?_ _)); refine blk_far ?_ NB381_397.out _; (with_reducible repeat (first | refine blk_drewN ?_ _ | refine blk_drew ?_ | refine blk_alloc ?_ _)); refine blk_far ?_ NB381_397.out _; (with_reducible repeat (first | refine blk_drewN ?_ _ | refine blk_drew ?_ | refine blk_alloc ?_ _)); exact BK381.out) hb); have n1_ := Aside0.mk (blk_below (g := gb397) (o := .cells #[.int .i64 t390, .int .i64 t391, .int .i64 t392, .int .i64 t393, .int .i64 t394] 24 (0, 0)) (by (with_reducible repeat (first | refine blk_drewN ?_ _ | refine blk_drew ?_ | refine blk_alloc ?_ _)); refine blk_put (cs := #[.int .i64 t390, .int .i64 t391, .int .i64 t392, .int .i64 t393, .int .i64 0]) ?_ 4 _ rfl; (with_reducible repeat (first | refine blk_drewN ?_ _ | refine blk_drew ?_ | refine blk_alloc ?_ _)); refine blk_put (cs := #[.int .i64 t390, .int .i64 t391, .int .i64 t392, .int .i64 0, .int .i64 0]) ?_ 3 _ rfl; (with_reducible repeat (first | refine blk_drewN ?_ _ | refine blk_drew ?_ | refine blk_alloc ?_ _)); refine blk_put (cs := #[.int .i64 t390, .int .i64 t391, .int .i64 0, .int .i64 0, .int .i64 0]) ?_ 2 _ rfl; (with_reducible repeat (first | refine blk_drewN ?_ _ | refine blk_drew ?_ | refine blk_alloc ?_ _)); refine blk_put (cs := #[.int .i64 t390, .int .i64 0, .int .i64 0, .int .i64 0, .int .i64 0]) ?_ 1 _ rfl; (with_reducible repeat (first | refine blk_drewN ?_ _ | refine blk_drew ?_ | refine blk_alloc ?_ _)); refine blk_put (cs := #[.int .i64 0, .int .i64 0, .int .i64 0, .int .i64 0, .int .i64 0]) ?_ 0 _ rfl; (with_reducible repeat (first | refine blk_drewN ?_ _ | refine blk_drew ?_ | refine blk_alloc ?_ _)); exact BK397.out) hb); have n2_ := Aside0.mk (below_step (by repeat (first | (with_reducible first | exact HB.out | apply below_alloc | apply pw_below_drewN | apply below_drew1 | refine below_set ?_ GE381.out | refine below_set ?_ GE397.out) | exact HB.out)) hb); clear BK381; clear BK397; clear HB; have BK381 := n0_; have BK397 := n1_; have HB := n2_; clear n0_ n1_ n2_; (try clear hb); (try clear hb2); (try clear hk); (try clear hi); have hcz60_0 : w59.cell? ⟨gb397, 0, none⟩ = some (.int .i64 t390) := (blk_cell BK397.out 0).trans rfl; have hcz60_1 : w59.cell? ⟨gb397, 1, none⟩ = some (.int .i64 t391) := (blk_cell BK397.out 1).trans rfl; have hcz60_2 : w59.cell? ⟨gb397, 2, none⟩ = some (.int .i64 t392) := (blk_cell BK397.out 2).trans rfl; have hcz60_3 : w59.cell? ⟨gb397, 3, none⟩ = some (.int .i64 t393) := (blk_cell BK397.out 3).trans rfl; have hcz60_4 : w59.cell? ⟨gb397, 4, none⟩ = some (.int .i64 t394) := (blk_cell BK397.out 4).trans rfl; have hfz60_0 := blk_frozen BK397.out 0; have hfz60_1 := blk_frozen BK397.out 1; have hfz60_2 := blk_frozen BK397.out 2; have hfz60_3 := blk_frozen BK397.out 3; have hfz60_4 := blk_frozen BK397.out 4; have hcz61_0 : w59.cell? ⟨gb381, 0, none⟩ = some (.int .i64 x382000_2) := (blk_cell BK381.out 0).trans rfl; have hcz61_1 : w59.cell? ⟨gb381, 1, none⟩ = some (.int .i64 x382001_2) := (blk_cell BK381.out 1).trans rfl; have hcz61_2 : w59.cell? ⟨gb381, 2, none⟩ = some (.int .i64 x382002_2) := (blk_cell BK381.out 2).trans rfl; have hcz61_3 : w59.cell? ⟨gb381, 3, none⟩ = some (.int .i64 x382003_2) := (blk_cell BK381.out 3).trans rfl; have hcz61_4 : w59.cell? ⟨gb381, 4, none⟩ = some (.int .i64 x382004_2) := (blk_cell BK381.out 4).trans rfl; have hfz61_0 := blk_frozen BK381.out 0; have hfz61_1 := blk_frozen BK381.out 1; have hfz61_2 := blk_frozen BK381.out 2; have hfz61_3 := blk_frozen BK381.out 3; have hfz61_4 := blk_frozen BK381.out 4) | (go_at_call 20; (with_reducible refine (drive_Check.calls k2 t390 t391 t392 t393 t394 t400 _ A31.out).mono ?_); rintro e w62 ⟨rfl, hb⟩; have n0_ := Aside0.mk (blk_below (g := gb381) (o := .cells #[.int .i64 x382000_2, .int .i64 x382001_2, .int .i64 x382002_2, .int .i64 x382003_2, .int .i64 x382004_2] 24 (0, 0)) (by (with_reducible repeat (first | refine blk_drewN ?_ _ | refine blk_drew ?_ | refine blk_alloc ?_ _)); exact BK381.out) hb); have n1_ := Aside0.mk (blk_below (g := gb397) (o := .cells #[.int .i64 t390, .int .i64 t391, .int .i64 t392, .int .i64 t393, .int .i64 t394] 24 (0, 0)) (by (with_reducible repeat (first | refine blk_drewN ?_ _ | refine blk_drew ?_ | refine blk_alloc ?_ _)); exact BK397.out) hb); have n2_ := Aside0.mk (below_step (by repeat (first | (with_reducible first | exact HB.out | apply below_alloc | apply pw_below_drewN | apply below_drew1 | refine below_set ?_ GE381.out | refine below_set ?_ GE397.out) | exact HB.out)) hb); clear BK381; clear BK397; clear HB; have BK381 := n0_; have BK397 := n1_; have HB := n2_; clear n0_ n1_ n2_; (try clear hb); (try clear hb2); (try clear hk); (try clear hi); have hcz63_0 : w62.cell? ⟨gb397, 0, none⟩ = some (.int .i64 t390) := (blk_cell BK397.out 0).trans rfl; have hcz63_1 : w62.cell? ⟨gb397, 1, none⟩ = some (.int .i64 t391) := (blk_cell BK397.out 1).trans rfl; have hcz63_2 : w62.cell? ⟨gb397, 2, none⟩ = some (.int .i64 t392) := (blk_cell BK397.out 2).trans rfl; have hcz63_3 : w62.cell? ⟨gb397, 3, none⟩ = some (.int .i64 t393) := (blk_cell BK397.out 3).trans rfl; have hcz63_4 : w62.cell? ⟨gb397, 4, none⟩ = some (.int .i64 t394) := (blk_cell BK397.out 4).trans rfl; have hfz63_0 := blk_frozen BK397.out 0; have hfz63_1 := blk_frozen BK397.out 1; have hfz63_2 := blk_frozen BK397.out 2; have hfz63_3 := blk_frozen BK397.out 3; have hfz63_4 := blk_frozen BK397.out 4; have hcz64_0 : w62.cell? ⟨gb381, 0, none⟩ = some (.int .i64 x382000_2) := (blk_cell BK381.out 0).trans rfl; have hcz64_1 : w62.cell? ⟨gb381, 1, none⟩ = some (.int .i64 x382001_2) := (blk_cell BK381.out 1).trans rfl; have hcz64_2 : w62.cell? ⟨gb381, 2, none⟩ = some (.int .i64 x382002_2) := (blk_cell BK381.out 2).trans rfl; have hcz64_3 : w62.cell? ⟨gb381, 3, none⟩ = some (.int .i64 x382003_2) := (blk_cell BK381.out 3).trans rfl; have hcz64_4 : w62.cell? ⟨gb381, 4, none⟩ = some (.int .i64 x382004_2) := (blk_cell BK381.out 4).trans rfl; have hfz64_0 := blk_frozen BK381.out 0; have hfz64_1 := blk_frozen BK381.out 1; have hfz64_2 := blk_frozen BK381.out 2; have hfz64_3 := blk_frozen BK381.out 3; have hfz64_4 := blk_frozen BK381.out 4))
                   go_roundg k2
                   case measure => have := HJ9.out; have := HK2.out; omega
                   case rel => exact ⟨(t398), (t390), (t391), (t392), (t393), (t394), (by first | rfl | (simp; done) | (simp [*]; done)), H', ⟨by have := HJ9.out; have := HK2.out; omega⟩, ⟨by (with_reducible repeat (first | refine blk_drewN ?_ _ | refine blk_drew ?_ | refine blk_alloc ?_ _)); refine blk_put (cs := #[.int .i64 t390, .int .i64 t391, .int .i64 t392, .int .i64 t393, .int .i64 x382004_2]) ?_ 4 _ rfl; (with_reducible repeat (first | refine blk_drewN ?_ _ | refine blk_drew ?_ | refine blk_alloc ?_ _)); refine blk_put (cs := #[.int .i64 t390, .int .i64 t391, .int .i64 t392, .int .i64 x382003_2, .int .i64 x382004_2]) ?_ 3 _ rfl; (with_reducible repeat (first | refine blk_drewN ?_ _ | refine blk_drew ?_ | refine blk_alloc ?_ _)); refine blk_put (cs := #[.int .i64 t390, .int .i64 t391, .int .i64 x382002_2, .int .i64 x382003_2, .int .i64 x382004_2]) ?_ 2 _ rfl; (with_reducible repeat (first | refine blk_drewN ?_ _ | refine blk_drew ?_ | refine blk_alloc ?_ _)); refine blk_put (cs := #[.int .i64 t390, .int .i64 x382001_2, .int .i64 x382002_2, .int .i64 x382003_2, .int .i64 x382004_2]) ?_ 1 _ rfl; (with_reducible repeat (first | refine blk_drewN ?_ _ | refine blk_drew ?_ | refine blk_alloc ?_ _)); refine blk_put (cs := #[.int .i64 x382000_2, .int .i64 x382001_2, .int .i64 x382002_2, .int .i64 x382003_2, .int .i64 x382004_2]) ?_ 0 _ rfl; (with_reducible repeat (first | refine blk_drewN ?_ _ | refine blk_drew ?_ | refine blk_alloc ?_ _)); exact BK381.out⟩, ⟨by repeat (first | (with_reducible first | exact HB.out | apply below_alloc | apply pw_below_drewN | apply below_drew1 | refine below_set ?_ GE381.out | refine below_set ?_ GE397.out) | exact HB.out)⟩⟩
              ·replace c37 := Bool.eq_false_iff.mpr c37
               subst c37
               have H1 : (if (wrap64 ((ji26) - (ji27))) > 0 then (none) else (if (wrap64 ((ji26) - (ji27))) > t373 then (none) else (if (wrap64 ((ji26) - (ji27))) > (wrap64 (x382002_2 + 1)) then (none) else (if (wrap64 ((ji26) - (ji27))) < (wrap64 (x382002_2 - 1)) then (none) else (if t393 = 2 then (if t392 = (wrap64 ((ji26) - (ji27))) then (q_DriveArrives.l0 k2 t371 t372 t373 t374 t398 t390 t391 t392 t393 t394) else (none)) else (q_DriveArrives.l0 k2 t371 t372 t373 t374 t398 t390 t391 t392 t393 t394)))))) = some r := by rw [if_neg (show ¬ (false = true) by decide)] at H; exact H
               clear H
               have H := H1
               clear H1
               by_cases c65 : (wrap64 ((ji26) - (ji27))) > 0
               ·rw [if_pos c65] at H
                exact absurd H (by simp)
               ·rw [if_neg c65] at H
                have c65b0 : decide (0 < (wrap64 ((ji26) - (ji27)))) = false := decide_eq_false c65
                clear c65
                by_cases c66 : (wrap64 ((ji26) - (ji27))) > t373
                ·rw [if_pos c66] at H
                 exact absurd H (by simp)
                ·rw [if_neg c66] at H
                 have c66b0 : decide (t373 < (wrap64 ((ji26) - (ji27)))) = false := decide_eq_false c66
                 clear c66
                 by_cases c67 : (wrap64 ((ji26) - (ji27))) > (wrap64 (x382002_2 + 1))
                 ·rw [if_pos c67] at H
                  exact absurd H (by simp)
                 ·rw [if_neg c67] at H
                  have c67b0 : decide ((wrap64 (x382002_2 + 1)) < (wrap64 ((ji26) - (ji27)))) = false := decide_eq_false c67
                  clear c67
                  by_cases c68 : (wrap64 ((ji26) - (ji27))) < (wrap64 (x382002_2 - 1))
                  ·rw [if_pos c68] at H
                   exact absurd H (by simp)
                  ·rw [if_neg c68] at H
                   have c68b0 : decide ((wrap64 ((ji26) - (ji27))) < (wrap64 (x382002_2 - 1))) = false := decide_eq_false c68
                   clear c68
                   by_cases c69 : t393 = 2
                   ·rw [if_pos c69] at H
                    have c69b0 : (t393 == 2) = true := beq_iff_eq.mpr c69
                    have c69b1 : (t393 != 2) = false := bne_eq_false_iff_eq.mpr c69
                    clear c69
                    by_cases c70 : t392 = (wrap64 ((ji26) - (ji27)))
                    ·rw [if_pos c70] at H
                     have c70b0 : (t392 == (wrap64 ((ji26) - (ji27)))) = true := beq_iff_eq.mpr c70
                     have c70b1 : (t392 != (wrap64 ((ji26) - (ji27)))) = false := bne_eq_false_iff_eq.mpr c70
                     clear c70
                     have H' := Aside0.mk H
                     clear H
                     have hcz71_0 : wr.cell? ⟨gb381, 0, none⟩ = some (.int .i64 x382000_2) := (blk_cell BK381.out 0).trans rfl
                     have hcz71_1 : wr.cell? ⟨gb381, 1, none⟩ = some (.int .i64 x382001_2) := (blk_cell BK381.out 1).trans rfl
                     have hcz71_2 : wr.cell? ⟨gb381, 2, none⟩ = some (.int .i64 x382002_2) := (blk_cell BK381.out 2).trans rfl
                     have hcz71_3 : wr.cell? ⟨gb381, 3, none⟩ = some (.int .i64 x382003_2) := (blk_cell BK381.out 3).trans rfl
                     have hcz71_4 : wr.cell? ⟨gb381, 4, none⟩ = some (.int .i64 x382004_2) := (blk_cell BK381.out 4).trans rfl
                     have hfz71_0 := blk_frozen BK381.out 0
                     have hfz71_1 := blk_frozen BK381.out 1
                     have hfz71_2 := blk_frozen BK381.out 2
                     have hfz71_3 := blk_frozen BK381.out 3
                     have hfz71_4 := blk_frozen BK381.out 4
                     go_wp2_with (first | ((with_reducible refine gate_callee (f := 16) rfl ?_); refine goesL_ (some 76) rfl rfl Try.func16 (by kernel_rfl) rfl #[.agg #[.int .i64 x382000_2, .int .i64 x382001_2, .int .i64 x382002_2, .int .i64 x382003_2, .int .i64 x382004_2], .int .i64 t373, .int .i64 t374] rfl (by (try simp only [List.map_toArray, List.map_cons, List.map_nil]); first | done | rfl | (simp only [List.length_drop, List.length_take]; rfl)) ?_; (with_reducible refine (drive_Step.calls k2 x382000_2 x382001_2 x382002_2 x382003_2 x382004_2 t373 t374 t390 t391 t392 t393 t394 false t396 _ A24.out).mono ?_); rintro e w72 ⟨rfl, hb⟩; refine ⟨_, rfl, ?_⟩; have n0_ := Aside0.mk (blk_below (g := gb381) (o := .cells #[.int .i64 x382000_2, .int .i64 x382001_2, .int .i64 x382002_2, .int .i64 x382003_2, .int .i64 x382004_2] 24 (0, 0)) (by (with_reducible repeat (first | refine blk_drewN ?_ _ | refine blk_drew ?_ | refine blk_alloc ?_ _)); exact BK381.out) hb); have n1_ := Aside0.mk (below_step (by repeat (first | (with_reducible first | exact HB.out | apply below_alloc | apply pw_below_drewN | apply below_drew1 | refine below_set ?_ GE381.out) | exact HB.out)) hb); clear BK381; clear HB; have BK381 := n0_; have HB := n1_; clear n0_ n1_; (try clear hb); (try clear hb2); (try clear hk); (try clear hi)) | ((with_reducible refine gate_dst (N := 17) rfl ?_); (try (refine gate_guard (by rfl) ?_; dsimp only)); refine box_event ?hg (N := 17) ?hd (cs := #[.int .i64 0, .int .i64 0, .int .i64 0, .int .i64 0, .int .i64 0]) (t := 24) ?hr ?_; (case hd => rfl); (case hg => rfl); (case hr => first | (go_simp; done) | (go_simp; rfl)); intro gb397 hg w73 hbox hb; have n0_ := Aside0.mk (blk_below (g := gb381) (o := .cells #[.int .i64 x382000_2, .int .i64 x382001_2, .int .i64 x382002_2, .int .i64 x382003_2, .int .i64 x382004_2] 24 (0, 0)) (by (with_reducible repeat (first | refine blk_drewN ?_ _ | refine blk_drew ?_ | refine blk_alloc ?_ _)); exact BK381.out) hb); have n1_ := Aside0.mk (below_step (by repeat (first | (with_reducible first | exact HB.out | apply below_alloc | apply pw_below_drewN | apply below_drew1 | refine below_set ?_ GE381.out) | exact HB.out)) hb); have n2_ := Aside0.mk (hbox); have n3_ := Aside0.mk ((by rw [hg]; exact (below_size (by repeat (first | (with_reducible first | exact HB.out | apply below_alloc | apply pw_below_drewN | apply below_drew1 | refine below_set ?_ GE381.out) | exact HB.out))) : w.heap.size ≤ gb397)); have n4_ := Aside0.mk ((by rw [hg]; exact (below_size (by repeat (first | (with_reducible first | exact HB.out | apply below_alloc | apply pw_below_drewN | apply below_drew1 | refine below_set ?_ GE381.out) | exact HB.out))) : w.heap.size ≤ gb397)); have n5_ := Aside0.mk ((by rw [hg]; exact Nat.ne_of_lt (blk_lt (g := gb381) (o := .cells #[.int .i64 x382000_2, .int .i64 x382001_2, .int .i64 x382002_2, .int .i64 x382003_2, .int .i64 x382004_2] 24 (0, 0)) (by (with_reducible repeat (first | refine blk_drewN ?_ _ | refine blk_drew ?_ | refine blk_alloc ?_ _)); exact BK381.out)) : gb381 ≠ gb397)); have n6_ := Aside0.mk ((by rw [hg]; exact Nat.ne_of_gt (blk_lt (g := gb381) (o := .cells #[.int .i64 x382000_2, .int .i64 x382001_2, .int .i64 x382002_2, .int .i64 x382003_2, .int .i64 x382004_2] 24 (0, 0)) (by (with_reducible repeat (first | refine blk_drewN ?_ _ | refine blk_drew ?_ | refine blk_alloc ?_ _)); exact BK381.out)) : gb397 ≠ gb381)); clear BK381; clear HB; have BK381 := n0_; have HB := n1_; have BK397 := n2_; have GW397 := n3_; have GE397 := n4_; have NB381_397 := n5_; have NB397_381 := n6_; clear n0_ n1_ n2_ n3_ n4_ n5_ n6_; clear hb hbox hg; have hnb74 := NB397_381.out; have hnc74 := NB381_397.out; have hcz75_0 : w73.cell? ⟨gb397, 0, none⟩ = some (.int .i64 0) := (blk_cell BK397.out 0).trans rfl; have hcz75_1 : w73.cell? ⟨gb397, 1, none⟩ = some (.int .i64 0) := (blk_cell BK397.out 1).trans rfl; have hcz75_2 : w73.cell? ⟨gb397, 2, none⟩ = some (.int .i64 0) := (blk_cell BK397.out 2).trans rfl; have hcz75_3 : w73.cell? ⟨gb397, 3, none⟩ = some (.int .i64 0) := (blk_cell BK397.out 3).trans rfl; have hcz75_4 : w73.cell? ⟨gb397, 4, none⟩ = some (.int .i64 0) := (blk_cell BK397.out 4).trans rfl; have hfz75_0 := blk_frozen BK397.out 0; have hfz75_1 := blk_frozen BK397.out 1; have hfz75_2 := blk_frozen BK397.out 2; have hfz75_3 := blk_frozen BK397.out 3; have hfz75_4 := blk_frozen BK397.out 4) | ((with_reducible refine gate_callee (f := 15) rfl ?_); refine goesL_ (some 84) rfl rfl Try.func15 (by kernel_rfl) rfl #[.agg #[.int .i64 t390, .int .i64 t391, .int .i64 t392, .int .i64 t393, .int .i64 t394], .int .i64 t373, .int .i64 t374] rfl (by (try simp only [List.map_toArray, List.map_cons, List.map_nil]); first | done | rfl | (simp only [List.length_drop, List.length_take]; rfl)) ?_; (with_reducible refine (drive_Needs.calls k2 t390 t391 t392 t393 t394 t373 t374 t398 t399 _ A25.out).mono ?_); rintro e w76 ⟨rfl, hb⟩; refine ⟨_, rfl, ?_⟩; have n0_ := Aside0.mk (blk_below (g := gb381) (o := .cells #[.int .i64 x382000_2, .int .i64 x382001_2, .int .i64 x382002_2, .int .i64 x382003_2, .int .i64 x382004_2] 24 (0, 0)) (by (with_reducible repeat (first | refine blk_drewN ?_ _ | refine blk_drew ?_ | refine blk_alloc ?_ _)); refine blk_far ?_ NB381_397.out _; (with_reducible repeat (first | refine blk_drewN ?_ _ | refine blk_drew ?_ | refine blk_alloc ?_ _)); refine blk_far ?_ NB381_397.out _; (with_reducible repeat (first | refine blk_drewN ?_ _ | refine blk_drew ?_ | refine blk_alloc ?_ _)); refine blk_far ?_ NB381_397.out _; (with_reducible repeat (first | refine blk_drewN ?_ _ | refine blk_drew ?_ | refine blk_alloc ?_ _)); refine blk_far ?_ NB381_397.out _; (with_reducible repeat (first | refine blk_drewN ?_ _ | refine blk_drew ?_ | refine blk_alloc ?_ _)); refine blk_far ?_ NB381_397.out _; (with_reducible repeat (first | refine blk_drewN ?_ _ | refine blk_drew ?_ | refine blk_alloc ?_ _)); exact BK381.out) hb); have n1_ := Aside0.mk (blk_below (g := gb397) (o := .cells #[.int .i64 t390, .int .i64 t391, .int .i64 t392, .int .i64 t393, .int .i64 t394] 24 (0, 0)) (by (with_reducible repeat (first | refine blk_drewN ?_ _ | refine blk_drew ?_ | refine blk_alloc ?_ _)); refine blk_put (cs := #[.int .i64 t390, .int .i64 t391, .int .i64 t392, .int .i64 t393, .int .i64 0]) ?_ 4 _ rfl; (with_reducible repeat (first | refine blk_drewN ?_ _ | refine blk_drew ?_ | refine blk_alloc ?_ _)); refine blk_put (cs := #[.int .i64 t390, .int .i64 t391, .int .i64 t392, .int .i64 0, .int .i64 0]) ?_ 3 _ rfl; (with_reducible repeat (first | refine blk_drewN ?_ _ | refine blk_drew ?_ | refine blk_alloc ?_ _)); refine blk_put (cs := #[.int .i64 t390, .int .i64 t391, .int .i64 0, .int .i64 0, .int .i64 0]) ?_ 2 _ rfl; (with_reducible repeat (first | refine blk_drewN ?_ _ | refine blk_drew ?_ | refine blk_alloc ?_ _)); refine blk_put (cs := #[.int .i64 t390, .int .i64 0, .int .i64 0, .int .i64 0, .int .i64 0]) ?_ 1 _ rfl; (with_reducible repeat (first | refine blk_drewN ?_ _ | refine blk_drew ?_ | refine blk_alloc ?_ _)); refine blk_put (cs := #[.int .i64 0, .int .i64 0, .int .i64 0, .int .i64 0, .int .i64 0]) ?_ 0 _ rfl; (with_reducible repeat (first | refine blk_drewN ?_ _ | refine blk_drew ?_ | refine blk_alloc ?_ _)); exact BK397.out) hb); have n2_ := Aside0.mk (below_step (by repeat (first | (with_reducible first | exact HB.out | apply below_alloc | apply pw_below_drewN | apply below_drew1 | refine below_set ?_ GE381.out | refine below_set ?_ GE397.out) | exact HB.out)) hb); clear BK381; clear BK397; clear HB; have BK381 := n0_; have BK397 := n1_; have HB := n2_; clear n0_ n1_ n2_; (try clear hb); (try clear hb2); (try clear hk); (try clear hi); have hcz77_0 : w76.cell? ⟨gb397, 0, none⟩ = some (.int .i64 t390) := (blk_cell BK397.out 0).trans rfl; have hcz77_1 : w76.cell? ⟨gb397, 1, none⟩ = some (.int .i64 t391) := (blk_cell BK397.out 1).trans rfl; have hcz77_2 : w76.cell? ⟨gb397, 2, none⟩ = some (.int .i64 t392) := (blk_cell BK397.out 2).trans rfl; have hcz77_3 : w76.cell? ⟨gb397, 3, none⟩ = some (.int .i64 t393) := (blk_cell BK397.out 3).trans rfl; have hcz77_4 : w76.cell? ⟨gb397, 4, none⟩ = some (.int .i64 t394) := (blk_cell BK397.out 4).trans rfl; have hfz77_0 := blk_frozen BK397.out 0; have hfz77_1 := blk_frozen BK397.out 1; have hfz77_2 := blk_frozen BK397.out 2; have hfz77_3 := blk_frozen BK397.out 3; have hfz77_4 := blk_frozen BK397.out 4; have hcz78_0 : w76.cell? ⟨gb381, 0, none⟩ = some (.int .i64 x382000_2) := (blk_cell BK381.out 0).trans rfl; have hcz78_1 : w76.cell? ⟨gb381, 1, none⟩ = some (.int .i64 x382001_2) := (blk_cell BK381.out 1).trans rfl; have hcz78_2 : w76.cell? ⟨gb381, 2, none⟩ = some (.int .i64 x382002_2) := (blk_cell BK381.out 2).trans rfl; have hcz78_3 : w76.cell? ⟨gb381, 3, none⟩ = some (.int .i64 x382003_2) := (blk_cell BK381.out 3).trans rfl; have hcz78_4 : w76.cell? ⟨gb381, 4, none⟩ = some (.int .i64 x382004_2) := (blk_cell BK381.out 4).trans rfl; have hfz78_0 := blk_frozen BK381.out 0; have hfz78_1 := blk_frozen BK381.out 1; have hfz78_2 := blk_frozen BK381.out 2; have hfz78_3 := blk_frozen BK381.out 3; have hfz78_4 := blk_frozen BK381.out 4) | (go_at_call 20; (with_reducible refine (drive_Check.calls k2 t390 t391 t392 t393 t394 t400 _ A31.out).mono ?_); rintro e w79 ⟨rfl, hb⟩; have n0_ := Aside0.mk (blk_below (g := gb381) (o := .cells #[.int .i64 x382000_2, .int .i64 x382001_2, .int .i64 x382002_2, .int .i64 x382003_2, .int .i64 x382004_2] 24 (0, 0)) (by (with_reducible repeat (first | refine blk_drewN ?_ _ | refine blk_drew ?_ | refine blk_alloc ?_ _)); exact BK381.out) hb); have n1_ := Aside0.mk (blk_below (g := gb397) (o := .cells #[.int .i64 t390, .int .i64 t391, .int .i64 t392, .int .i64 t393, .int .i64 t394] 24 (0, 0)) (by (with_reducible repeat (first | refine blk_drewN ?_ _ | refine blk_drew ?_ | refine blk_alloc ?_ _)); exact BK397.out) hb); have n2_ := Aside0.mk (below_step (by repeat (first | (with_reducible first | exact HB.out | apply below_alloc | apply pw_below_drewN | apply below_drew1 | refine below_set ?_ GE381.out | refine below_set ?_ GE397.out) | exact HB.out)) hb); clear BK381; clear BK397; clear HB; have BK381 := n0_; have BK397 := n1_; have HB := n2_; clear n0_ n1_ n2_; (try clear hb); (try clear hb2); (try clear hk); (try clear hi); have hcz80_0 : w79.cell? ⟨gb397, 0, none⟩ = some (.int .i64 t390) := (blk_cell BK397.out 0).trans rfl; have hcz80_1 : w79.cell? ⟨gb397, 1, none⟩ = some (.int .i64 t391) := (blk_cell BK397.out 1).trans rfl; have hcz80_2 : w79.cell? ⟨gb397, 2, none⟩ = some (.int .i64 t392) := (blk_cell BK397.out 2).trans rfl; have hcz80_3 : w79.cell? ⟨gb397, 3, none⟩ = some (.int .i64 t393) := (blk_cell BK397.out 3).trans rfl; have hcz80_4 : w79.cell? ⟨gb397, 4, none⟩ = some (.int .i64 t394) := (blk_cell BK397.out 4).trans rfl; have hfz80_0 := blk_frozen BK397.out 0; have hfz80_1 := blk_frozen BK397.out 1; have hfz80_2 := blk_frozen BK397.out 2; have hfz80_3 := blk_frozen BK397.out 3; have hfz80_4 := blk_frozen BK397.out 4; have hcz81_0 : w79.cell? ⟨gb381, 0, none⟩ = some (.int .i64 x382000_2) := (blk_cell BK381.out 0).trans rfl; have hcz81_1 : w79.cell? ⟨gb381, 1, none⟩ = some (.int .i64 x382001_2) := (blk_cell BK381.out 1).trans rfl; have hcz81_2 : w79.cell? ⟨gb381, 2, none⟩ = some (.int .i64 x382002_2) := (blk_cell BK381.out 2).trans rfl; have hcz81_3 : w79.cell? ⟨gb381, 3, none⟩ = some (.int .i64 x382003_2) := (blk_cell BK381.out 3).trans rfl; have hcz81_4 : w79.cell? ⟨gb381, 4, none⟩ = some (.int .i64 x382004_2) := (blk_cell BK381.out 4).trans rfl; have hfz81_0 := blk_frozen BK381.out 0; have hfz81_1 := blk_frozen BK381.out 1; have hfz81_2 := blk_frozen BK381.out 2; have hfz81_3 := blk_frozen BK381.out 3; have hfz81_4 := blk_frozen BK381.out 4))
                     go_roundg k2
                     case measure => have := HJ9.out; have := HK2.out; omega
                     case rel => exact ⟨(t398), (t390), (t391), (t392), (t393), (t394), (by first | rfl | (simp; done) | (simp [*]; done)), H', ⟨by have := HJ9.out; have := HK2.out; omega⟩, ⟨by (with_reducible repeat (first | refine blk_drewN ?_ _ | refine blk_drew ?_ | refine blk_alloc ?_ _)); refine blk_put (cs := #[.int .i64 t390, .int .i64 t391, .int .i64 t392, .int .i64 t393, .int .i64 x382004_2]) ?_ 4 _ rfl; (with_reducible repeat (first | refine blk_drewN ?_ _ | refine blk_drew ?_ | refine blk_alloc ?_ _)); refine blk_put (cs := #[.int .i64 t390, .int .i64 t391, .int .i64 t392, .int .i64 x382003_2, .int .i64 x382004_2]) ?_ 3 _ rfl; (with_reducible repeat (first | refine blk_drewN ?_ _ | refine blk_drew ?_ | refine blk_alloc ?_ _)); refine blk_put (cs := #[.int .i64 t390, .int .i64 t391, .int .i64 x382002_2, .int .i64 x382003_2, .int .i64 x382004_2]) ?_ 2 _ rfl; (with_reducible repeat (first | refine blk_drewN ?_ _ | refine blk_drew ?_ | refine blk_alloc ?_ _)); refine blk_put (cs := #[.int .i64 t390, .int .i64 x382001_2, .int .i64 x382002_2, .int .i64 x382003_2, .int .i64 x382004_2]) ?_ 1 _ rfl; (with_reducible repeat (first | refine blk_drewN ?_ _ | refine blk_drew ?_ | refine blk_alloc ?_ _)); refine blk_put (cs := #[.int .i64 x382000_2, .int .i64 x382001_2, .int .i64 x382002_2, .int .i64 x382003_2, .int .i64 x382004_2]) ?_ 0 _ rfl; (with_reducible repeat (first | refine blk_drewN ?_ _ | refine blk_drew ?_ | refine blk_alloc ?_ _)); exact BK381.out⟩, ⟨by repeat (first | (with_reducible first | exact HB.out | apply below_alloc | apply pw_below_drewN | apply below_drew1 | refine below_set ?_ GE381.out | refine below_set ?_ GE397.out) | exact HB.out)⟩⟩
                    ·rw [if_neg c70] at H
                     exact absurd H (by simp)
                   ·rw [if_neg c69] at H
                    have c69b0 : (t393 == 2) = false := beq_eq_false_iff_ne.mpr c69
                    have c69b1 : (t393 != 2) = true := bne_iff_ne.mpr c69
                    have H' := Aside0.mk H
                    clear H
                    have hcz82_0 : wr.cell? ⟨gb381, 0, none⟩ = some (.int .i64 x382000_2) := (blk_cell BK381.out 0).trans rfl
                    have hcz82_1 : wr.cell? ⟨gb381, 1, none⟩ = some (.int .i64 x382001_2) := (blk_cell BK381.out 1).trans rfl
                    have hcz82_2 : wr.cell? ⟨gb381, 2, none⟩ = some (.int .i64 x382002_2) := (blk_cell BK381.out 2).trans rfl
                    have hcz82_3 : wr.cell? ⟨gb381, 3, none⟩ = some (.int .i64 x382003_2) := (blk_cell BK381.out 3).trans rfl
                    have hcz82_4 : wr.cell? ⟨gb381, 4, none⟩ = some (.int .i64 x382004_2) := (blk_cell BK381.out 4).trans rfl
                    have hfz82_0 := blk_frozen BK381.out 0
                    have hfz82_1 := blk_frozen BK381.out 1
                    have hfz82_2 := blk_frozen BK381.out 2
                    have hfz82_3 := blk_frozen BK381.out 3
                    have hfz82_4 := blk_frozen BK381.out 4
                    go_wp2_with (first | ((with_reducible refine gate_callee (f := 16) rfl ?_); refine goesL_ (some 76) rfl rfl Try.func16 (by kernel_rfl) rfl #[.agg #[.int .i64 x382000_2, .int .i64 x382001_2, .int .i64 x382002_2, .int .i64 x382003_2, .int .i64 x382004_2], .int .i64 t373, .int .i64 t374] rfl (by (try simp only [List.map_toArray, List.map_cons, List.map_nil]); first | done | rfl | (simp only [List.length_drop, List.length_take]; rfl)) ?_; (with_reducible refine (drive_Step.calls k2 x382000_2 x382001_2 x382002_2 x382003_2 x382004_2 t373 t374 t390 t391 t392 t393 t394 false t396 _ A24.out).mono ?_); rintro e w83 ⟨rfl, hb⟩; refine ⟨_, rfl, ?_⟩; have n0_ := Aside0.mk (blk_below (g := gb381) (o := .cells #[.int .i64 x382000_2, .int .i64 x382001_2, .int .i64 x382002_2, .int .i64 x382003_2, .int .i64 x382004_2] 24 (0, 0)) (by (with_reducible repeat (first | refine blk_drewN ?_ _ | refine blk_drew ?_ | refine blk_alloc ?_ _)); exact BK381.out) hb); have n1_ := Aside0.mk (below_step (by repeat (first | (with_reducible first | exact HB.out | apply below_alloc | apply pw_below_drewN | apply below_drew1 | refine below_set ?_ GE381.out) | exact HB.out)) hb); clear BK381; clear HB; have BK381 := n0_; have HB := n1_; clear n0_ n1_; (try clear hb); (try clear hb2); (try clear hk); (try clear hi)) | ((with_reducible refine gate_dst (N := 17) rfl ?_); (try (refine gate_guard (by rfl) ?_; dsimp only)); refine box_event ?hg (N := 17) ?hd (cs := #[.int .i64 0, .int .i64 0, .int .i64 0, .int .i64 0, .int .i64 0]) (t := 24) ?hr ?_; (case hd => rfl); (case hg => rfl); (case hr => first | (go_simp; done) | (go_simp; rfl)); intro gb397 hg w84 hbox hb; have n0_ := Aside0.mk (blk_below (g := gb381) (o := .cells #[.int .i64 x382000_2, .int .i64 x382001_2, .int .i64 x382002_2, .int .i64 x382003_2, .int .i64 x382004_2] 24 (0, 0)) (by (with_reducible repeat (first | refine blk_drewN ?_ _ | refine blk_drew ?_ | refine blk_alloc ?_ _)); exact BK381.out) hb); have n1_ := Aside0.mk (below_step (by repeat (first | (with_reducible first | exact HB.out | apply below_alloc | apply pw_below_drewN | apply below_drew1 | refine below_set ?_ GE381.out) | exact HB.out)) hb); have n2_ := Aside0.mk (hbox); have n3_ := Aside0.mk ((by rw [hg]; exact (below_size (by repeat (first | (with_reducible first | exact HB.out | apply below_alloc | apply pw_below_drewN | apply below_drew1 | refine below_set ?_ GE381.out) | exact HB.out))) : w.heap.size ≤ gb397)); have n4_ := Aside0.mk ((by rw [hg]; exact (below_size (by repeat (first | (with_reducible first | exact HB.out | apply below_alloc | apply pw_below_drewN | apply below_drew1 | refine below_set ?_ GE381.out) | exact HB.out))) : w.heap.size ≤ gb397)); have n5_ := Aside0.mk ((by rw [hg]; exact Nat.ne_of_lt (blk_lt (g := gb381) (o := .cells #[.int .i64 x382000_2, .int .i64 x382001_2, .int .i64 x382002_2, .int .i64 x382003_2, .int .i64 x382004_2] 24 (0, 0)) (by (with_reducible repeat (first | refine blk_drewN ?_ _ | refine blk_drew ?_ | refine blk_alloc ?_ _)); exact BK381.out)) : gb381 ≠ gb397)); have n6_ := Aside0.mk ((by rw [hg]; exact Nat.ne_of_gt (blk_lt (g := gb381) (o := .cells #[.int .i64 x382000_2, .int .i64 x382001_2, .int .i64 x382002_2, .int .i64 x382003_2, .int .i64 x382004_2] 24 (0, 0)) (by (with_reducible repeat (first | refine blk_drewN ?_ _ | refine blk_drew ?_ | refine blk_alloc ?_ _)); exact BK381.out)) : gb397 ≠ gb381)); clear BK381; clear HB; have BK381 := n0_; have HB := n1_; have BK397 := n2_; have GW397 := n3_; have GE397 := n4_; have NB381_397 := n5_; have NB397_381 := n6_; clear n0_ n1_ n2_ n3_ n4_ n5_ n6_; clear hb hbox hg; have hnb85 := NB397_381.out; have hnc85 := NB381_397.out; have hcz86_0 : w84.cell? ⟨gb397, 0, none⟩ = some (.int .i64 0) := (blk_cell BK397.out 0).trans rfl; have hcz86_1 : w84.cell? ⟨gb397, 1, none⟩ = some (.int .i64 0) := (blk_cell BK397.out 1).trans rfl; have hcz86_2 : w84.cell? ⟨gb397, 2, none⟩ = some (.int .i64 0) := (blk_cell BK397.out 2).trans rfl; have hcz86_3 : w84.cell? ⟨gb397, 3, none⟩ = some (.int .i64 0) := (blk_cell BK397.out 3).trans rfl; have hcz86_4 : w84.cell? ⟨gb397, 4, none⟩ = some (.int .i64 0) := (blk_cell BK397.out 4).trans rfl; have hfz86_0 := blk_frozen BK397.out 0; have hfz86_1 := blk_frozen BK397.out 1; have hfz86_2 := blk_frozen BK397.out 2; have hfz86_3 := blk_frozen BK397.out 3; have hfz86_4 := blk_frozen BK397.out 4) | ((with_reducible refine gate_callee (f := 15) rfl ?_); refine goesL_ (some 84) rfl rfl Try.func15 (by kernel_rfl) rfl #[.agg #[.int .i64 t390, .int .i64 t391, .int .i64 t392, .int .i64 t393, .int .i64 t394], .int .i64 t373, .int .i64 t374] rfl (by (try simp only [List.map_toArray, List.map_cons, List.map_nil]); first | done | rfl | (simp only [List.length_drop, List.length_take]; rfl)) ?_; (with_reducible refine (drive_Needs.calls k2 t390 t391 t392 t393 t394 t373 t374 t398 t399 _ A25.out).mono ?_); rintro e w87 ⟨rfl, hb⟩; refine ⟨_, rfl, ?_⟩; have n0_ := Aside0.mk (blk_below (g := gb381) (o := .cells #[.int .i64 x382000_2, .int .i64 x382001_2, .int .i64 x382002_2, .int .i64 x382003_2, .int .i64 x382004_2] 24 (0, 0)) (by (with_reducible repeat (first | refine blk_drewN ?_ _ | refine blk_drew ?_ | refine blk_alloc ?_ _)); refine blk_far ?_ NB381_397.out _; (with_reducible repeat (first | refine blk_drewN ?_ _ | refine blk_drew ?_ | refine blk_alloc ?_ _)); refine blk_far ?_ NB381_397.out _; (with_reducible repeat (first | refine blk_drewN ?_ _ | refine blk_drew ?_ | refine blk_alloc ?_ _)); refine blk_far ?_ NB381_397.out _; (with_reducible repeat (first | refine blk_drewN ?_ _ | refine blk_drew ?_ | refine blk_alloc ?_ _)); refine blk_far ?_ NB381_397.out _; (with_reducible repeat (first | refine blk_drewN ?_ _ | refine blk_drew ?_ | refine blk_alloc ?_ _)); refine blk_far ?_ NB381_397.out _; (with_reducible repeat (first | refine blk_drewN ?_ _ | refine blk_drew ?_ | refine blk_alloc ?_ _)); exact BK381.out) hb); have n1_ := Aside0.mk (blk_below (g := gb397) (o := .cells #[.int .i64 t390, .int .i64 t391, .int .i64 t392, .int .i64 t393, .int .i64 t394] 24 (0, 0)) (by (with_reducible repeat (first | refine blk_drewN ?_ _ | refine blk_drew ?_ | refine blk_alloc ?_ _)); refine blk_put (cs := #[.int .i64 t390, .int .i64 t391, .int .i64 t392, .int .i64 t393, .int .i64 0]) ?_ 4 _ rfl; (with_reducible repeat (first | refine blk_drewN ?_ _ | refine blk_drew ?_ | refine blk_alloc ?_ _)); refine blk_put (cs := #[.int .i64 t390, .int .i64 t391, .int .i64 t392, .int .i64 0, .int .i64 0]) ?_ 3 _ rfl; (with_reducible repeat (first | refine blk_drewN ?_ _ | refine blk_drew ?_ | refine blk_alloc ?_ _)); refine blk_put (cs := #[.int .i64 t390, .int .i64 t391, .int .i64 0, .int .i64 0, .int .i64 0]) ?_ 2 _ rfl; (with_reducible repeat (first | refine blk_drewN ?_ _ | refine blk_drew ?_ | refine blk_alloc ?_ _)); refine blk_put (cs := #[.int .i64 t390, .int .i64 0, .int .i64 0, .int .i64 0, .int .i64 0]) ?_ 1 _ rfl; (with_reducible repeat (first | refine blk_drewN ?_ _ | refine blk_drew ?_ | refine blk_alloc ?_ _)); refine blk_put (cs := #[.int .i64 0, .int .i64 0, .int .i64 0, .int .i64 0, .int .i64 0]) ?_ 0 _ rfl; (with_reducible repeat (first | refine blk_drewN ?_ _ | refine blk_drew ?_ | refine blk_alloc ?_ _)); exact BK397.out) hb); have n2_ := Aside0.mk (below_step (by repeat (first | (with_reducible first | exact HB.out | apply below_alloc | apply pw_below_drewN | apply below_drew1 | refine below_set ?_ GE381.out | refine below_set ?_ GE397.out) | exact HB.out)) hb); clear BK381; clear BK397; clear HB; have BK381 := n0_; have BK397 := n1_; have HB := n2_; clear n0_ n1_ n2_; (try clear hb); (try clear hb2); (try clear hk); (try clear hi); have hcz88_0 : w87.cell? ⟨gb397, 0, none⟩ = some (.int .i64 t390) := (blk_cell BK397.out 0).trans rfl; have hcz88_1 : w87.cell? ⟨gb397, 1, none⟩ = some (.int .i64 t391) := (blk_cell BK397.out 1).trans rfl; have hcz88_2 : w87.cell? ⟨gb397, 2, none⟩ = some (.int .i64 t392) := (blk_cell BK397.out 2).trans rfl; have hcz88_3 : w87.cell? ⟨gb397, 3, none⟩ = some (.int .i64 t393) := (blk_cell BK397.out 3).trans rfl; have hcz88_4 : w87.cell? ⟨gb397, 4, none⟩ = some (.int .i64 t394) := (blk_cell BK397.out 4).trans rfl; have hfz88_0 := blk_frozen BK397.out 0; have hfz88_1 := blk_frozen BK397.out 1; have hfz88_2 := blk_frozen BK397.out 2; have hfz88_3 := blk_frozen BK397.out 3; have hfz88_4 := blk_frozen BK397.out 4; have hcz89_0 : w87.cell? ⟨gb381, 0, none⟩ = some (.int .i64 x382000_2) := (blk_cell BK381.out 0).trans rfl; have hcz89_1 : w87.cell? ⟨gb381, 1, none⟩ = some (.int .i64 x382001_2) := (blk_cell BK381.out 1).trans rfl; have hcz89_2 : w87.cell? ⟨gb381, 2, none⟩ = some (.int .i64 x382002_2) := (blk_cell BK381.out 2).trans rfl; have hcz89_3 : w87.cell? ⟨gb381, 3, none⟩ = some (.int .i64 x382003_2) := (blk_cell BK381.out 3).trans rfl; have hcz89_4 : w87.cell? ⟨gb381, 4, none⟩ = some (.int .i64 x382004_2) := (blk_cell BK381.out 4).trans rfl; have hfz89_0 := blk_frozen BK381.out 0; have hfz89_1 := blk_frozen BK381.out 1; have hfz89_2 := blk_frozen BK381.out 2; have hfz89_3 := blk_frozen BK381.out 3; have hfz89_4 := blk_frozen BK381.out 4) | (go_at_call 20; (with_reducible refine (drive_Check.calls k2 t390 t391 t392 t393 t394 t400 _ A31.out).mono ?_); rintro e w90 ⟨rfl, hb⟩; have n0_ := Aside0.mk (blk_below (g := gb381) (o := .cells #[.int .i64 x382000_2, .int .i64 x382001_2, .int .i64 x382002_2, .int .i64 x382003_2, .int .i64 x382004_2] 24 (0, 0)) (by (with_reducible repeat (first | refine blk_drewN ?_ _ | refine blk_drew ?_ | refine blk_alloc ?_ _)); exact BK381.out) hb); have n1_ := Aside0.mk (blk_below (g := gb397) (o := .cells #[.int .i64 t390, .int .i64 t391, .int .i64 t392, .int .i64 t393, .int .i64 t394] 24 (0, 0)) (by (with_reducible repeat (first | refine blk_drewN ?_ _ | refine blk_drew ?_ | refine blk_alloc ?_ _)); exact BK397.out) hb); have n2_ := Aside0.mk (below_step (by repeat (first | (with_reducible first | exact HB.out | apply below_alloc | apply pw_below_drewN | apply below_drew1 | refine below_set ?_ GE381.out | refine below_set ?_ GE397.out) | exact HB.out)) hb); clear BK381; clear BK397; clear HB; have BK381 := n0_; have BK397 := n1_; have HB := n2_; clear n0_ n1_ n2_; (try clear hb); (try clear hb2); (try clear hk); (try clear hi); have hcz91_0 : w90.cell? ⟨gb397, 0, none⟩ = some (.int .i64 t390) := (blk_cell BK397.out 0).trans rfl; have hcz91_1 : w90.cell? ⟨gb397, 1, none⟩ = some (.int .i64 t391) := (blk_cell BK397.out 1).trans rfl; have hcz91_2 : w90.cell? ⟨gb397, 2, none⟩ = some (.int .i64 t392) := (blk_cell BK397.out 2).trans rfl; have hcz91_3 : w90.cell? ⟨gb397, 3, none⟩ = some (.int .i64 t393) := (blk_cell BK397.out 3).trans rfl; have hcz91_4 : w90.cell? ⟨gb397, 4, none⟩ = some (.int .i64 t394) := (blk_cell BK397.out 4).trans rfl; have hfz91_0 := blk_frozen BK397.out 0; have hfz91_1 := blk_frozen BK397.out 1; have hfz91_2 := blk_frozen BK397.out 2; have hfz91_3 := blk_frozen BK397.out 3; have hfz91_4 := blk_frozen BK397.out 4; have hcz92_0 : w90.cell? ⟨gb381, 0, none⟩ = some (.int .i64 x382000_2) := (blk_cell BK381.out 0).trans rfl; have hcz92_1 : w90.cell? ⟨gb381, 1, none⟩ = some (.int .i64 x382001_2) := (blk_cell BK381.out 1).trans rfl; have hcz92_2 : w90.cell? ⟨gb381, 2, none⟩ = some (.int .i64 x382002_2) := (blk_cell BK381.out 2).trans rfl; have hcz92_3 : w90.cell? ⟨gb381, 3, none⟩ = some (.int .i64 x382003_2) := (blk_cell BK381.out 3).trans rfl; have hcz92_4 : w90.cell? ⟨gb381, 4, none⟩ = some (.int .i64 x382004_2) := (blk_cell BK381.out 4).trans rfl; have hfz92_0 := blk_frozen BK381.out 0; have hfz92_1 := blk_frozen BK381.out 1; have hfz92_2 := blk_frozen BK381.out 2; have hfz92_3 := blk_frozen BK381.out 3; have hfz92_4 := blk_frozen BK381.out 4))
                    go_roundg k2
                    case measure => have := HJ9.out; have := HK2.out; omega
                    case rel => exact ⟨(t398), (t390), (t391), (t392), (t393), (t394), (by first | rfl | (simp; done) | (simp [*]; done)), H', ⟨by have := HJ9.out; have := HK2.out; omega⟩, ⟨by (with_reducible repeat (first | refine blk_drewN ?_ _ | refine blk_drew ?_ | refine blk_alloc ?_ _)); refine blk_put (cs := #[.int .i64 t390, .int .i64 t391, .int .i64 t392, .int .i64 t393, .int .i64 x382004_2]) ?_ 4 _ rfl; (with_reducible repeat (first | refine blk_drewN ?_ _ | refine blk_drew ?_ | refine blk_alloc ?_ _)); refine blk_put (cs := #[.int .i64 t390, .int .i64 t391, .int .i64 t392, .int .i64 x382003_2, .int .i64 x382004_2]) ?_ 3 _ rfl; (with_reducible repeat (first | refine blk_drewN ?_ _ | refine blk_drew ?_ | refine blk_alloc ?_ _)); refine blk_put (cs := #[.int .i64 t390, .int .i64 t391, .int .i64 x382002_2, .int .i64 x382003_2, .int .i64 x382004_2]) ?_ 2 _ rfl; (with_reducible repeat (first | refine blk_drewN ?_ _ | refine blk_drew ?_ | refine blk_alloc ?_ _)); refine blk_put (cs := #[.int .i64 t390, .int .i64 x382001_2, .int .i64 x382002_2, .int .i64 x382003_2, .int .i64 x382004_2]) ?_ 1 _ rfl; (with_reducible repeat (first | refine blk_drewN ?_ _ | refine blk_drew ?_ | refine blk_alloc ?_ _)); refine blk_put (cs := #[.int .i64 x382000_2, .int .i64 x382001_2, .int .i64 x382002_2, .int .i64 x382003_2, .int .i64 x382004_2]) ?_ 0 _ rfl; (with_reducible repeat (first | refine blk_drewN ?_ _ | refine blk_drew ?_ | refine blk_alloc ?_ _)); exact BK381.out⟩, ⟨by repeat (first | (with_reducible first | exact HB.out | apply below_alloc | apply pw_below_drewN | apply below_drew1 | refine below_set ?_ GE381.out | refine below_set ?_ GE397.out) | exact HB.out)⟩⟩
           ·rw [if_neg c32] at H
            exact absurd H (by simp)
          ·rw [if_neg c30] at H
           exact absurd H (by simp)
         ·rw [if_neg c29] at H
          exact absurd H (by simp)
        ·rw [if_neg c28] at H
         exact absurd H (by simp)
       ·rw [if_neg c23] at H
        have c23b0 : decide (0 < x15_2) = false := decide_eq_false c23
        clear c23
        obtain rfl := Option.some.inj H
        have hcz93_0 : wr.cell? ⟨gb381, 0, none⟩ = some (.int .i64 x382000_2) := (blk_cell BK381.out 0).trans rfl
        have hcz93_1 : wr.cell? ⟨gb381, 1, none⟩ = some (.int .i64 x382001_2) := (blk_cell BK381.out 1).trans rfl
        have hcz93_2 : wr.cell? ⟨gb381, 2, none⟩ = some (.int .i64 x382002_2) := (blk_cell BK381.out 2).trans rfl
        have hcz93_3 : wr.cell? ⟨gb381, 3, none⟩ = some (.int .i64 x382003_2) := (blk_cell BK381.out 3).trans rfl
        have hcz93_4 : wr.cell? ⟨gb381, 4, none⟩ = some (.int .i64 x382004_2) := (blk_cell BK381.out 4).trans rfl
        have hfz93_0 := blk_frozen BK381.out 0
        have hfz93_1 := blk_frozen BK381.out 1
        have hfz93_2 := blk_frozen BK381.out 2
        have hfz93_3 := blk_frozen BK381.out 3
        have hfz93_4 := blk_frozen BK381.out 4
        go_wp2
        go_ret
        exact ⟨by first | rfl | (simp [errW_none, errW_some] <;> rfl) | (simp [*, errW_none, errW_some] <;> rfl), by repeat (first | (with_reducible first | exact HB.out | apply below_alloc | apply pw_below_drewN | apply below_drew1 | refine below_set ?_ GE381.out) | exact HB.out)⟩
 ·replace c5 := Bool.eq_false_iff.mpr c5
  subst c5
  have H1 : (none) = some r := by rw [if_neg (show ¬ (false = true) by decide)] at H; exact H
  clear H
  have H := H1
  clear H1
  exact absurd H (by simp)

/-- THE ONE PURE STATEMENT of q_DriveArrives: yours. -/
def q_DriveArrives.Pure : Prop := ∀ (a0 : Int) (a1 : Int) (a2 : Int), (Lit.int .i64 a0).wf = true → (Lit.int .i64 a1).wf = true → (Lit.int .i64 a2).wf = true → ∃ k, q_DriveArrives.f k a0 a1 a2 = some true
theorem q_DriveArrives.walk (P : q_DriveArrives.Pure) (a0 : Int) (a1 : Int) (a2 : Int) (w : World) (w0 : (Lit.int .i64 a0).wf = true) (w1 : (Lit.int .i64 a1).wf = true) (w2 : (Lit.int .i64 a2).wf = true) :
  Calls Try.prog 5 #[.int .i64 a0, .int .i64 a1, .int .i64 a2] w fun e w' => e = .returned (.bool true) ∧ Below w.heap.size w w' := by
 obtain ⟨k, h⟩ := P a0 a1 a2 w0 w1 w2
 refine (q_DriveArrives.calls k a0 a1 a2 true w h).mono ?_
 rintro e w' ⟨rfl, hd⟩
 exact ⟨rfl, hd⟩

end Go.Proofs.Ytfeikhooaadlbaa.P
