-- Printed by wip/myprint.py of this repo (over the kit's printer). Not trusted: Lean checks it.
import Derived.Test.YtfeikhooaadlbaaP0
import Derived.Test.YtfeikhooaadlbaaE24
import Derived.Test.YtfeikhooaadlbaaLDriveKnown
import Derived.Test.YtfeikhooaadlbaaNb
import Derived.Test.YtfeikhooaadlbaaP0drive
import Derived.Test.YtfeikhooaadlbaaP0drivea
import Derived.Test.YtfeikhooaadlbaaP0tipstafflaw13
import Derived.Test.YtfeikhooaadlbaaP1drive
import Derived.Test.YtfeikhooaadlbaaP1profile
namespace Go.Proofs.Ytfeikhooaadlbaa.P
open Go.RowKit Go.Proofs.YtfeikhooaadlbaaW.PrintWords Go.Proofs.YtfeikhooaadlbaaW.PrintLast Go.Proofs.YtfeikhooaadlbaaW.PrintMore
attribute [local go_sem] cell_same1 cell_some1
attribute [local go_sem] max2_int min2_int max_two min_two max_three min_three max_four min_four   -- for this text's walks alone
set_option linter.unusedVariables false
set_option linter.unusedSimpArgs false

attribute [local go_sem high] eqA24
/-! ### q_DriveWays: function 7 -/
def q_DriveWays.j0 : Nat → Int → Int → Int → Int → Int → Int → Int → Int → Bool → Option (Bool)
 | 0, _, _, _, _, _, _, _, _, _ => none
 | k + 1, x8, x9, x11, x12, x13, x17, x19, x21, x153 => if x153 = true then (none) else (if x12 = 0 then (some (x13 == 0)) else (if x9 > x8 then (if x17 < x13 then (none) else (if x19 > x13 then (none) else (if x9 < x8 then (if x17 > x13 then (none) else (some (x13 == (wrap64 (x21 + (wrap64 (2 * x11))))))) else (some (x13 == (wrap64 (x21 + (wrap64 (2 * x11))))))))) else (if x9 < x8 then (if x17 > x13 then (none) else (some (x13 == (wrap64 (x21 + (wrap64 (2 * x11))))))) else (some (x13 == (wrap64 (x21 + (wrap64 (2 * x11)))))))))
def q_DriveWays.f (k : Nat) (a0 : Int) (a1 : Int) (a2 : Int) : Option (Bool) := (q_DriveKnown.f k).bind fun t456 => (if t456 = true then ((q_made.f a0 a1 a2).bind fun bt457 => ((drive_Ticks.f k bt457.1 bt457.2.1 bt457.2.2.1 bt457.2.2.2).bind fun bt461 => ((drive_Ticks.f k bt457.2.1 bt457.1 bt457.2.2.1 bt457.2.2.2).bind fun bt463 => ((drive_Ticks.f k bt457.1 (wrap64 (bt457.2.1 + 1)) bt457.2.2.1 bt457.2.2.2).bind fun bt465 => ((drive_Ticks.f k bt457.1 (mx 0 (wrap64 (bt457.2.1 - 1))) bt457.2.2.1 bt457.2.2.2).bind fun bt467 => ((profile_Travel.f (wrap64 ((mx bt457.1 bt457.2.1) - (mn bt457.1 bt457.2.1))) bt457.2.2.1).bind fun bt469 => ((drive_At.f bt457.1).bind fun bt471 => ((drive_Go.f k bt471.1 bt471.2.1 bt471.2.2.1 bt471.2.2.2.1 bt471.2.2.2.2.1 bt457.2.1 bt457.2.2.2).bind fun bt478 => ((drive_Run.f bt478.1 bt478.2.1 bt478.2.2.1 bt478.2.2.2.1 bt478.2.2.2.2.1 bt457.2.2.1 bt457.2.2.2 1000).bind fun bt484 => (if bt461.2 = 0 then (if bt463.2 = 0 then (if bt465.2 = 0 then (if bt467.2 = 0 then (if bt469.2 = 0 then (if bt471.2.2.2.2.2 = 0 then (if bt478.2.2.2.2.2 = 0 then (if bt484.2.2.2.2.2.2 = 0 then (if bt461.1 = bt463.1 then (if bt484.2.2.2.2.2.1 = bt469.1 then (q_DriveWays.j0 k bt457.1 bt457.2.1 bt457.2.2.2 (wrap64 ((mx bt457.1 bt457.2.1) - (mn bt457.1 bt457.2.1))) bt461.1 bt465.1 bt467.1 bt469.1 (!(bt484.1 == bt457.2.1) || (!(bt484.2.1 == bt457.2.1) || (!(bt484.2.2.1 == 0) || (!(bt484.2.2.2.1 == 0) || (!(bt484.2.2.2.2.1 == 0))))))) else (q_DriveWays.j0 k bt457.1 bt457.2.1 bt457.2.2.2 (wrap64 ((mx bt457.1 bt457.2.1) - (mn bt457.1 bt457.2.1))) bt461.1 bt465.1 bt467.1 bt469.1 true)) else (q_DriveWays.j0 k bt457.1 bt457.2.1 bt457.2.2.2 (wrap64 ((mx bt457.1 bt457.2.1) - (mn bt457.1 bt457.2.1))) bt461.1 bt465.1 bt467.1 bt469.1 true)) else (q_DriveWays.j0 k bt457.1 bt457.2.1 bt457.2.2.2 (wrap64 ((mx bt457.1 bt457.2.1) - (mn bt457.1 bt457.2.1))) bt461.1 bt465.1 bt467.1 bt469.1 true)) else (q_DriveWays.j0 k bt457.1 bt457.2.1 bt457.2.2.2 (wrap64 ((mx bt457.1 bt457.2.1) - (mn bt457.1 bt457.2.1))) bt461.1 bt465.1 bt467.1 bt469.1 true)) else (q_DriveWays.j0 k bt457.1 bt457.2.1 bt457.2.2.2 (wrap64 ((mx bt457.1 bt457.2.1) - (mn bt457.1 bt457.2.1))) bt461.1 bt465.1 bt467.1 bt469.1 true)) else (q_DriveWays.j0 k bt457.1 bt457.2.1 bt457.2.2.2 (wrap64 ((mx bt457.1 bt457.2.1) - (mn bt457.1 bt457.2.1))) bt461.1 bt465.1 bt467.1 bt469.1 true)) else (q_DriveWays.j0 k bt457.1 bt457.2.1 bt457.2.2.2 (wrap64 ((mx bt457.1 bt457.2.1) - (mn bt457.1 bt457.2.1))) bt461.1 bt465.1 bt467.1 bt469.1 true)) else (q_DriveWays.j0 k bt457.1 bt457.2.1 bt457.2.2.2 (wrap64 ((mx bt457.1 bt457.2.1) - (mn bt457.1 bt457.2.1))) bt461.1 bt465.1 bt467.1 bt469.1 true)) else (q_DriveWays.j0 k bt457.1 bt457.2.1 bt457.2.2.2 (wrap64 ((mx bt457.1 bt457.2.1) - (mn bt457.1 bt457.2.1))) bt461.1 bt465.1 bt467.1 bt469.1 true)) else (q_DriveWays.j0 k bt457.1 bt457.2.1 bt457.2.2.2 (wrap64 ((mx bt457.1 bt457.2.1) - (mn bt457.1 bt457.2.1))) bt461.1 bt465.1 bt467.1 bt469.1 true))))))))))) else (none))
theorem q_DriveWays.mono_l : ∀ k, (∀ y0 y1 y2 y3 y4 y5 y6 y7 y8, LeO (q_DriveWays.j0 k y0 y1 y2 y3 y4 y5 y6 y7 y8) (q_DriveWays.j0 (k + 1) y0 y1 y2 y3 y4 y5 y6 y7 y8))
 | 0 => fun _ _ _ _ _ _ _ _ _ r h => by simp [q_DriveWays.j0] at h
 | k + 1 => by
  have ih0 := q_DriveWays.mono_l k
  ·intro y0 y1 y2 y3 y4 y5 y6 y7 y8
   unfold q_DriveWays.j0
   repeat' first
   | (with_reducible exact ih0 _ _ _ _ _ _ _ _ _)
   | (with_reducible exact drive_Go.mono _ _ _ _ _ _ _ _)
   | (with_reducible exact drive_Ticks.mono _ _ _ _ _)
   | (with_reducible exact q_DriveKnown.mono _)
   | (with_reducible exact LeO.refl _)
   | (with_reducible exact LeO.none _)
   | (with_reducible refine LeO.ite ?_ ?_)
   | (with_reducible refine LeO.bind ?_ (fun _ => ?_))
   | exact ih0 _ _ _ _ _ _ _ _ _
   | exact drive_Go.mono _ _ _ _ _ _ _ _
   | exact drive_Ticks.mono _ _ _ _ _
   | exact q_DriveKnown.mono _
   | exact LeO.none _
   | refine LeO.ite ?_ ?_
   | refine LeO.bind ?_ (fun _ => ?_)
theorem q_DriveWays.mono : ∀ a0 a1 a2 k, LeO (q_DriveWays.f k a0 a1 a2) (q_DriveWays.f (k + 1) a0 a1 a2) := by
 intro a0 a1 a2 k
 have ih0 := q_DriveWays.mono_l k
 unfold q_DriveWays.f
 repeat' first
   | (with_reducible exact ih0 _ _ _ _ _ _ _ _ _)
   | (with_reducible exact drive_Go.mono _ _ _ _ _ _ _ _)
   | (with_reducible exact drive_Ticks.mono _ _ _ _ _)
   | (with_reducible exact q_DriveKnown.mono _)
   | (with_reducible exact LeO.refl _)
   | (with_reducible exact LeO.none _)
   | (with_reducible refine LeO.ite ?_ ?_)
   | (with_reducible refine LeO.bind ?_ (fun _ => ?_))
   | exact ih0 _ _ _ _ _ _ _ _ _
   | exact drive_Go.mono _ _ _ _ _ _ _ _
   | exact drive_Ticks.mono _ _ _ _ _
   | exact q_DriveKnown.mono _
   | exact LeO.none _
   | refine LeO.ite ?_ ?_
   | refine LeO.bind ?_ (fun _ => ?_)
set_option maxHeartbeats 8000000 in
set_option maxRecDepth 100000 in
theorem q_DriveWays.calls (k : Nat) (a0 : Int) (a1 : Int) (a2 : Int) (r : Bool) (w : World) (h : q_DriveWays.f k a0 a1 a2 = some r) :
  Calls Try.prog 7 #[.int .i64 a0, .int .i64 a1, .int .i64 a2] w fun e w' => e = .returned (.bool r) ∧ Below w.heap.size w w' := by
 have hu24 := Try.underlying24
 have HB := Aside0.mk (Below.refl w.heap.size w)
 have H : ((q_DriveKnown.f k).bind fun t456 => (if t456 = true then ((q_made.f a0 a1 a2).bind fun bt457 => ((drive_Ticks.f k bt457.1 bt457.2.1 bt457.2.2.1 bt457.2.2.2).bind fun bt461 => ((drive_Ticks.f k bt457.2.1 bt457.1 bt457.2.2.1 bt457.2.2.2).bind fun bt463 => ((drive_Ticks.f k bt457.1 (wrap64 (bt457.2.1 + 1)) bt457.2.2.1 bt457.2.2.2).bind fun bt465 => ((drive_Ticks.f k bt457.1 (mx 0 (wrap64 (bt457.2.1 - 1))) bt457.2.2.1 bt457.2.2.2).bind fun bt467 => ((profile_Travel.f (wrap64 ((mx bt457.1 bt457.2.1) - (mn bt457.1 bt457.2.1))) bt457.2.2.1).bind fun bt469 => ((drive_At.f bt457.1).bind fun bt471 => ((drive_Go.f k bt471.1 bt471.2.1 bt471.2.2.1 bt471.2.2.2.1 bt471.2.2.2.2.1 bt457.2.1 bt457.2.2.2).bind fun bt478 => ((drive_Run.f bt478.1 bt478.2.1 bt478.2.2.1 bt478.2.2.2.1 bt478.2.2.2.2.1 bt457.2.2.1 bt457.2.2.2 1000).bind fun bt484 => (if bt461.2 = 0 then (if bt463.2 = 0 then (if bt465.2 = 0 then (if bt467.2 = 0 then (if bt469.2 = 0 then (if bt471.2.2.2.2.2 = 0 then (if bt478.2.2.2.2.2 = 0 then (if bt484.2.2.2.2.2.2 = 0 then (if bt461.1 = bt463.1 then (if bt484.2.2.2.2.2.1 = bt469.1 then (q_DriveWays.j0 k bt457.1 bt457.2.1 bt457.2.2.2 (wrap64 ((mx bt457.1 bt457.2.1) - (mn bt457.1 bt457.2.1))) bt461.1 bt465.1 bt467.1 bt469.1 (!(bt484.1 == bt457.2.1) || (!(bt484.2.1 == bt457.2.1) || (!(bt484.2.2.1 == 0) || (!(bt484.2.2.2.1 == 0) || (!(bt484.2.2.2.2.1 == 0))))))) else (q_DriveWays.j0 k bt457.1 bt457.2.1 bt457.2.2.2 (wrap64 ((mx bt457.1 bt457.2.1) - (mn bt457.1 bt457.2.1))) bt461.1 bt465.1 bt467.1 bt469.1 true)) else (q_DriveWays.j0 k bt457.1 bt457.2.1 bt457.2.2.2 (wrap64 ((mx bt457.1 bt457.2.1) - (mn bt457.1 bt457.2.1))) bt461.1 bt465.1 bt467.1 bt469.1 true)) else (q_DriveWays.j0 k bt457.1 bt457.2.1 bt457.2.2.2 (wrap64 ((mx bt457.1 bt457.2.1) - (mn bt457.1 bt457.2.1))) bt461.1 bt465.1 bt467.1 bt469.1 true)) else (q_DriveWays.j0 k bt457.1 bt457.2.1 bt457.2.2.2 (wrap64 ((mx bt457.1 bt457.2.1) - (mn bt457.1 bt457.2.1))) bt461.1 bt465.1 bt467.1 bt469.1 true)) else (q_DriveWays.j0 k bt457.1 bt457.2.1 bt457.2.2.2 (wrap64 ((mx bt457.1 bt457.2.1) - (mn bt457.1 bt457.2.1))) bt461.1 bt465.1 bt467.1 bt469.1 true)) else (q_DriveWays.j0 k bt457.1 bt457.2.1 bt457.2.2.2 (wrap64 ((mx bt457.1 bt457.2.1) - (mn bt457.1 bt457.2.1))) bt461.1 bt465.1 bt467.1 bt469.1 true)) else (q_DriveWays.j0 k bt457.1 bt457.2.1 bt457.2.2.2 (wrap64 ((mx bt457.1 bt457.2.1) - (mn bt457.1 bt457.2.1))) bt461.1 bt465.1 bt467.1 bt469.1 true)) else (q_DriveWays.j0 k bt457.1 bt457.2.1 bt457.2.2.2 (wrap64 ((mx bt457.1 bt457.2.1) - (mn bt457.1 bt457.2.1))) bt461.1 bt465.1 bt467.1 bt469.1 true)) else (q_DriveWays.j0 k bt457.1 bt457.2.1 bt457.2.2.2 (wrap64 ((mx bt457.1 bt457.2.1) - (mn bt457.1 bt457.2.1))) bt461.1 bt465.1 bt467.1 bt469.1 true)) else (q_DriveWays.j0 k bt457.1 bt457.2.1 bt457.2.2.2 (wrap64 ((mx bt457.1 bt457.2.1) - (mn bt457.1 bt457.2.1))) bt461.1 bt465.1 bt467.1 bt469.1 true))))))))))) else (none))) = some r := h
 clear h
 replace H := Option.bind_eq_some_iff.mp H
 obtain ⟨t456, A40, H⟩ := H
 replace H : (if t456 = true then ((q_made.f a0 a1 a2).bind fun bt457 => ((drive_Ticks.f k bt457.1 bt457.2.1 bt457.2.2.1 bt457.2.2.2).bind fun bt461 => ((drive_Ticks.f k bt457.2.1 bt457.1 bt457.2.2.1 bt457.2.2.2).bind fun bt463 => ((drive_Ticks.f k bt457.1 (wrap64 (bt457.2.1 + 1)) bt457.2.2.1 bt457.2.2.2).bind fun bt465 => ((drive_Ticks.f k bt457.1 (mx 0 (wrap64 (bt457.2.1 - 1))) bt457.2.2.1 bt457.2.2.2).bind fun bt467 => ((profile_Travel.f (wrap64 ((mx bt457.1 bt457.2.1) - (mn bt457.1 bt457.2.1))) bt457.2.2.1).bind fun bt469 => ((drive_At.f bt457.1).bind fun bt471 => ((drive_Go.f k bt471.1 bt471.2.1 bt471.2.2.1 bt471.2.2.2.1 bt471.2.2.2.2.1 bt457.2.1 bt457.2.2.2).bind fun bt478 => ((drive_Run.f bt478.1 bt478.2.1 bt478.2.2.1 bt478.2.2.2.1 bt478.2.2.2.2.1 bt457.2.2.1 bt457.2.2.2 1000).bind fun bt484 => (if bt461.2 = 0 then (if bt463.2 = 0 then (if bt465.2 = 0 then (if bt467.2 = 0 then (if bt469.2 = 0 then (if bt471.2.2.2.2.2 = 0 then (if bt478.2.2.2.2.2 = 0 then (if bt484.2.2.2.2.2.2 = 0 then (if bt461.1 = bt463.1 then (if bt484.2.2.2.2.2.1 = bt469.1 then (q_DriveWays.j0 k bt457.1 bt457.2.1 bt457.2.2.2 (wrap64 ((mx bt457.1 bt457.2.1) - (mn bt457.1 bt457.2.1))) bt461.1 bt465.1 bt467.1 bt469.1 (!(bt484.1 == bt457.2.1) || (!(bt484.2.1 == bt457.2.1) || (!(bt484.2.2.1 == 0) || (!(bt484.2.2.2.1 == 0) || (!(bt484.2.2.2.2.1 == 0))))))) else (q_DriveWays.j0 k bt457.1 bt457.2.1 bt457.2.2.2 (wrap64 ((mx bt457.1 bt457.2.1) - (mn bt457.1 bt457.2.1))) bt461.1 bt465.1 bt467.1 bt469.1 true)) else (q_DriveWays.j0 k bt457.1 bt457.2.1 bt457.2.2.2 (wrap64 ((mx bt457.1 bt457.2.1) - (mn bt457.1 bt457.2.1))) bt461.1 bt465.1 bt467.1 bt469.1 true)) else (q_DriveWays.j0 k bt457.1 bt457.2.1 bt457.2.2.2 (wrap64 ((mx bt457.1 bt457.2.1) - (mn bt457.1 bt457.2.1))) bt461.1 bt465.1 bt467.1 bt469.1 true)) else (q_DriveWays.j0 k bt457.1 bt457.2.1 bt457.2.2.2 (wrap64 ((mx bt457.1 bt457.2.1) - (mn bt457.1 bt457.2.1))) bt461.1 bt465.1 bt467.1 bt469.1 true)) else (q_DriveWays.j0 k bt457.1 bt457.2.1 bt457.2.2.2 (wrap64 ((mx bt457.1 bt457.2.1) - (mn bt457.1 bt457.2.1))) bt461.1 bt465.1 bt467.1 bt469.1 true)) else (q_DriveWays.j0 k bt457.1 bt457.2.1 bt457.2.2.2 (wrap64 ((mx bt457.1 bt457.2.1) - (mn bt457.1 bt457.2.1))) bt461.1 bt465.1 bt467.1 bt469.1 true)) else (q_DriveWays.j0 k bt457.1 bt457.2.1 bt457.2.2.2 (wrap64 ((mx bt457.1 bt457.2.1) - (mn bt457.1 bt457.2.1))) bt461.1 bt465.1 bt467.1 bt469.1 true)) else (q_DriveWays.j0 k bt457.1 bt457.2.1 bt457.2.2.2 (wrap64 ((mx bt457.1 bt457.2.1) - (mn bt457.1 bt457.2.1))) bt461.1 bt465.1 bt467.1 bt469.1 true)) else (q_DriveWays.j0 k bt457.1 bt457.2.1 bt457.2.2.2 (wrap64 ((mx bt457.1 bt457.2.1) - (mn bt457.1 bt457.2.1))) bt461.1 bt465.1 bt467.1 bt469.1 true)) else (q_DriveWays.j0 k bt457.1 bt457.2.1 bt457.2.2.2 (wrap64 ((mx bt457.1 bt457.2.1) - (mn bt457.1 bt457.2.1))) bt461.1 bt465.1 bt467.1 bt469.1 true))))))))))) else (none)) = some r := H
 have A4 := Aside0.mk A40
 clear A40
 by_cases c5 : t456 = true
 ·subst c5
  have H1 : ((q_made.f a0 a1 a2).bind fun bt457 => ((drive_Ticks.f k bt457.1 bt457.2.1 bt457.2.2.1 bt457.2.2.2).bind fun bt461 => ((drive_Ticks.f k bt457.2.1 bt457.1 bt457.2.2.1 bt457.2.2.2).bind fun bt463 => ((drive_Ticks.f k bt457.1 (wrap64 (bt457.2.1 + 1)) bt457.2.2.1 bt457.2.2.2).bind fun bt465 => ((drive_Ticks.f k bt457.1 (mx 0 (wrap64 (bt457.2.1 - 1))) bt457.2.2.1 bt457.2.2.2).bind fun bt467 => ((profile_Travel.f (wrap64 ((mx bt457.1 bt457.2.1) - (mn bt457.1 bt457.2.1))) bt457.2.2.1).bind fun bt469 => ((drive_At.f bt457.1).bind fun bt471 => ((drive_Go.f k bt471.1 bt471.2.1 bt471.2.2.1 bt471.2.2.2.1 bt471.2.2.2.2.1 bt457.2.1 bt457.2.2.2).bind fun bt478 => ((drive_Run.f bt478.1 bt478.2.1 bt478.2.2.1 bt478.2.2.2.1 bt478.2.2.2.2.1 bt457.2.2.1 bt457.2.2.2 1000).bind fun bt484 => (if bt461.2 = 0 then (if bt463.2 = 0 then (if bt465.2 = 0 then (if bt467.2 = 0 then (if bt469.2 = 0 then (if bt471.2.2.2.2.2 = 0 then (if bt478.2.2.2.2.2 = 0 then (if bt484.2.2.2.2.2.2 = 0 then (if bt461.1 = bt463.1 then (if bt484.2.2.2.2.2.1 = bt469.1 then (q_DriveWays.j0 k bt457.1 bt457.2.1 bt457.2.2.2 (wrap64 ((mx bt457.1 bt457.2.1) - (mn bt457.1 bt457.2.1))) bt461.1 bt465.1 bt467.1 bt469.1 (!(bt484.1 == bt457.2.1) || (!(bt484.2.1 == bt457.2.1) || (!(bt484.2.2.1 == 0) || (!(bt484.2.2.2.1 == 0) || (!(bt484.2.2.2.2.1 == 0))))))) else (q_DriveWays.j0 k bt457.1 bt457.2.1 bt457.2.2.2 (wrap64 ((mx bt457.1 bt457.2.1) - (mn bt457.1 bt457.2.1))) bt461.1 bt465.1 bt467.1 bt469.1 true)) else (q_DriveWays.j0 k bt457.1 bt457.2.1 bt457.2.2.2 (wrap64 ((mx bt457.1 bt457.2.1) - (mn bt457.1 bt457.2.1))) bt461.1 bt465.1 bt467.1 bt469.1 true)) else (q_DriveWays.j0 k bt457.1 bt457.2.1 bt457.2.2.2 (wrap64 ((mx bt457.1 bt457.2.1) - (mn bt457.1 bt457.2.1))) bt461.1 bt465.1 bt467.1 bt469.1 true)) else (q_DriveWays.j0 k bt457.1 bt457.2.1 bt457.2.2.2 (wrap64 ((mx bt457.1 bt457.2.1) - (mn bt457.1 bt457.2.1))) bt461.1 bt465.1 bt467.1 bt469.1 true)) else (q_DriveWays.j0 k bt457.1 bt457.2.1 bt457.2.2.2 (wrap64 ((mx bt457.1 bt457.2.1) - (mn bt457.1 bt457.2.1))) bt461.1 bt465.1 bt467.1 bt469.1 true)) else (q_DriveWays.j0 k bt457.1 bt457.2.1 bt457.2.2.2 (wrap64 ((mx bt457.1 bt457.2.1) - (mn bt457.1 bt457.2.1))) bt461.1 bt465.1 bt467.1 bt469.1 true)) else (q_DriveWays.j0 k bt457.1 bt457.2.1 bt457.2.2.2 (wrap64 ((mx bt457.1 bt457.2.1) - (mn bt457.1 bt457.2.1))) bt461.1 bt465.1 bt467.1 bt469.1 true)) else (q_DriveWays.j0 k bt457.1 bt457.2.1 bt457.2.2.2 (wrap64 ((mx bt457.1 bt457.2.1) - (mn bt457.1 bt457.2.1))) bt461.1 bt465.1 bt467.1 bt469.1 true)) else (q_DriveWays.j0 k bt457.1 bt457.2.1 bt457.2.2.2 (wrap64 ((mx bt457.1 bt457.2.1) - (mn bt457.1 bt457.2.1))) bt461.1 bt465.1 bt467.1 bt469.1 true)) else (q_DriveWays.j0 k bt457.1 bt457.2.1 bt457.2.2.2 (wrap64 ((mx bt457.1 bt457.2.1) - (mn bt457.1 bt457.2.1))) bt461.1 bt465.1 bt467.1 bt469.1 true))))))))))) = some r := by rw [if_pos rfl] at H; exact H
  clear H
  have H := H1
  clear H1
  replace H := Option.bind_eq_some_iff.mp H
  obtain ⟨⟨t457, t458, t459, t460⟩, A60, H⟩ := H
  replace H : ((drive_Ticks.f k t457 t458 t459 t460).bind fun bt461 => ((drive_Ticks.f k t458 t457 t459 t460).bind fun bt463 => ((drive_Ticks.f k t457 (wrap64 (t458 + 1)) t459 t460).bind fun bt465 => ((drive_Ticks.f k t457 (mx 0 (wrap64 (t458 - 1))) t459 t460).bind fun bt467 => ((profile_Travel.f (wrap64 ((mx t457 t458) - (mn t457 t458))) t459).bind fun bt469 => ((drive_At.f t457).bind fun bt471 => ((drive_Go.f k bt471.1 bt471.2.1 bt471.2.2.1 bt471.2.2.2.1 bt471.2.2.2.2.1 t458 t460).bind fun bt478 => ((drive_Run.f bt478.1 bt478.2.1 bt478.2.2.1 bt478.2.2.2.1 bt478.2.2.2.2.1 t459 t460 1000).bind fun bt484 => (if bt461.2 = 0 then (if bt463.2 = 0 then (if bt465.2 = 0 then (if bt467.2 = 0 then (if bt469.2 = 0 then (if bt471.2.2.2.2.2 = 0 then (if bt478.2.2.2.2.2 = 0 then (if bt484.2.2.2.2.2.2 = 0 then (if bt461.1 = bt463.1 then (if bt484.2.2.2.2.2.1 = bt469.1 then (q_DriveWays.j0 k t457 t458 t460 (wrap64 ((mx t457 t458) - (mn t457 t458))) bt461.1 bt465.1 bt467.1 bt469.1 (!(bt484.1 == t458) || (!(bt484.2.1 == t458) || (!(bt484.2.2.1 == 0) || (!(bt484.2.2.2.1 == 0) || (!(bt484.2.2.2.2.1 == 0))))))) else (q_DriveWays.j0 k t457 t458 t460 (wrap64 ((mx t457 t458) - (mn t457 t458))) bt461.1 bt465.1 bt467.1 bt469.1 true)) else (q_DriveWays.j0 k t457 t458 t460 (wrap64 ((mx t457 t458) - (mn t457 t458))) bt461.1 bt465.1 bt467.1 bt469.1 true)) else (q_DriveWays.j0 k t457 t458 t460 (wrap64 ((mx t457 t458) - (mn t457 t458))) bt461.1 bt465.1 bt467.1 bt469.1 true)) else (q_DriveWays.j0 k t457 t458 t460 (wrap64 ((mx t457 t458) - (mn t457 t458))) bt461.1 bt465.1 bt467.1 bt469.1 true)) else (q_DriveWays.j0 k t457 t458 t460 (wrap64 ((mx t457 t458) - (mn t457 t458))) bt461.1 bt465.1 bt467.1 bt469.1 true)) else (q_DriveWays.j0 k t457 t458 t460 (wrap64 ((mx t457 t458) - (mn t457 t458))) bt461.1 bt465.1 bt467.1 bt469.1 true)) else (q_DriveWays.j0 k t457 t458 t460 (wrap64 ((mx t457 t458) - (mn t457 t458))) bt461.1 bt465.1 bt467.1 bt469.1 true)) else (q_DriveWays.j0 k t457 t458 t460 (wrap64 ((mx t457 t458) - (mn t457 t458))) bt461.1 bt465.1 bt467.1 bt469.1 true)) else (q_DriveWays.j0 k t457 t458 t460 (wrap64 ((mx t457 t458) - (mn t457 t458))) bt461.1 bt465.1 bt467.1 bt469.1 true)) else (q_DriveWays.j0 k t457 t458 t460 (wrap64 ((mx t457 t458) - (mn t457 t458))) bt461.1 bt465.1 bt467.1 bt469.1 true)))))))))) = some r := H
  have A6 := Aside0.mk A60
  clear A60
  obtain ⟨ji7, hji7⟩ : ∃ j_ : Int, (mx t457 t458) = j_ := ⟨_, rfl⟩
  replace H : ((drive_Ticks.f k t457 t458 t459 t460).bind fun bt461 => ((drive_Ticks.f k t458 t457 t459 t460).bind fun bt463 => ((drive_Ticks.f k t457 (wrap64 (t458 + 1)) t459 t460).bind fun bt465 => ((drive_Ticks.f k t457 (mx 0 (wrap64 (t458 - 1))) t459 t460).bind fun bt467 => ((profile_Travel.f (wrap64 ((ji7) - (mn t457 t458))) t459).bind fun bt469 => ((drive_At.f t457).bind fun bt471 => ((drive_Go.f k bt471.1 bt471.2.1 bt471.2.2.1 bt471.2.2.2.1 bt471.2.2.2.2.1 t458 t460).bind fun bt478 => ((drive_Run.f bt478.1 bt478.2.1 bt478.2.2.1 bt478.2.2.2.1 bt478.2.2.2.2.1 t459 t460 1000).bind fun bt484 => (if bt461.2 = 0 then (if bt463.2 = 0 then (if bt465.2 = 0 then (if bt467.2 = 0 then (if bt469.2 = 0 then (if bt471.2.2.2.2.2 = 0 then (if bt478.2.2.2.2.2 = 0 then (if bt484.2.2.2.2.2.2 = 0 then (if bt461.1 = bt463.1 then (if bt484.2.2.2.2.2.1 = bt469.1 then (q_DriveWays.j0 k t457 t458 t460 (wrap64 ((ji7) - (mn t457 t458))) bt461.1 bt465.1 bt467.1 bt469.1 (!(bt484.1 == t458) || (!(bt484.2.1 == t458) || (!(bt484.2.2.1 == 0) || (!(bt484.2.2.2.1 == 0) || (!(bt484.2.2.2.2.1 == 0))))))) else (q_DriveWays.j0 k t457 t458 t460 (wrap64 ((ji7) - (mn t457 t458))) bt461.1 bt465.1 bt467.1 bt469.1 true)) else (q_DriveWays.j0 k t457 t458 t460 (wrap64 ((ji7) - (mn t457 t458))) bt461.1 bt465.1 bt467.1 bt469.1 true)) else (q_DriveWays.j0 k t457 t458 t460 (wrap64 ((ji7) - (mn t457 t458))) bt461.1 bt465.1 bt467.1 bt469.1 true)) else (q_DriveWays.j0 k t457 t458 t460 (wrap64 ((ji7) - (mn t457 t458))) bt461.1 bt465.1 bt467.1 bt469.1 true)) else (q_DriveWays.j0 k t457 t458 t460 (wrap64 ((ji7) - (mn t457 t458))) bt461.1 bt465.1 bt467.1 bt469.1 true)) else (q_DriveWays.j0 k t457 t458 t460 (wrap64 ((ji7) - (mn t457 t458))) bt461.1 bt465.1 bt467.1 bt469.1 true)) else (q_DriveWays.j0 k t457 t458 t460 (wrap64 ((ji7) - (mn t457 t458))) bt461.1 bt465.1 bt467.1 bt469.1 true)) else (q_DriveWays.j0 k t457 t458 t460 (wrap64 ((ji7) - (mn t457 t458))) bt461.1 bt465.1 bt467.1 bt469.1 true)) else (q_DriveWays.j0 k t457 t458 t460 (wrap64 ((ji7) - (mn t457 t458))) bt461.1 bt465.1 bt467.1 bt469.1 true)) else (q_DriveWays.j0 k t457 t458 t460 (wrap64 ((ji7) - (mn t457 t458))) bt461.1 bt465.1 bt467.1 bt469.1 true)))))))))) = some r := by first | (rw [hji7] at H; exact H) | (simp only [hji7] at H ⊢; exact H)
  (try rw [hji7] at A4)
  (try rw [hji7] at A6)
  have hji7_ : (if t457 < t458 then t458 else t457) = ji7 := hji7
  obtain ⟨ji8, hji8⟩ : ∃ j_ : Int, (mn t457 t458) = j_ := ⟨_, rfl⟩
  replace H : ((drive_Ticks.f k t457 t458 t459 t460).bind fun bt461 => ((drive_Ticks.f k t458 t457 t459 t460).bind fun bt463 => ((drive_Ticks.f k t457 (wrap64 (t458 + 1)) t459 t460).bind fun bt465 => ((drive_Ticks.f k t457 (mx 0 (wrap64 (t458 - 1))) t459 t460).bind fun bt467 => ((profile_Travel.f (wrap64 ((ji7) - (ji8))) t459).bind fun bt469 => ((drive_At.f t457).bind fun bt471 => ((drive_Go.f k bt471.1 bt471.2.1 bt471.2.2.1 bt471.2.2.2.1 bt471.2.2.2.2.1 t458 t460).bind fun bt478 => ((drive_Run.f bt478.1 bt478.2.1 bt478.2.2.1 bt478.2.2.2.1 bt478.2.2.2.2.1 t459 t460 1000).bind fun bt484 => (if bt461.2 = 0 then (if bt463.2 = 0 then (if bt465.2 = 0 then (if bt467.2 = 0 then (if bt469.2 = 0 then (if bt471.2.2.2.2.2 = 0 then (if bt478.2.2.2.2.2 = 0 then (if bt484.2.2.2.2.2.2 = 0 then (if bt461.1 = bt463.1 then (if bt484.2.2.2.2.2.1 = bt469.1 then (q_DriveWays.j0 k t457 t458 t460 (wrap64 ((ji7) - (ji8))) bt461.1 bt465.1 bt467.1 bt469.1 (!(bt484.1 == t458) || (!(bt484.2.1 == t458) || (!(bt484.2.2.1 == 0) || (!(bt484.2.2.2.1 == 0) || (!(bt484.2.2.2.2.1 == 0))))))) else (q_DriveWays.j0 k t457 t458 t460 (wrap64 ((ji7) - (ji8))) bt461.1 bt465.1 bt467.1 bt469.1 true)) else (q_DriveWays.j0 k t457 t458 t460 (wrap64 ((ji7) - (ji8))) bt461.1 bt465.1 bt467.1 bt469.1 true)) else (q_DriveWays.j0 k t457 t458 t460 (wrap64 ((ji7) - (ji8))) bt461.1 bt465.1 bt467.1 bt469.1 true)) else (q_DriveWays.j0 k t457 t458 t460 (wrap64 ((ji7) - (ji8))) bt461.1 bt465.1 bt467.1 bt469.1 true)) else (q_DriveWays.j0 k t457 t458 t460 (wrap64 ((ji7) - (ji8))) bt461.1 bt465.1 bt467.1 bt469.1 true)) else (q_DriveWays.j0 k t457 t458 t460 (wrap64 ((ji7) - (ji8))) bt461.1 bt465.1 bt467.1 bt469.1 true)) else (q_DriveWays.j0 k t457 t458 t460 (wrap64 ((ji7) - (ji8))) bt461.1 bt465.1 bt467.1 bt469.1 true)) else (q_DriveWays.j0 k t457 t458 t460 (wrap64 ((ji7) - (ji8))) bt461.1 bt465.1 bt467.1 bt469.1 true)) else (q_DriveWays.j0 k t457 t458 t460 (wrap64 ((ji7) - (ji8))) bt461.1 bt465.1 bt467.1 bt469.1 true)) else (q_DriveWays.j0 k t457 t458 t460 (wrap64 ((ji7) - (ji8))) bt461.1 bt465.1 bt467.1 bt469.1 true)))))))))) = some r := by first | (rw [hji8] at H; exact H) | (simp only [hji8] at H ⊢; exact H)
  (try rw [hji8] at A4)
  (try rw [hji8] at A6)
  have hji8_ : (if t458 < t457 then t458 else t457) = ji8 := hji8
  replace H := Option.bind_eq_some_iff.mp H
  obtain ⟨⟨t461, t462⟩, A90, H⟩ := H
  replace H : ((drive_Ticks.f k t458 t457 t459 t460).bind fun bt463 => ((drive_Ticks.f k t457 (wrap64 (t458 + 1)) t459 t460).bind fun bt465 => ((drive_Ticks.f k t457 (mx 0 (wrap64 (t458 - 1))) t459 t460).bind fun bt467 => ((profile_Travel.f (wrap64 ((ji7) - (ji8))) t459).bind fun bt469 => ((drive_At.f t457).bind fun bt471 => ((drive_Go.f k bt471.1 bt471.2.1 bt471.2.2.1 bt471.2.2.2.1 bt471.2.2.2.2.1 t458 t460).bind fun bt478 => ((drive_Run.f bt478.1 bt478.2.1 bt478.2.2.1 bt478.2.2.2.1 bt478.2.2.2.2.1 t459 t460 1000).bind fun bt484 => (if t462 = 0 then (if bt463.2 = 0 then (if bt465.2 = 0 then (if bt467.2 = 0 then (if bt469.2 = 0 then (if bt471.2.2.2.2.2 = 0 then (if bt478.2.2.2.2.2 = 0 then (if bt484.2.2.2.2.2.2 = 0 then (if t461 = bt463.1 then (if bt484.2.2.2.2.2.1 = bt469.1 then (q_DriveWays.j0 k t457 t458 t460 (wrap64 ((ji7) - (ji8))) t461 bt465.1 bt467.1 bt469.1 (!(bt484.1 == t458) || (!(bt484.2.1 == t458) || (!(bt484.2.2.1 == 0) || (!(bt484.2.2.2.1 == 0) || (!(bt484.2.2.2.2.1 == 0))))))) else (q_DriveWays.j0 k t457 t458 t460 (wrap64 ((ji7) - (ji8))) t461 bt465.1 bt467.1 bt469.1 true)) else (q_DriveWays.j0 k t457 t458 t460 (wrap64 ((ji7) - (ji8))) t461 bt465.1 bt467.1 bt469.1 true)) else (q_DriveWays.j0 k t457 t458 t460 (wrap64 ((ji7) - (ji8))) t461 bt465.1 bt467.1 bt469.1 true)) else (q_DriveWays.j0 k t457 t458 t460 (wrap64 ((ji7) - (ji8))) t461 bt465.1 bt467.1 bt469.1 true)) else (q_DriveWays.j0 k t457 t458 t460 (wrap64 ((ji7) - (ji8))) t461 bt465.1 bt467.1 bt469.1 true)) else (q_DriveWays.j0 k t457 t458 t460 (wrap64 ((ji7) - (ji8))) t461 bt465.1 bt467.1 bt469.1 true)) else (q_DriveWays.j0 k t457 t458 t460 (wrap64 ((ji7) - (ji8))) t461 bt465.1 bt467.1 bt469.1 true)) else (q_DriveWays.j0 k t457 t458 t460 (wrap64 ((ji7) - (ji8))) t461 bt465.1 bt467.1 bt469.1 true)) else (q_DriveWays.j0 k t457 t458 t460 (wrap64 ((ji7) - (ji8))) t461 bt465.1 bt467.1 bt469.1 true)) else (q_DriveWays.j0 k t457 t458 t460 (wrap64 ((ji7) - (ji8))) t461 bt465.1 bt467.1 bt469.1 true))))))))) = some r := H
  have A9 := Aside0.mk A90
  clear A90
  replace H := Option.bind_eq_some_iff.mp H
  obtain ⟨⟨t463, t464⟩, A100, H⟩ := H
  replace H : ((drive_Ticks.f k t457 (wrap64 (t458 + 1)) t459 t460).bind fun bt465 => ((drive_Ticks.f k t457 (mx 0 (wrap64 (t458 - 1))) t459 t460).bind fun bt467 => ((profile_Travel.f (wrap64 ((ji7) - (ji8))) t459).bind fun bt469 => ((drive_At.f t457).bind fun bt471 => ((drive_Go.f k bt471.1 bt471.2.1 bt471.2.2.1 bt471.2.2.2.1 bt471.2.2.2.2.1 t458 t460).bind fun bt478 => ((drive_Run.f bt478.1 bt478.2.1 bt478.2.2.1 bt478.2.2.2.1 bt478.2.2.2.2.1 t459 t460 1000).bind fun bt484 => (if t462 = 0 then (if t464 = 0 then (if bt465.2 = 0 then (if bt467.2 = 0 then (if bt469.2 = 0 then (if bt471.2.2.2.2.2 = 0 then (if bt478.2.2.2.2.2 = 0 then (if bt484.2.2.2.2.2.2 = 0 then (if t461 = t463 then (if bt484.2.2.2.2.2.1 = bt469.1 then (q_DriveWays.j0 k t457 t458 t460 (wrap64 ((ji7) - (ji8))) t461 bt465.1 bt467.1 bt469.1 (!(bt484.1 == t458) || (!(bt484.2.1 == t458) || (!(bt484.2.2.1 == 0) || (!(bt484.2.2.2.1 == 0) || (!(bt484.2.2.2.2.1 == 0))))))) else (q_DriveWays.j0 k t457 t458 t460 (wrap64 ((ji7) - (ji8))) t461 bt465.1 bt467.1 bt469.1 true)) else (q_DriveWays.j0 k t457 t458 t460 (wrap64 ((ji7) - (ji8))) t461 bt465.1 bt467.1 bt469.1 true)) else (q_DriveWays.j0 k t457 t458 t460 (wrap64 ((ji7) - (ji8))) t461 bt465.1 bt467.1 bt469.1 true)) else (q_DriveWays.j0 k t457 t458 t460 (wrap64 ((ji7) - (ji8))) t461 bt465.1 bt467.1 bt469.1 true)) else (q_DriveWays.j0 k t457 t458 t460 (wrap64 ((ji7) - (ji8))) t461 bt465.1 bt467.1 bt469.1 true)) else (q_DriveWays.j0 k t457 t458 t460 (wrap64 ((ji7) - (ji8))) t461 bt465.1 bt467.1 bt469.1 true)) else (q_DriveWays.j0 k t457 t458 t460 (wrap64 ((ji7) - (ji8))) t461 bt465.1 bt467.1 bt469.1 true)) else (q_DriveWays.j0 k t457 t458 t460 (wrap64 ((ji7) - (ji8))) t461 bt465.1 bt467.1 bt469.1 true)) else (q_DriveWays.j0 k t457 t458 t460 (wrap64 ((ji7) - (ji8))) t461 bt465.1 bt467.1 bt469.1 true)) else (q_DriveWays.j0 k t457 t458 t460 (wrap64 ((ji7) - (ji8))) t461 bt465.1 bt467.1 bt469.1 true)))))))) = some r := H
  have A10 := Aside0.mk A100
  clear A100
  replace H := Option.bind_eq_some_iff.mp H
  obtain ⟨⟨t465, t466⟩, A110, H⟩ := H
  replace H : ((drive_Ticks.f k t457 (mx 0 (wrap64 (t458 - 1))) t459 t460).bind fun bt467 => ((profile_Travel.f (wrap64 ((ji7) - (ji8))) t459).bind fun bt469 => ((drive_At.f t457).bind fun bt471 => ((drive_Go.f k bt471.1 bt471.2.1 bt471.2.2.1 bt471.2.2.2.1 bt471.2.2.2.2.1 t458 t460).bind fun bt478 => ((drive_Run.f bt478.1 bt478.2.1 bt478.2.2.1 bt478.2.2.2.1 bt478.2.2.2.2.1 t459 t460 1000).bind fun bt484 => (if t462 = 0 then (if t464 = 0 then (if t466 = 0 then (if bt467.2 = 0 then (if bt469.2 = 0 then (if bt471.2.2.2.2.2 = 0 then (if bt478.2.2.2.2.2 = 0 then (if bt484.2.2.2.2.2.2 = 0 then (if t461 = t463 then (if bt484.2.2.2.2.2.1 = bt469.1 then (q_DriveWays.j0 k t457 t458 t460 (wrap64 ((ji7) - (ji8))) t461 t465 bt467.1 bt469.1 (!(bt484.1 == t458) || (!(bt484.2.1 == t458) || (!(bt484.2.2.1 == 0) || (!(bt484.2.2.2.1 == 0) || (!(bt484.2.2.2.2.1 == 0))))))) else (q_DriveWays.j0 k t457 t458 t460 (wrap64 ((ji7) - (ji8))) t461 t465 bt467.1 bt469.1 true)) else (q_DriveWays.j0 k t457 t458 t460 (wrap64 ((ji7) - (ji8))) t461 t465 bt467.1 bt469.1 true)) else (q_DriveWays.j0 k t457 t458 t460 (wrap64 ((ji7) - (ji8))) t461 t465 bt467.1 bt469.1 true)) else (q_DriveWays.j0 k t457 t458 t460 (wrap64 ((ji7) - (ji8))) t461 t465 bt467.1 bt469.1 true)) else (q_DriveWays.j0 k t457 t458 t460 (wrap64 ((ji7) - (ji8))) t461 t465 bt467.1 bt469.1 true)) else (q_DriveWays.j0 k t457 t458 t460 (wrap64 ((ji7) - (ji8))) t461 t465 bt467.1 bt469.1 true)) else (q_DriveWays.j0 k t457 t458 t460 (wrap64 ((ji7) - (ji8))) t461 t465 bt467.1 bt469.1 true)) else (q_DriveWays.j0 k t457 t458 t460 (wrap64 ((ji7) - (ji8))) t461 t465 bt467.1 bt469.1 true)) else (q_DriveWays.j0 k t457 t458 t460 (wrap64 ((ji7) - (ji8))) t461 t465 bt467.1 bt469.1 true)) else (q_DriveWays.j0 k t457 t458 t460 (wrap64 ((ji7) - (ji8))) t461 t465 bt467.1 bt469.1 true))))))) = some r := H
  have A11 := Aside0.mk A110
  clear A110
  obtain ⟨ji12, hji12⟩ : ∃ j_ : Int, (mx 0 (wrap64 (t458 - 1))) = j_ := ⟨_, rfl⟩
  replace H : ((drive_Ticks.f k t457 (ji12) t459 t460).bind fun bt467 => ((profile_Travel.f (wrap64 ((ji7) - (ji8))) t459).bind fun bt469 => ((drive_At.f t457).bind fun bt471 => ((drive_Go.f k bt471.1 bt471.2.1 bt471.2.2.1 bt471.2.2.2.1 bt471.2.2.2.2.1 t458 t460).bind fun bt478 => ((drive_Run.f bt478.1 bt478.2.1 bt478.2.2.1 bt478.2.2.2.1 bt478.2.2.2.2.1 t459 t460 1000).bind fun bt484 => (if t462 = 0 then (if t464 = 0 then (if t466 = 0 then (if bt467.2 = 0 then (if bt469.2 = 0 then (if bt471.2.2.2.2.2 = 0 then (if bt478.2.2.2.2.2 = 0 then (if bt484.2.2.2.2.2.2 = 0 then (if t461 = t463 then (if bt484.2.2.2.2.2.1 = bt469.1 then (q_DriveWays.j0 k t457 t458 t460 (wrap64 ((ji7) - (ji8))) t461 t465 bt467.1 bt469.1 (!(bt484.1 == t458) || (!(bt484.2.1 == t458) || (!(bt484.2.2.1 == 0) || (!(bt484.2.2.2.1 == 0) || (!(bt484.2.2.2.2.1 == 0))))))) else (q_DriveWays.j0 k t457 t458 t460 (wrap64 ((ji7) - (ji8))) t461 t465 bt467.1 bt469.1 true)) else (q_DriveWays.j0 k t457 t458 t460 (wrap64 ((ji7) - (ji8))) t461 t465 bt467.1 bt469.1 true)) else (q_DriveWays.j0 k t457 t458 t460 (wrap64 ((ji7) - (ji8))) t461 t465 bt467.1 bt469.1 true)) else (q_DriveWays.j0 k t457 t458 t460 (wrap64 ((ji7) - (ji8))) t461 t465 bt467.1 bt469.1 true)) else (q_DriveWays.j0 k t457 t458 t460 (wrap64 ((ji7) - (ji8))) t461 t465 bt467.1 bt469.1 true)) else (q_DriveWays.j0 k t457 t458 t460 (wrap64 ((ji7) - (ji8))) t461 t465 bt467.1 bt469.1 true)) else (q_DriveWays.j0 k t457 t458 t460 (wrap64 ((ji7) - (ji8))) t461 t465 bt467.1 bt469.1 true)) else (q_DriveWays.j0 k t457 t458 t460 (wrap64 ((ji7) - (ji8))) t461 t465 bt467.1 bt469.1 true)) else (q_DriveWays.j0 k t457 t458 t460 (wrap64 ((ji7) - (ji8))) t461 t465 bt467.1 bt469.1 true)) else (q_DriveWays.j0 k t457 t458 t460 (wrap64 ((ji7) - (ji8))) t461 t465 bt467.1 bt469.1 true))))))) = some r := by first | (rw [hji12] at H; exact H) | (simp only [hji12] at H ⊢; exact H)
  (try rw [hji12] at A4)
  (try rw [hji12] at A6)
  (try rw [hji12] at A9)
  (try rw [hji12] at A10)
  (try rw [hji12] at A11)
  (try (have hji12l : 0 ≤ ji12 := by (rw [← hji12]; unfold mx; (repeat' split) <;> omega)))
  (try (have hji12m : 0 ≤ ji12 := by omega))
  have hji12_ : (if 0 < (wrap64 (t458 - 1)) then (wrap64 (t458 - 1)) else 0) = ji12 := hji12
  replace H := Option.bind_eq_some_iff.mp H
  obtain ⟨⟨t467, t468⟩, A130, H⟩ := H
  replace H : ((profile_Travel.f (wrap64 ((ji7) - (ji8))) t459).bind fun bt469 => ((drive_At.f t457).bind fun bt471 => ((drive_Go.f k bt471.1 bt471.2.1 bt471.2.2.1 bt471.2.2.2.1 bt471.2.2.2.2.1 t458 t460).bind fun bt478 => ((drive_Run.f bt478.1 bt478.2.1 bt478.2.2.1 bt478.2.2.2.1 bt478.2.2.2.2.1 t459 t460 1000).bind fun bt484 => (if t462 = 0 then (if t464 = 0 then (if t466 = 0 then (if t468 = 0 then (if bt469.2 = 0 then (if bt471.2.2.2.2.2 = 0 then (if bt478.2.2.2.2.2 = 0 then (if bt484.2.2.2.2.2.2 = 0 then (if t461 = t463 then (if bt484.2.2.2.2.2.1 = bt469.1 then (q_DriveWays.j0 k t457 t458 t460 (wrap64 ((ji7) - (ji8))) t461 t465 t467 bt469.1 (!(bt484.1 == t458) || (!(bt484.2.1 == t458) || (!(bt484.2.2.1 == 0) || (!(bt484.2.2.2.1 == 0) || (!(bt484.2.2.2.2.1 == 0))))))) else (q_DriveWays.j0 k t457 t458 t460 (wrap64 ((ji7) - (ji8))) t461 t465 t467 bt469.1 true)) else (q_DriveWays.j0 k t457 t458 t460 (wrap64 ((ji7) - (ji8))) t461 t465 t467 bt469.1 true)) else (q_DriveWays.j0 k t457 t458 t460 (wrap64 ((ji7) - (ji8))) t461 t465 t467 bt469.1 true)) else (q_DriveWays.j0 k t457 t458 t460 (wrap64 ((ji7) - (ji8))) t461 t465 t467 bt469.1 true)) else (q_DriveWays.j0 k t457 t458 t460 (wrap64 ((ji7) - (ji8))) t461 t465 t467 bt469.1 true)) else (q_DriveWays.j0 k t457 t458 t460 (wrap64 ((ji7) - (ji8))) t461 t465 t467 bt469.1 true)) else (q_DriveWays.j0 k t457 t458 t460 (wrap64 ((ji7) - (ji8))) t461 t465 t467 bt469.1 true)) else (q_DriveWays.j0 k t457 t458 t460 (wrap64 ((ji7) - (ji8))) t461 t465 t467 bt469.1 true)) else (q_DriveWays.j0 k t457 t458 t460 (wrap64 ((ji7) - (ji8))) t461 t465 t467 bt469.1 true)) else (q_DriveWays.j0 k t457 t458 t460 (wrap64 ((ji7) - (ji8))) t461 t465 t467 bt469.1 true)))))) = some r := H
  have A13 := Aside0.mk A130
  clear A130
  replace H := Option.bind_eq_some_iff.mp H
  obtain ⟨⟨t469, t470⟩, A140, H⟩ := H
  replace H : ((drive_At.f t457).bind fun bt471 => ((drive_Go.f k bt471.1 bt471.2.1 bt471.2.2.1 bt471.2.2.2.1 bt471.2.2.2.2.1 t458 t460).bind fun bt478 => ((drive_Run.f bt478.1 bt478.2.1 bt478.2.2.1 bt478.2.2.2.1 bt478.2.2.2.2.1 t459 t460 1000).bind fun bt484 => (if t462 = 0 then (if t464 = 0 then (if t466 = 0 then (if t468 = 0 then (if t470 = 0 then (if bt471.2.2.2.2.2 = 0 then (if bt478.2.2.2.2.2 = 0 then (if bt484.2.2.2.2.2.2 = 0 then (if t461 = t463 then (if bt484.2.2.2.2.2.1 = t469 then (q_DriveWays.j0 k t457 t458 t460 (wrap64 ((ji7) - (ji8))) t461 t465 t467 t469 (!(bt484.1 == t458) || (!(bt484.2.1 == t458) || (!(bt484.2.2.1 == 0) || (!(bt484.2.2.2.1 == 0) || (!(bt484.2.2.2.2.1 == 0))))))) else (q_DriveWays.j0 k t457 t458 t460 (wrap64 ((ji7) - (ji8))) t461 t465 t467 t469 true)) else (q_DriveWays.j0 k t457 t458 t460 (wrap64 ((ji7) - (ji8))) t461 t465 t467 t469 true)) else (q_DriveWays.j0 k t457 t458 t460 (wrap64 ((ji7) - (ji8))) t461 t465 t467 t469 true)) else (q_DriveWays.j0 k t457 t458 t460 (wrap64 ((ji7) - (ji8))) t461 t465 t467 t469 true)) else (q_DriveWays.j0 k t457 t458 t460 (wrap64 ((ji7) - (ji8))) t461 t465 t467 t469 true)) else (q_DriveWays.j0 k t457 t458 t460 (wrap64 ((ji7) - (ji8))) t461 t465 t467 t469 true)) else (q_DriveWays.j0 k t457 t458 t460 (wrap64 ((ji7) - (ji8))) t461 t465 t467 t469 true)) else (q_DriveWays.j0 k t457 t458 t460 (wrap64 ((ji7) - (ji8))) t461 t465 t467 t469 true)) else (q_DriveWays.j0 k t457 t458 t460 (wrap64 ((ji7) - (ji8))) t461 t465 t467 t469 true)) else (q_DriveWays.j0 k t457 t458 t460 (wrap64 ((ji7) - (ji8))) t461 t465 t467 t469 true))))) = some r := H
  have A14 := Aside0.mk A140
  clear A140
  replace H := Option.bind_eq_some_iff.mp H
  obtain ⟨⟨t471, t472, t473, t474, t475, t476⟩, A150, H⟩ := H
  replace H : ((drive_Go.f k t471 t472 t473 t474 t475 t458 t460).bind fun bt478 => ((drive_Run.f bt478.1 bt478.2.1 bt478.2.2.1 bt478.2.2.2.1 bt478.2.2.2.2.1 t459 t460 1000).bind fun bt484 => (if t462 = 0 then (if t464 = 0 then (if t466 = 0 then (if t468 = 0 then (if t470 = 0 then (if t476 = 0 then (if bt478.2.2.2.2.2 = 0 then (if bt484.2.2.2.2.2.2 = 0 then (if t461 = t463 then (if bt484.2.2.2.2.2.1 = t469 then (q_DriveWays.j0 k t457 t458 t460 (wrap64 ((ji7) - (ji8))) t461 t465 t467 t469 (!(bt484.1 == t458) || (!(bt484.2.1 == t458) || (!(bt484.2.2.1 == 0) || (!(bt484.2.2.2.1 == 0) || (!(bt484.2.2.2.2.1 == 0))))))) else (q_DriveWays.j0 k t457 t458 t460 (wrap64 ((ji7) - (ji8))) t461 t465 t467 t469 true)) else (q_DriveWays.j0 k t457 t458 t460 (wrap64 ((ji7) - (ji8))) t461 t465 t467 t469 true)) else (q_DriveWays.j0 k t457 t458 t460 (wrap64 ((ji7) - (ji8))) t461 t465 t467 t469 true)) else (q_DriveWays.j0 k t457 t458 t460 (wrap64 ((ji7) - (ji8))) t461 t465 t467 t469 true)) else (q_DriveWays.j0 k t457 t458 t460 (wrap64 ((ji7) - (ji8))) t461 t465 t467 t469 true)) else (q_DriveWays.j0 k t457 t458 t460 (wrap64 ((ji7) - (ji8))) t461 t465 t467 t469 true)) else (q_DriveWays.j0 k t457 t458 t460 (wrap64 ((ji7) - (ji8))) t461 t465 t467 t469 true)) else (q_DriveWays.j0 k t457 t458 t460 (wrap64 ((ji7) - (ji8))) t461 t465 t467 t469 true)) else (q_DriveWays.j0 k t457 t458 t460 (wrap64 ((ji7) - (ji8))) t461 t465 t467 t469 true)) else (q_DriveWays.j0 k t457 t458 t460 (wrap64 ((ji7) - (ji8))) t461 t465 t467 t469 true)))) = some r := H
  have A15 := Aside0.mk A150
  clear A150
  replace H := Option.bind_eq_some_iff.mp H
  obtain ⟨⟨t478, t479, t480, t481, t482, t483⟩, A160, H⟩ := H
  replace H : ((drive_Run.f t478 t479 t480 t481 t482 t459 t460 1000).bind fun bt484 => (if t462 = 0 then (if t464 = 0 then (if t466 = 0 then (if t468 = 0 then (if t470 = 0 then (if t476 = 0 then (if t483 = 0 then (if bt484.2.2.2.2.2.2 = 0 then (if t461 = t463 then (if bt484.2.2.2.2.2.1 = t469 then (q_DriveWays.j0 k t457 t458 t460 (wrap64 ((ji7) - (ji8))) t461 t465 t467 t469 (!(bt484.1 == t458) || (!(bt484.2.1 == t458) || (!(bt484.2.2.1 == 0) || (!(bt484.2.2.2.1 == 0) || (!(bt484.2.2.2.2.1 == 0))))))) else (q_DriveWays.j0 k t457 t458 t460 (wrap64 ((ji7) - (ji8))) t461 t465 t467 t469 true)) else (q_DriveWays.j0 k t457 t458 t460 (wrap64 ((ji7) - (ji8))) t461 t465 t467 t469 true)) else (q_DriveWays.j0 k t457 t458 t460 (wrap64 ((ji7) - (ji8))) t461 t465 t467 t469 true)) else (q_DriveWays.j0 k t457 t458 t460 (wrap64 ((ji7) - (ji8))) t461 t465 t467 t469 true)) else (q_DriveWays.j0 k t457 t458 t460 (wrap64 ((ji7) - (ji8))) t461 t465 t467 t469 true)) else (q_DriveWays.j0 k t457 t458 t460 (wrap64 ((ji7) - (ji8))) t461 t465 t467 t469 true)) else (q_DriveWays.j0 k t457 t458 t460 (wrap64 ((ji7) - (ji8))) t461 t465 t467 t469 true)) else (q_DriveWays.j0 k t457 t458 t460 (wrap64 ((ji7) - (ji8))) t461 t465 t467 t469 true)) else (q_DriveWays.j0 k t457 t458 t460 (wrap64 ((ji7) - (ji8))) t461 t465 t467 t469 true)) else (q_DriveWays.j0 k t457 t458 t460 (wrap64 ((ji7) - (ji8))) t461 t465 t467 t469 true))) = some r := H
  have A16 := Aside0.mk A160
  clear A160
  replace H := Option.bind_eq_some_iff.mp H
  obtain ⟨⟨t484, t485, t486, t487, t488, t489, t490⟩, A170, H⟩ := H
  replace H : (if t462 = 0 then (if t464 = 0 then (if t466 = 0 then (if t468 = 0 then (if t470 = 0 then (if t476 = 0 then (if t483 = 0 then (if t490 = 0 then (if t461 = t463 then (if t489 = t469 then (q_DriveWays.j0 k t457 t458 t460 (wrap64 ((ji7) - (ji8))) t461 t465 t467 t469 (!(t484 == t458) || (!(t485 == t458) || (!(t486 == 0) || (!(t487 == 0) || (!(t488 == 0))))))) else (q_DriveWays.j0 k t457 t458 t460 (wrap64 ((ji7) - (ji8))) t461 t465 t467 t469 true)) else (q_DriveWays.j0 k t457 t458 t460 (wrap64 ((ji7) - (ji8))) t461 t465 t467 t469 true)) else (q_DriveWays.j0 k t457 t458 t460 (wrap64 ((ji7) - (ji8))) t461 t465 t467 t469 true)) else (q_DriveWays.j0 k t457 t458 t460 (wrap64 ((ji7) - (ji8))) t461 t465 t467 t469 true)) else (q_DriveWays.j0 k t457 t458 t460 (wrap64 ((ji7) - (ji8))) t461 t465 t467 t469 true)) else (q_DriveWays.j0 k t457 t458 t460 (wrap64 ((ji7) - (ji8))) t461 t465 t467 t469 true)) else (q_DriveWays.j0 k t457 t458 t460 (wrap64 ((ji7) - (ji8))) t461 t465 t467 t469 true)) else (q_DriveWays.j0 k t457 t458 t460 (wrap64 ((ji7) - (ji8))) t461 t465 t467 t469 true)) else (q_DriveWays.j0 k t457 t458 t460 (wrap64 ((ji7) - (ji8))) t461 t465 t467 t469 true)) else (q_DriveWays.j0 k t457 t458 t460 (wrap64 ((ji7) - (ji8))) t461 t465 t467 t469 true)) = some r := H
  have A17 := Aside0.mk A170
  clear A170
  have HC18 := Aside0.mk H
  clear H
  go_enter Try.func7, Try.ntmps7
  go_upto_region 12 with (first | ((with_reducible refine gate_callee (f := 4) rfl ?_); refine goesL_ (some 29) rfl rfl Try.func4 (by kernel_rfl) rfl #[] rfl (by (try simp only [List.map_toArray, List.map_cons, List.map_nil]); first | done | rfl | (simp only [List.length_drop, List.length_take]; rfl)) ?_; (with_reducible refine (q_DriveKnown.calls k  true _ A4.out).mono ?_); rintro e w19 ⟨rfl, hb⟩; refine ⟨_, rfl, ?_⟩; have n0_ := Aside0.mk (below_step (by repeat (first | (with_reducible first | exact HB.out | apply below_alloc | apply pw_below_drewN | apply below_drew1) | exact HB.out)) hb); clear HB; have HB := n0_; clear n0_; (try clear hb); (try clear hb2); (try clear hk); (try clear hi)) | ((with_reducible refine gate_callee (f := 19) rfl ?_); refine goesL_ (some 34) rfl rfl Try.func19 (by kernel_rfl) rfl #[.int .i64 a0, .int .i64 a1, .int .i64 a2] rfl (by (try simp only [List.map_toArray, List.map_cons, List.map_nil]); first | done | rfl | (simp only [List.length_drop, List.length_take]; rfl)) ?_; (with_reducible refine (q_made.calls a0 a1 a2 t457 t458 t459 t460 _ A6.out).mono ?_); rintro e w' ⟨rfl, ⟨nd, rfl⟩⟩; refine ⟨_, rfl, ?_⟩; (try (rw [drewN_self w19]; generalize hq_ : World.drewN w19 _ = w19; have n0_ : Aside0 (Below w.heap.size w w19) := ⟨by rw [← hq_]; exact (by repeat (first | (with_reducible first | exact HB.out | apply below_alloc | apply pw_below_drewN | apply below_drew1) | exact HB.out))⟩; clear HB hq_; have HB := n0_; clear n0_))) | ((with_reducible refine gate_callee (f := 10) rfl ?_); refine goesL_ (some 51) rfl rfl Try.func10 (by kernel_rfl) rfl #[.int .i64 t457, .int .i64 t458, .int .i64 t459, .int .i64 t460] rfl (by (try simp only [List.map_toArray, List.map_cons, List.map_nil]); first | done | rfl | (simp only [List.length_drop, List.length_take]; rfl)) ?_; (with_reducible refine (drive_Ticks.calls k t457 t458 t459 t460 t461 t462 _ A9.out).mono ?_); rintro e w20 ⟨rfl, hb⟩; refine ⟨_, rfl, ?_⟩; have n0_ := Aside0.mk (below_step (by repeat (first | (with_reducible first | exact HB.out | apply below_alloc | apply pw_below_drewN | apply below_drew1) | exact HB.out)) hb); clear HB; have HB := n0_; clear n0_; (try clear hb); (try clear hb2); (try clear hk); (try clear hi)) | ((with_reducible refine gate_callee (f := 10) rfl ?_); refine goesL_ (some 59) rfl rfl Try.func10 (by kernel_rfl) rfl #[.int .i64 t458, .int .i64 t457, .int .i64 t459, .int .i64 t460] rfl (by (try simp only [List.map_toArray, List.map_cons, List.map_nil]); first | done | rfl | (simp only [List.length_drop, List.length_take]; rfl)) ?_; (with_reducible refine (drive_Ticks.calls k t458 t457 t459 t460 t463 t464 _ A10.out).mono ?_); rintro e w21 ⟨rfl, hb⟩; refine ⟨_, rfl, ?_⟩; have n0_ := Aside0.mk (below_step (by repeat (first | (with_reducible first | exact HB.out | apply below_alloc | apply pw_below_drewN | apply below_drew1) | exact HB.out)) hb); clear HB; have HB := n0_; clear n0_; (try clear hb); (try clear hb2); (try clear hk); (try clear hi)) | ((with_reducible refine gate_callee (f := 10) rfl ?_); refine goesL_ (some 68) rfl rfl Try.func10 (by kernel_rfl) rfl #[.int .i64 t457, .int .i64 (wrap64 (t458 + 1)), .int .i64 t459, .int .i64 t460] rfl (by (try simp only [List.map_toArray, List.map_cons, List.map_nil]); first | done | rfl | (simp only [List.length_drop, List.length_take]; rfl)) ?_; (with_reducible refine (drive_Ticks.calls k t457 (wrap64 (t458 + 1)) t459 t460 t465 t466 _ A11.out).mono ?_); rintro e w22 ⟨rfl, hb⟩; refine ⟨_, rfl, ?_⟩; have n0_ := Aside0.mk (below_step (by repeat (first | (with_reducible first | exact HB.out | apply below_alloc | apply pw_below_drewN | apply below_drew1) | exact HB.out)) hb); clear HB; have HB := n0_; clear n0_; (try clear hb); (try clear hb2); (try clear hk); (try clear hi)) | ((with_reducible refine gate_callee (f := 10) rfl ?_); refine goesL_ (some 78) rfl rfl Try.func10 (by kernel_rfl) rfl #[.int .i64 t457, .int .i64 ji12, .int .i64 t459, .int .i64 t460] rfl (by (try simp only [List.map_toArray, List.map_cons, List.map_nil]); first | done | (simp only [hji12]; rfl) | rfl | (simp only [List.length_drop, List.length_take]; rfl)) ?_; (with_reducible refine (drive_Ticks.calls k t457 ji12 t459 t460 t467 t468 _ A13.out).mono ?_); rintro e w23 ⟨rfl, hb⟩; refine ⟨_, rfl, ?_⟩; have n0_ := Aside0.mk (below_step (by repeat (first | (with_reducible first | exact HB.out | apply below_alloc | apply pw_below_drewN | apply below_drew1) | exact HB.out)) hb); clear HB; have HB := n0_; clear n0_; (try clear hb); (try clear hb2); (try clear hk); (try clear hi)) | ((with_reducible refine gate_callee (f := 23) rfl ?_); refine goesL_ (some 84) rfl rfl Try.func23 (by kernel_rfl) rfl #[.int .i64 (wrap64 ((ji7) - (ji8))), .int .i64 t459] rfl (by (try simp only [List.map_toArray, List.map_cons, List.map_nil]); first | done | (simp only [hji7, hji8]; rfl) | rfl | (simp only [List.length_drop, List.length_take]; rfl)) ?_; (with_reducible refine (profile_Travel.calls (wrap64 ((ji7) - (ji8))) t459 t469 t470 _ A14.out).mono ?_); rintro e w24 ⟨rfl, hb⟩; refine ⟨_, rfl, ?_⟩; have n0_ := Aside0.mk (below_step (by repeat (first | (with_reducible first | exact HB.out | apply below_alloc | apply pw_below_drewN | apply below_drew1) | exact HB.out)) hb); clear HB; have HB := n0_; clear n0_; (try clear hb); (try clear hb2); (try clear hk); (try clear hi)) | ((with_reducible refine gate_callee (f := 17) rfl ?_); refine goesL_ (some 89) rfl rfl Try.func17 (by kernel_rfl) rfl #[.int .i64 t457] rfl (by (try simp only [List.map_toArray, List.map_cons, List.map_nil]); first | done | rfl | (simp only [List.length_drop, List.length_take]; rfl)) ?_; (with_reducible refine (drive_At.calls t457 t471 t472 t473 t474 t475 t476 _ A15.out).mono ?_); rintro e w25 ⟨rfl, hb⟩; refine ⟨_, rfl, ?_⟩; have n0_ := Aside0.mk (below_step (by repeat (first | (with_reducible first | exact HB.out | apply below_alloc | apply pw_below_drewN | apply below_drew1) | exact HB.out)) hb); clear HB; have HB := n0_; clear n0_; (try clear hb); (try clear hb2); (try clear hk); (try clear hi)) | ((with_reducible refine gate_dst (N := 23) rfl ?_); refine box_event ?hg (N := 23) ?hd (cs := #[.int .i64 0, .int .i64 0, .int .i64 0, .int .i64 0, .int .i64 0]) (t := 24) ?hr ?_; (case hd => rfl); (case hg => rfl); (case hr => first | (go_simp; done) | (go_simp; rfl)); intro gb477 hg w26 hbox hb; have n0_ := Aside0.mk (below_step (by repeat (first | (with_reducible first | exact HB.out | apply below_alloc | apply pw_below_drewN | apply below_drew1) | exact HB.out)) hb); have n1_ := Aside0.mk (hbox); have n2_ := Aside0.mk ((by rw [hg]; exact (below_size (by repeat (first | (with_reducible first | exact HB.out | apply below_alloc | apply pw_below_drewN | apply below_drew1) | exact HB.out))) : w.heap.size ≤ gb477)); have n3_ := Aside0.mk ((by rw [hg]; exact (below_size (by repeat (first | (with_reducible first | exact HB.out | apply below_alloc | apply pw_below_drewN | apply below_drew1) | exact HB.out))) : w.heap.size ≤ gb477)); clear HB; have HB := n0_; have BK477 := n1_; have GW477 := n2_; have GE477 := n3_; clear n0_ n1_ n2_ n3_; clear hb hbox hg; have hcz27_0 : w26.cell? ⟨gb477, 0, none⟩ = some (.int .i64 0) := (blk_cell BK477.out 0).trans rfl; have hcz27_1 : w26.cell? ⟨gb477, 1, none⟩ = some (.int .i64 0) := (blk_cell BK477.out 1).trans rfl; have hcz27_2 : w26.cell? ⟨gb477, 2, none⟩ = some (.int .i64 0) := (blk_cell BK477.out 2).trans rfl; have hcz27_3 : w26.cell? ⟨gb477, 3, none⟩ = some (.int .i64 0) := (blk_cell BK477.out 3).trans rfl; have hcz27_4 : w26.cell? ⟨gb477, 4, none⟩ = some (.int .i64 0) := (blk_cell BK477.out 4).trans rfl; have hfz27_0 := blk_frozen BK477.out 0; have hfz27_1 := blk_frozen BK477.out 1; have hfz27_2 := blk_frozen BK477.out 2; have hfz27_3 := blk_frozen BK477.out 3; have hfz27_4 := blk_frozen BK477.out 4) | ((with_reducible refine gate_callee (f := 12) rfl ?_); refine goesL_ (some 96) rfl rfl Try.func12 (by kernel_rfl) rfl #[.agg #[.int .i64 t471, .int .i64 t472, .int .i64 t473, .int .i64 t474, .int .i64 t475], .int .i64 t458, .int .i64 t460] rfl (by (try simp only [List.map_toArray, List.map_cons, List.map_nil]); first | done | rfl | (simp only [List.length_drop, List.length_take]; rfl)) ?_; (with_reducible refine (drive_Go.calls k t471 t472 t473 t474 t475 t458 t460 t478 t479 t480 t481 t482 t483 _ A16.out).mono ?_); rintro e w28 ⟨rfl, hb⟩; refine ⟨_, rfl, ?_⟩; have n0_ := Aside0.mk (blk_below (g := gb477) (o := .cells #[.int .i64 t471, .int .i64 t472, .int .i64 t473, .int .i64 t474, .int .i64 t475] 24 (0, 0)) (by (with_reducible repeat (first | refine blk_drewN ?_ _ | refine blk_drew ?_ | refine blk_alloc ?_ _)); refine blk_put (cs := #[.int .i64 t471, .int .i64 t472, .int .i64 t473, .int .i64 t474, .int .i64 0]) ?_ 4 _ rfl; (with_reducible repeat (first | refine blk_drewN ?_ _ | refine blk_drew ?_ | refine blk_alloc ?_ _)); refine blk_put (cs := #[.int .i64 t471, .int .i64 t472, .int .i64 t473, .int .i64 0, .int .i64 0]) ?_ 3 _ rfl; (with_reducible repeat (first | refine blk_drewN ?_ _ | refine blk_drew ?_ | refine blk_alloc ?_ _)); refine blk_put (cs := #[.int .i64 t471, .int .i64 t472, .int .i64 0, .int .i64 0, .int .i64 0]) ?_ 2 _ rfl; (with_reducible repeat (first | refine blk_drewN ?_ _ | refine blk_drew ?_ | refine blk_alloc ?_ _)); refine blk_put (cs := #[.int .i64 t471, .int .i64 0, .int .i64 0, .int .i64 0, .int .i64 0]) ?_ 1 _ rfl; (with_reducible repeat (first | refine blk_drewN ?_ _ | refine blk_drew ?_ | refine blk_alloc ?_ _)); refine blk_put (cs := #[.int .i64 0, .int .i64 0, .int .i64 0, .int .i64 0, .int .i64 0]) ?_ 0 _ rfl; (with_reducible repeat (first | refine blk_drewN ?_ _ | refine blk_drew ?_ | refine blk_alloc ?_ _)); exact BK477.out) hb); have n1_ := Aside0.mk (below_step (by repeat (first | (with_reducible first | exact HB.out | apply below_alloc | apply pw_below_drewN | apply below_drew1 | refine below_set ?_ GE477.out) | exact HB.out)) hb); clear BK477; clear HB; have BK477 := n0_; have HB := n1_; clear n0_ n1_; (try clear hb); (try clear hb2); (try clear hk); (try clear hi); have hcz29_0 : w28.cell? ⟨gb477, 0, none⟩ = some (.int .i64 t471) := (blk_cell BK477.out 0).trans rfl; have hcz29_1 : w28.cell? ⟨gb477, 1, none⟩ = some (.int .i64 t472) := (blk_cell BK477.out 1).trans rfl; have hcz29_2 : w28.cell? ⟨gb477, 2, none⟩ = some (.int .i64 t473) := (blk_cell BK477.out 2).trans rfl; have hcz29_3 : w28.cell? ⟨gb477, 3, none⟩ = some (.int .i64 t474) := (blk_cell BK477.out 3).trans rfl; have hcz29_4 : w28.cell? ⟨gb477, 4, none⟩ = some (.int .i64 t475) := (blk_cell BK477.out 4).trans rfl; have hfz29_0 := blk_frozen BK477.out 0; have hfz29_1 := blk_frozen BK477.out 1; have hfz29_2 := blk_frozen BK477.out 2; have hfz29_3 := blk_frozen BK477.out 3; have hfz29_4 := blk_frozen BK477.out 4) | ((with_reducible refine gate_callee (f := 22) rfl ?_); refine goesL_ (some 103) rfl rfl Try.func22 (by kernel_rfl) rfl #[.agg #[.int .i64 t478, .int .i64 t479, .int .i64 t480, .int .i64 t481, .int .i64 t482], .int .i64 t459, .int .i64 t460, .int .i64 1000] rfl (by (try simp only [List.map_toArray, List.map_cons, List.map_nil]); first | done | rfl | (simp only [List.length_drop, List.length_take]; rfl)) ?_; (with_reducible refine (drive_Run.calls t478 t479 t480 t481 t482 t459 t460 1000 t484 t485 t486 t487 t488 t489 t490 _ A17.out).mono ?_); rintro e w30 ⟨rfl, hb⟩; refine ⟨_, rfl, ?_⟩; have n0_ := Aside0.mk (blk_below (g := gb477) (o := .cells #[.int .i64 t478, .int .i64 t479, .int .i64 t480, .int .i64 t481, .int .i64 t482] 24 (0, 0)) (by (with_reducible repeat (first | refine blk_drewN ?_ _ | refine blk_drew ?_ | refine blk_alloc ?_ _)); refine blk_put (cs := #[.int .i64 t478, .int .i64 t479, .int .i64 t480, .int .i64 t481, .int .i64 t475]) ?_ 4 _ rfl; (with_reducible repeat (first | refine blk_drewN ?_ _ | refine blk_drew ?_ | refine blk_alloc ?_ _)); refine blk_put (cs := #[.int .i64 t478, .int .i64 t479, .int .i64 t480, .int .i64 t474, .int .i64 t475]) ?_ 3 _ rfl; (with_reducible repeat (first | refine blk_drewN ?_ _ | refine blk_drew ?_ | refine blk_alloc ?_ _)); refine blk_put (cs := #[.int .i64 t478, .int .i64 t479, .int .i64 t473, .int .i64 t474, .int .i64 t475]) ?_ 2 _ rfl; (with_reducible repeat (first | refine blk_drewN ?_ _ | refine blk_drew ?_ | refine blk_alloc ?_ _)); refine blk_put (cs := #[.int .i64 t478, .int .i64 t472, .int .i64 t473, .int .i64 t474, .int .i64 t475]) ?_ 1 _ rfl; (with_reducible repeat (first | refine blk_drewN ?_ _ | refine blk_drew ?_ | refine blk_alloc ?_ _)); refine blk_put (cs := #[.int .i64 t471, .int .i64 t472, .int .i64 t473, .int .i64 t474, .int .i64 t475]) ?_ 0 _ rfl; (with_reducible repeat (first | refine blk_drewN ?_ _ | refine blk_drew ?_ | refine blk_alloc ?_ _)); exact BK477.out) hb); have n1_ := Aside0.mk (below_step (by repeat (first | (with_reducible first | exact HB.out | apply below_alloc | apply pw_below_drewN | apply below_drew1 | refine below_set ?_ GE477.out) | exact HB.out)) hb); clear BK477; clear HB; have BK477 := n0_; have HB := n1_; clear n0_ n1_; (try clear hb); (try clear hb2); (try clear hk); (try clear hi)) | ((with_reducible refine gate_dst (N := 26) rfl ?_); refine box_event ?hg (N := 26) ?hd (cs := #[.int .i64 0, .int .i64 0, .int .i64 0, .int .i64 0, .int .i64 0]) (t := 24) ?hr ?_; (case hd => rfl); (case hg => rfl); (case hr => first | (go_simp; done) | (go_simp; rfl)); intro gb491 hg w31 hbox hb; have n0_ := Aside0.mk (blk_below (g := gb477) (o := .cells #[.int .i64 t478, .int .i64 t479, .int .i64 t480, .int .i64 t481, .int .i64 t482] 24 (0, 0)) (by (with_reducible repeat (first | refine blk_drewN ?_ _ | refine blk_drew ?_ | refine blk_alloc ?_ _)); exact BK477.out) hb); have n1_ := Aside0.mk (below_step (by repeat (first | (with_reducible first | exact HB.out | apply below_alloc | apply pw_below_drewN | apply below_drew1 | refine below_set ?_ GE477.out) | exact HB.out)) hb); have n2_ := Aside0.mk (hbox); have n3_ := Aside0.mk ((by rw [hg]; exact (below_size (by repeat (first | (with_reducible first | exact HB.out | apply below_alloc | apply pw_below_drewN | apply below_drew1 | refine below_set ?_ GE477.out) | exact HB.out))) : w.heap.size ≤ gb491)); have n4_ := Aside0.mk ((by rw [hg]; exact (below_size (by repeat (first | (with_reducible first | exact HB.out | apply below_alloc | apply pw_below_drewN | apply below_drew1 | refine below_set ?_ GE477.out) | exact HB.out))) : w.heap.size ≤ gb491)); have n5_ := Aside0.mk ((by rw [hg]; exact Nat.ne_of_lt (blk_lt (g := gb477) (o := .cells #[.int .i64 t478, .int .i64 t479, .int .i64 t480, .int .i64 t481, .int .i64 t482] 24 (0, 0)) (by (with_reducible repeat (first | refine blk_drewN ?_ _ | refine blk_drew ?_ | refine blk_alloc ?_ _)); exact BK477.out)) : gb477 ≠ gb491)); have n6_ := Aside0.mk ((by rw [hg]; exact Nat.ne_of_gt (blk_lt (g := gb477) (o := .cells #[.int .i64 t478, .int .i64 t479, .int .i64 t480, .int .i64 t481, .int .i64 t482] 24 (0, 0)) (by (with_reducible repeat (first | refine blk_drewN ?_ _ | refine blk_drew ?_ | refine blk_alloc ?_ _)); exact BK477.out)) : gb491 ≠ gb477)); clear BK477; clear HB; have BK477 := n0_; have HB := n1_; have BK491 := n2_; have GW491 := n3_; have GE491 := n4_; have NB477_491 := n5_; have NB491_477 := n6_; clear n0_ n1_ n2_ n3_ n4_ n5_ n6_; clear hb hbox hg; have hnb32 := NB491_477.out; have hnc32 := NB477_491.out; have hcz33_0 : w31.cell? ⟨gb491, 0, none⟩ = some (.int .i64 0) := (blk_cell BK491.out 0).trans rfl; have hcz33_1 : w31.cell? ⟨gb491, 1, none⟩ = some (.int .i64 0) := (blk_cell BK491.out 1).trans rfl; have hcz33_2 : w31.cell? ⟨gb491, 2, none⟩ = some (.int .i64 0) := (blk_cell BK491.out 2).trans rfl; have hcz33_3 : w31.cell? ⟨gb491, 3, none⟩ = some (.int .i64 0) := (blk_cell BK491.out 3).trans rfl; have hcz33_4 : w31.cell? ⟨gb491, 4, none⟩ = some (.int .i64 0) := (blk_cell BK491.out 4).trans rfl; have hfz33_0 := blk_frozen BK491.out 0; have hfz33_1 := blk_frozen BK491.out 1; have hfz33_2 := blk_frozen BK491.out 2; have hfz33_3 := blk_frozen BK491.out 3; have hfz33_4 := blk_frozen BK491.out 4))
  (try simp only [Act.put, List.setIfInBounds_toArray, List.set_cons_zero, List.set_cons_succ])
  go_cut [153] (fun v153 wc => ∃ (kq : Nat) (x153_17 : Bool), v153 = .bool x153_17 ∧ Aside0 (q_DriveWays.j0 kq t457 t458 t460 (wrap64 ((ji7) - (ji8))) t461 t465 t467 t469 x153_17 = some r) ∧ Aside0 (kq ≤ k) ∧ Aside0 (wc.heap[gb477]? = some (.cells #[.int .i64 t478, .int .i64 t479, .int .i64 t480, .int .i64 t481, .int .i64 t482] 24 (0, 0))) ∧ Aside0 (wc.heap[gb491]? = some (.cells #[.int .i64 t484, .int .i64 t485, .int .i64 t486, .int .i64 t487, .int .i64 t488] 24 (0, 0))) ∧ Aside0 (Below w.heap.size w wc))
  case first =>
   have H := HC18.out
   clear HC18
   by_cases c34 : t462 = 0
   ·rw [if_pos c34] at H
    have c34b0 : (t462 == 0) = true := beq_iff_eq.mpr c34
    have c34b1 : (t462 != 0) = false := bne_eq_false_iff_eq.mpr c34
    clear c34
    (first | rw [c34b0] | (simp only [i64_w, i32_w]; rw [c34b0]) | skip)
    by_cases c35 : t464 = 0
    ·rw [if_pos c35] at H
     have c35b0 : (t464 == 0) = true := beq_iff_eq.mpr c35
     have c35b1 : (t464 != 0) = false := bne_eq_false_iff_eq.mpr c35
     clear c35
     by_cases c36 : t466 = 0
     ·rw [if_pos c36] at H
      have c36b0 : (t466 == 0) = true := beq_iff_eq.mpr c36
      have c36b1 : (t466 != 0) = false := bne_eq_false_iff_eq.mpr c36
      clear c36
      by_cases c37 : t468 = 0
      ·rw [if_pos c37] at H
       have c37b0 : (t468 == 0) = true := beq_iff_eq.mpr c37
       have c37b1 : (t468 != 0) = false := bne_eq_false_iff_eq.mpr c37
       clear c37
       by_cases c38 : t470 = 0
       ·rw [if_pos c38] at H
        have c38b0 : (t470 == 0) = true := beq_iff_eq.mpr c38
        have c38b1 : (t470 != 0) = false := bne_eq_false_iff_eq.mpr c38
        clear c38
        by_cases c39 : t476 = 0
        ·rw [if_pos c39] at H
         have c39b0 : (t476 == 0) = true := beq_iff_eq.mpr c39
         have c39b1 : (t476 != 0) = false := bne_eq_false_iff_eq.mpr c39
         clear c39
         by_cases c40 : t483 = 0
         ·rw [if_pos c40] at H
          have c40b0 : (t483 == 0) = true := beq_iff_eq.mpr c40
          have c40b1 : (t483 != 0) = false := bne_eq_false_iff_eq.mpr c40
          clear c40
          by_cases c41 : t490 = 0
          ·rw [if_pos c41] at H
           have c41b0 : (t490 == 0) = true := beq_iff_eq.mpr c41
           have c41b1 : (t490 != 0) = false := bne_eq_false_iff_eq.mpr c41
           clear c41
           by_cases c42 : t461 = t463
           ·rw [if_pos c42] at H
            have c42b0 : (t461 == t463) = true := beq_iff_eq.mpr c42
            have c42b1 : (t461 != t463) = false := bne_eq_false_iff_eq.mpr c42
            clear c42
            by_cases c43 : t489 = t469
            ·rw [if_pos c43] at H
             have c43b0 : (t489 == t469) = true := beq_iff_eq.mpr c43
             have c43b1 : (t489 != t469) = false := bne_eq_false_iff_eq.mpr c43
             clear c43
             have H' := Aside0.mk H
             clear H
             have hnb44 := NB491_477.out
             have hnc44 := NB477_491.out
             have hcz45_0 : w31.cell? ⟨gb491, 0, none⟩ = some (.int .i64 0) := (blk_cell BK491.out 0).trans rfl
             have hcz45_1 : w31.cell? ⟨gb491, 1, none⟩ = some (.int .i64 0) := (blk_cell BK491.out 1).trans rfl
             have hcz45_2 : w31.cell? ⟨gb491, 2, none⟩ = some (.int .i64 0) := (blk_cell BK491.out 2).trans rfl
             have hcz45_3 : w31.cell? ⟨gb491, 3, none⟩ = some (.int .i64 0) := (blk_cell BK491.out 3).trans rfl
             have hcz45_4 : w31.cell? ⟨gb491, 4, none⟩ = some (.int .i64 0) := (blk_cell BK491.out 4).trans rfl
             have hfz45_0 := blk_frozen BK491.out 0
             have hfz45_1 := blk_frozen BK491.out 1
             have hfz45_2 := blk_frozen BK491.out 2
             have hfz45_3 := blk_frozen BK491.out 3
             have hfz45_4 := blk_frozen BK491.out 4
             go_wp2
             go_meet
             case rel => exact ⟨_, ((!(t484 == t458) || (!(t485 == t458) || (!(t486 == 0) || (!(t487 == 0) || (!(t488 == 0))))))), (by first | rfl | (simp; done) | (simp [*]; done)), H', ⟨by first | omega | exact Nat.le_refl _⟩, ⟨by (with_reducible repeat (first | refine blk_drewN ?_ _ | refine blk_drew ?_ | refine blk_alloc ?_ _)); refine blk_far ?_ NB477_491.out _; (with_reducible repeat (first | refine blk_drewN ?_ _ | refine blk_drew ?_ | refine blk_alloc ?_ _)); refine blk_far ?_ NB477_491.out _; (with_reducible repeat (first | refine blk_drewN ?_ _ | refine blk_drew ?_ | refine blk_alloc ?_ _)); refine blk_far ?_ NB477_491.out _; (with_reducible repeat (first | refine blk_drewN ?_ _ | refine blk_drew ?_ | refine blk_alloc ?_ _)); refine blk_far ?_ NB477_491.out _; (with_reducible repeat (first | refine blk_drewN ?_ _ | refine blk_drew ?_ | refine blk_alloc ?_ _)); refine blk_far ?_ NB477_491.out _; (with_reducible repeat (first | refine blk_drewN ?_ _ | refine blk_drew ?_ | refine blk_alloc ?_ _)); exact BK477.out⟩, ⟨by (with_reducible repeat (first | refine blk_drewN ?_ _ | refine blk_drew ?_ | refine blk_alloc ?_ _)); refine blk_put (cs := #[.int .i64 t484, .int .i64 t485, .int .i64 t486, .int .i64 t487, .int .i64 0]) ?_ 4 _ rfl; (with_reducible repeat (first | refine blk_drewN ?_ _ | refine blk_drew ?_ | refine blk_alloc ?_ _)); refine blk_put (cs := #[.int .i64 t484, .int .i64 t485, .int .i64 t486, .int .i64 0, .int .i64 0]) ?_ 3 _ rfl; (with_reducible repeat (first | refine blk_drewN ?_ _ | refine blk_drew ?_ | refine blk_alloc ?_ _)); refine blk_put (cs := #[.int .i64 t484, .int .i64 t485, .int .i64 0, .int .i64 0, .int .i64 0]) ?_ 2 _ rfl; (with_reducible repeat (first | refine blk_drewN ?_ _ | refine blk_drew ?_ | refine blk_alloc ?_ _)); refine blk_put (cs := #[.int .i64 t484, .int .i64 0, .int .i64 0, .int .i64 0, .int .i64 0]) ?_ 1 _ rfl; (with_reducible repeat (first | refine blk_drewN ?_ _ | refine blk_drew ?_ | refine blk_alloc ?_ _)); refine blk_put (cs := #[.int .i64 0, .int .i64 0, .int .i64 0, .int .i64 0, .int .i64 0]) ?_ 0 _ rfl; (with_reducible repeat (first | refine blk_drewN ?_ _ | refine blk_drew ?_ | refine blk_alloc ?_ _)); exact BK491.out⟩, ⟨by repeat (first | (with_reducible first | exact HB.out | apply below_alloc | apply pw_below_drewN | apply below_drew1 | refine below_set ?_ GE477.out | refine below_set ?_ GE491.out) | exact HB.out)⟩⟩
            ·rw [if_neg c43] at H
             have c43b0 : (t489 == t469) = false := beq_eq_false_iff_ne.mpr c43
             have c43b1 : (t489 != t469) = true := bne_iff_ne.mpr c43
             have H' := Aside0.mk H
             clear H
             go_wp2
             go_meet
             case rel => exact ⟨_, (true), (by first | rfl | (simp; done) | (simp [*]; done)), H', ⟨by first | omega | exact Nat.le_refl _⟩, ⟨by (with_reducible repeat (first | refine blk_drewN ?_ _ | refine blk_drew ?_ | refine blk_alloc ?_ _)); refine blk_far ?_ NB477_491.out _; (with_reducible repeat (first | refine blk_drewN ?_ _ | refine blk_drew ?_ | refine blk_alloc ?_ _)); refine blk_far ?_ NB477_491.out _; (with_reducible repeat (first | refine blk_drewN ?_ _ | refine blk_drew ?_ | refine blk_alloc ?_ _)); refine blk_far ?_ NB477_491.out _; (with_reducible repeat (first | refine blk_drewN ?_ _ | refine blk_drew ?_ | refine blk_alloc ?_ _)); refine blk_far ?_ NB477_491.out _; (with_reducible repeat (first | refine blk_drewN ?_ _ | refine blk_drew ?_ | refine blk_alloc ?_ _)); refine blk_far ?_ NB477_491.out _; (with_reducible repeat (first | refine blk_drewN ?_ _ | refine blk_drew ?_ | refine blk_alloc ?_ _)); exact BK477.out⟩, ⟨by (with_reducible repeat (first | refine blk_drewN ?_ _ | refine blk_drew ?_ | refine blk_alloc ?_ _)); refine blk_put (cs := #[.int .i64 t484, .int .i64 t485, .int .i64 t486, .int .i64 t487, .int .i64 0]) ?_ 4 _ rfl; (with_reducible repeat (first | refine blk_drewN ?_ _ | refine blk_drew ?_ | refine blk_alloc ?_ _)); refine blk_put (cs := #[.int .i64 t484, .int .i64 t485, .int .i64 t486, .int .i64 0, .int .i64 0]) ?_ 3 _ rfl; (with_reducible repeat (first | refine blk_drewN ?_ _ | refine blk_drew ?_ | refine blk_alloc ?_ _)); refine blk_put (cs := #[.int .i64 t484, .int .i64 t485, .int .i64 0, .int .i64 0, .int .i64 0]) ?_ 2 _ rfl; (with_reducible repeat (first | refine blk_drewN ?_ _ | refine blk_drew ?_ | refine blk_alloc ?_ _)); refine blk_put (cs := #[.int .i64 t484, .int .i64 0, .int .i64 0, .int .i64 0, .int .i64 0]) ?_ 1 _ rfl; (with_reducible repeat (first | refine blk_drewN ?_ _ | refine blk_drew ?_ | refine blk_alloc ?_ _)); refine blk_put (cs := #[.int .i64 0, .int .i64 0, .int .i64 0, .int .i64 0, .int .i64 0]) ?_ 0 _ rfl; (with_reducible repeat (first | refine blk_drewN ?_ _ | refine blk_drew ?_ | refine blk_alloc ?_ _)); exact BK491.out⟩, ⟨by repeat (first | (with_reducible first | exact HB.out | apply below_alloc | apply pw_below_drewN | apply below_drew1 | refine below_set ?_ GE477.out | refine below_set ?_ GE491.out) | exact HB.out)⟩⟩
           ·rw [if_neg c42] at H
            have c42b0 : (t461 == t463) = false := beq_eq_false_iff_ne.mpr c42
            have c42b1 : (t461 != t463) = true := bne_iff_ne.mpr c42
            have H' := Aside0.mk H
            clear H
            go_wp2
            go_meet
            case rel => exact ⟨_, (true), (by first | rfl | (simp; done) | (simp [*]; done)), H', ⟨by first | omega | exact Nat.le_refl _⟩, ⟨by (with_reducible repeat (first | refine blk_drewN ?_ _ | refine blk_drew ?_ | refine blk_alloc ?_ _)); refine blk_far ?_ NB477_491.out _; (with_reducible repeat (first | refine blk_drewN ?_ _ | refine blk_drew ?_ | refine blk_alloc ?_ _)); refine blk_far ?_ NB477_491.out _; (with_reducible repeat (first | refine blk_drewN ?_ _ | refine blk_drew ?_ | refine blk_alloc ?_ _)); refine blk_far ?_ NB477_491.out _; (with_reducible repeat (first | refine blk_drewN ?_ _ | refine blk_drew ?_ | refine blk_alloc ?_ _)); refine blk_far ?_ NB477_491.out _; (with_reducible repeat (first | refine blk_drewN ?_ _ | refine blk_drew ?_ | refine blk_alloc ?_ _)); refine blk_far ?_ NB477_491.out _; (with_reducible repeat (first | refine blk_drewN ?_ _ | refine blk_drew ?_ | refine blk_alloc ?_ _)); exact BK477.out⟩, ⟨by (with_reducible repeat (first | refine blk_drewN ?_ _ | refine blk_drew ?_ | refine blk_alloc ?_ _)); refine blk_put (cs := #[.int .i64 t484, .int .i64 t485, .int .i64 t486, .int .i64 t487, .int .i64 0]) ?_ 4 _ rfl; (with_reducible repeat (first | refine blk_drewN ?_ _ | refine blk_drew ?_ | refine blk_alloc ?_ _)); refine blk_put (cs := #[.int .i64 t484, .int .i64 t485, .int .i64 t486, .int .i64 0, .int .i64 0]) ?_ 3 _ rfl; (with_reducible repeat (first | refine blk_drewN ?_ _ | refine blk_drew ?_ | refine blk_alloc ?_ _)); refine blk_put (cs := #[.int .i64 t484, .int .i64 t485, .int .i64 0, .int .i64 0, .int .i64 0]) ?_ 2 _ rfl; (with_reducible repeat (first | refine blk_drewN ?_ _ | refine blk_drew ?_ | refine blk_alloc ?_ _)); refine blk_put (cs := #[.int .i64 t484, .int .i64 0, .int .i64 0, .int .i64 0, .int .i64 0]) ?_ 1 _ rfl; (with_reducible repeat (first | refine blk_drewN ?_ _ | refine blk_drew ?_ | refine blk_alloc ?_ _)); refine blk_put (cs := #[.int .i64 0, .int .i64 0, .int .i64 0, .int .i64 0, .int .i64 0]) ?_ 0 _ rfl; (with_reducible repeat (first | refine blk_drewN ?_ _ | refine blk_drew ?_ | refine blk_alloc ?_ _)); exact BK491.out⟩, ⟨by repeat (first | (with_reducible first | exact HB.out | apply below_alloc | apply pw_below_drewN | apply below_drew1 | refine below_set ?_ GE477.out | refine below_set ?_ GE491.out) | exact HB.out)⟩⟩
          ·rw [if_neg c41] at H
           have c41b0 : (t490 == 0) = false := beq_eq_false_iff_ne.mpr c41
           have c41b1 : (t490 != 0) = true := bne_iff_ne.mpr c41
           have H' := Aside0.mk H
           clear H
           go_wp2
           go_meet
           case rel => exact ⟨_, (true), (by first | rfl | (simp; done) | (simp [*]; done)), H', ⟨by first | omega | exact Nat.le_refl _⟩, ⟨by (with_reducible repeat (first | refine blk_drewN ?_ _ | refine blk_drew ?_ | refine blk_alloc ?_ _)); refine blk_far ?_ NB477_491.out _; (with_reducible repeat (first | refine blk_drewN ?_ _ | refine blk_drew ?_ | refine blk_alloc ?_ _)); refine blk_far ?_ NB477_491.out _; (with_reducible repeat (first | refine blk_drewN ?_ _ | refine blk_drew ?_ | refine blk_alloc ?_ _)); refine blk_far ?_ NB477_491.out _; (with_reducible repeat (first | refine blk_drewN ?_ _ | refine blk_drew ?_ | refine blk_alloc ?_ _)); refine blk_far ?_ NB477_491.out _; (with_reducible repeat (first | refine blk_drewN ?_ _ | refine blk_drew ?_ | refine blk_alloc ?_ _)); refine blk_far ?_ NB477_491.out _; (with_reducible repeat (first | refine blk_drewN ?_ _ | refine blk_drew ?_ | refine blk_alloc ?_ _)); exact BK477.out⟩, ⟨by (with_reducible repeat (first | refine blk_drewN ?_ _ | refine blk_drew ?_ | refine blk_alloc ?_ _)); refine blk_put (cs := #[.int .i64 t484, .int .i64 t485, .int .i64 t486, .int .i64 t487, .int .i64 0]) ?_ 4 _ rfl; (with_reducible repeat (first | refine blk_drewN ?_ _ | refine blk_drew ?_ | refine blk_alloc ?_ _)); refine blk_put (cs := #[.int .i64 t484, .int .i64 t485, .int .i64 t486, .int .i64 0, .int .i64 0]) ?_ 3 _ rfl; (with_reducible repeat (first | refine blk_drewN ?_ _ | refine blk_drew ?_ | refine blk_alloc ?_ _)); refine blk_put (cs := #[.int .i64 t484, .int .i64 t485, .int .i64 0, .int .i64 0, .int .i64 0]) ?_ 2 _ rfl; (with_reducible repeat (first | refine blk_drewN ?_ _ | refine blk_drew ?_ | refine blk_alloc ?_ _)); refine blk_put (cs := #[.int .i64 t484, .int .i64 0, .int .i64 0, .int .i64 0, .int .i64 0]) ?_ 1 _ rfl; (with_reducible repeat (first | refine blk_drewN ?_ _ | refine blk_drew ?_ | refine blk_alloc ?_ _)); refine blk_put (cs := #[.int .i64 0, .int .i64 0, .int .i64 0, .int .i64 0, .int .i64 0]) ?_ 0 _ rfl; (with_reducible repeat (first | refine blk_drewN ?_ _ | refine blk_drew ?_ | refine blk_alloc ?_ _)); exact BK491.out⟩, ⟨by repeat (first | (with_reducible first | exact HB.out | apply below_alloc | apply pw_below_drewN | apply below_drew1 | refine below_set ?_ GE477.out | refine below_set ?_ GE491.out) | exact HB.out)⟩⟩
         ·rw [if_neg c40] at H
          have c40b0 : (t483 == 0) = false := beq_eq_false_iff_ne.mpr c40
          have c40b1 : (t483 != 0) = true := bne_iff_ne.mpr c40
          have H' := Aside0.mk H
          clear H
          go_wp2
          go_meet
          case rel => exact ⟨_, (true), (by first | rfl | (simp; done) | (simp [*]; done)), H', ⟨by first | omega | exact Nat.le_refl _⟩, ⟨by (with_reducible repeat (first | refine blk_drewN ?_ _ | refine blk_drew ?_ | refine blk_alloc ?_ _)); refine blk_far ?_ NB477_491.out _; (with_reducible repeat (first | refine blk_drewN ?_ _ | refine blk_drew ?_ | refine blk_alloc ?_ _)); refine blk_far ?_ NB477_491.out _; (with_reducible repeat (first | refine blk_drewN ?_ _ | refine blk_drew ?_ | refine blk_alloc ?_ _)); refine blk_far ?_ NB477_491.out _; (with_reducible repeat (first | refine blk_drewN ?_ _ | refine blk_drew ?_ | refine blk_alloc ?_ _)); refine blk_far ?_ NB477_491.out _; (with_reducible repeat (first | refine blk_drewN ?_ _ | refine blk_drew ?_ | refine blk_alloc ?_ _)); refine blk_far ?_ NB477_491.out _; (with_reducible repeat (first | refine blk_drewN ?_ _ | refine blk_drew ?_ | refine blk_alloc ?_ _)); exact BK477.out⟩, ⟨by (with_reducible repeat (first | refine blk_drewN ?_ _ | refine blk_drew ?_ | refine blk_alloc ?_ _)); refine blk_put (cs := #[.int .i64 t484, .int .i64 t485, .int .i64 t486, .int .i64 t487, .int .i64 0]) ?_ 4 _ rfl; (with_reducible repeat (first | refine blk_drewN ?_ _ | refine blk_drew ?_ | refine blk_alloc ?_ _)); refine blk_put (cs := #[.int .i64 t484, .int .i64 t485, .int .i64 t486, .int .i64 0, .int .i64 0]) ?_ 3 _ rfl; (with_reducible repeat (first | refine blk_drewN ?_ _ | refine blk_drew ?_ | refine blk_alloc ?_ _)); refine blk_put (cs := #[.int .i64 t484, .int .i64 t485, .int .i64 0, .int .i64 0, .int .i64 0]) ?_ 2 _ rfl; (with_reducible repeat (first | refine blk_drewN ?_ _ | refine blk_drew ?_ | refine blk_alloc ?_ _)); refine blk_put (cs := #[.int .i64 t484, .int .i64 0, .int .i64 0, .int .i64 0, .int .i64 0]) ?_ 1 _ rfl; (with_reducible repeat (first | refine blk_drewN ?_ _ | refine blk_drew ?_ | refine blk_alloc ?_ _)); refine blk_put (cs := #[.int .i64 0, .int .i64 0, .int .i64 0, .int .i64 0, .int .i64 0]) ?_ 0 _ rfl; (with_reducible repeat (first | refine blk_drewN ?_ _ | refine blk_drew ?_ | refine blk_alloc ?_ _)); exact BK491.out⟩, ⟨by repeat (first | (with_reducible first | exact HB.out | apply below_alloc | apply pw_below_drewN | apply below_drew1 | refine below_set ?_ GE477.out | refine below_set ?_ GE491.out) | exact HB.out)⟩⟩
        ·rw [if_neg c39] at H
         have c39b0 : (t476 == 0) = false := beq_eq_false_iff_ne.mpr c39
         have c39b1 : (t476 != 0) = true := bne_iff_ne.mpr c39
         have H' := Aside0.mk H
         clear H
         go_wp2
         go_meet
         case rel => exact ⟨_, (true), (by first | rfl | (simp; done) | (simp [*]; done)), H', ⟨by first | omega | exact Nat.le_refl _⟩, ⟨by (with_reducible repeat (first | refine blk_drewN ?_ _ | refine blk_drew ?_ | refine blk_alloc ?_ _)); refine blk_far ?_ NB477_491.out _; (with_reducible repeat (first | refine blk_drewN ?_ _ | refine blk_drew ?_ | refine blk_alloc ?_ _)); refine blk_far ?_ NB477_491.out _; (with_reducible repeat (first | refine blk_drewN ?_ _ | refine blk_drew ?_ | refine blk_alloc ?_ _)); refine blk_far ?_ NB477_491.out _; (with_reducible repeat (first | refine blk_drewN ?_ _ | refine blk_drew ?_ | refine blk_alloc ?_ _)); refine blk_far ?_ NB477_491.out _; (with_reducible repeat (first | refine blk_drewN ?_ _ | refine blk_drew ?_ | refine blk_alloc ?_ _)); refine blk_far ?_ NB477_491.out _; (with_reducible repeat (first | refine blk_drewN ?_ _ | refine blk_drew ?_ | refine blk_alloc ?_ _)); exact BK477.out⟩, ⟨by (with_reducible repeat (first | refine blk_drewN ?_ _ | refine blk_drew ?_ | refine blk_alloc ?_ _)); refine blk_put (cs := #[.int .i64 t484, .int .i64 t485, .int .i64 t486, .int .i64 t487, .int .i64 0]) ?_ 4 _ rfl; (with_reducible repeat (first | refine blk_drewN ?_ _ | refine blk_drew ?_ | refine blk_alloc ?_ _)); refine blk_put (cs := #[.int .i64 t484, .int .i64 t485, .int .i64 t486, .int .i64 0, .int .i64 0]) ?_ 3 _ rfl; (with_reducible repeat (first | refine blk_drewN ?_ _ | refine blk_drew ?_ | refine blk_alloc ?_ _)); refine blk_put (cs := #[.int .i64 t484, .int .i64 t485, .int .i64 0, .int .i64 0, .int .i64 0]) ?_ 2 _ rfl; (with_reducible repeat (first | refine blk_drewN ?_ _ | refine blk_drew ?_ | refine blk_alloc ?_ _)); refine blk_put (cs := #[.int .i64 t484, .int .i64 0, .int .i64 0, .int .i64 0, .int .i64 0]) ?_ 1 _ rfl; (with_reducible repeat (first | refine blk_drewN ?_ _ | refine blk_drew ?_ | refine blk_alloc ?_ _)); refine blk_put (cs := #[.int .i64 0, .int .i64 0, .int .i64 0, .int .i64 0, .int .i64 0]) ?_ 0 _ rfl; (with_reducible repeat (first | refine blk_drewN ?_ _ | refine blk_drew ?_ | refine blk_alloc ?_ _)); exact BK491.out⟩, ⟨by repeat (first | (with_reducible first | exact HB.out | apply below_alloc | apply pw_below_drewN | apply below_drew1 | refine below_set ?_ GE477.out | refine below_set ?_ GE491.out) | exact HB.out)⟩⟩
       ·rw [if_neg c38] at H
        have c38b0 : (t470 == 0) = false := beq_eq_false_iff_ne.mpr c38
        have c38b1 : (t470 != 0) = true := bne_iff_ne.mpr c38
        have H' := Aside0.mk H
        clear H
        go_wp2
        go_meet
        case rel => exact ⟨_, (true), (by first | rfl | (simp; done) | (simp [*]; done)), H', ⟨by first | omega | exact Nat.le_refl _⟩, ⟨by (with_reducible repeat (first | refine blk_drewN ?_ _ | refine blk_drew ?_ | refine blk_alloc ?_ _)); refine blk_far ?_ NB477_491.out _; (with_reducible repeat (first | refine blk_drewN ?_ _ | refine blk_drew ?_ | refine blk_alloc ?_ _)); refine blk_far ?_ NB477_491.out _; (with_reducible repeat (first | refine blk_drewN ?_ _ | refine blk_drew ?_ | refine blk_alloc ?_ _)); refine blk_far ?_ NB477_491.out _; (with_reducible repeat (first | refine blk_drewN ?_ _ | refine blk_drew ?_ | refine blk_alloc ?_ _)); refine blk_far ?_ NB477_491.out _; (with_reducible repeat (first | refine blk_drewN ?_ _ | refine blk_drew ?_ | refine blk_alloc ?_ _)); refine blk_far ?_ NB477_491.out _; (with_reducible repeat (first | refine blk_drewN ?_ _ | refine blk_drew ?_ | refine blk_alloc ?_ _)); exact BK477.out⟩, ⟨by (with_reducible repeat (first | refine blk_drewN ?_ _ | refine blk_drew ?_ | refine blk_alloc ?_ _)); refine blk_put (cs := #[.int .i64 t484, .int .i64 t485, .int .i64 t486, .int .i64 t487, .int .i64 0]) ?_ 4 _ rfl; (with_reducible repeat (first | refine blk_drewN ?_ _ | refine blk_drew ?_ | refine blk_alloc ?_ _)); refine blk_put (cs := #[.int .i64 t484, .int .i64 t485, .int .i64 t486, .int .i64 0, .int .i64 0]) ?_ 3 _ rfl; (with_reducible repeat (first | refine blk_drewN ?_ _ | refine blk_drew ?_ | refine blk_alloc ?_ _)); refine blk_put (cs := #[.int .i64 t484, .int .i64 t485, .int .i64 0, .int .i64 0, .int .i64 0]) ?_ 2 _ rfl; (with_reducible repeat (first | refine blk_drewN ?_ _ | refine blk_drew ?_ | refine blk_alloc ?_ _)); refine blk_put (cs := #[.int .i64 t484, .int .i64 0, .int .i64 0, .int .i64 0, .int .i64 0]) ?_ 1 _ rfl; (with_reducible repeat (first | refine blk_drewN ?_ _ | refine blk_drew ?_ | refine blk_alloc ?_ _)); refine blk_put (cs := #[.int .i64 0, .int .i64 0, .int .i64 0, .int .i64 0, .int .i64 0]) ?_ 0 _ rfl; (with_reducible repeat (first | refine blk_drewN ?_ _ | refine blk_drew ?_ | refine blk_alloc ?_ _)); exact BK491.out⟩, ⟨by repeat (first | (with_reducible first | exact HB.out | apply below_alloc | apply pw_below_drewN | apply below_drew1 | refine below_set ?_ GE477.out | refine below_set ?_ GE491.out) | exact HB.out)⟩⟩
      ·rw [if_neg c37] at H
       have c37b0 : (t468 == 0) = false := beq_eq_false_iff_ne.mpr c37
       have c37b1 : (t468 != 0) = true := bne_iff_ne.mpr c37
       have H' := Aside0.mk H
       clear H
       go_wp2
       go_meet
       case rel => exact ⟨_, (true), (by first | rfl | (simp; done) | (simp [*]; done)), H', ⟨by first | omega | exact Nat.le_refl _⟩, ⟨by (with_reducible repeat (first | refine blk_drewN ?_ _ | refine blk_drew ?_ | refine blk_alloc ?_ _)); refine blk_far ?_ NB477_491.out _; (with_reducible repeat (first | refine blk_drewN ?_ _ | refine blk_drew ?_ | refine blk_alloc ?_ _)); refine blk_far ?_ NB477_491.out _; (with_reducible repeat (first | refine blk_drewN ?_ _ | refine blk_drew ?_ | refine blk_alloc ?_ _)); refine blk_far ?_ NB477_491.out _; (with_reducible repeat (first | refine blk_drewN ?_ _ | refine blk_drew ?_ | refine blk_alloc ?_ _)); refine blk_far ?_ NB477_491.out _; (with_reducible repeat (first | refine blk_drewN ?_ _ | refine blk_drew ?_ | refine blk_alloc ?_ _)); refine blk_far ?_ NB477_491.out _; (with_reducible repeat (first | refine blk_drewN ?_ _ | refine blk_drew ?_ | refine blk_alloc ?_ _)); exact BK477.out⟩, ⟨by (with_reducible repeat (first | refine blk_drewN ?_ _ | refine blk_drew ?_ | refine blk_alloc ?_ _)); refine blk_put (cs := #[.int .i64 t484, .int .i64 t485, .int .i64 t486, .int .i64 t487, .int .i64 0]) ?_ 4 _ rfl; (with_reducible repeat (first | refine blk_drewN ?_ _ | refine blk_drew ?_ | refine blk_alloc ?_ _)); refine blk_put (cs := #[.int .i64 t484, .int .i64 t485, .int .i64 t486, .int .i64 0, .int .i64 0]) ?_ 3 _ rfl; (with_reducible repeat (first | refine blk_drewN ?_ _ | refine blk_drew ?_ | refine blk_alloc ?_ _)); refine blk_put (cs := #[.int .i64 t484, .int .i64 t485, .int .i64 0, .int .i64 0, .int .i64 0]) ?_ 2 _ rfl; (with_reducible repeat (first | refine blk_drewN ?_ _ | refine blk_drew ?_ | refine blk_alloc ?_ _)); refine blk_put (cs := #[.int .i64 t484, .int .i64 0, .int .i64 0, .int .i64 0, .int .i64 0]) ?_ 1 _ rfl; (with_reducible repeat (first | refine blk_drewN ?_ _ | refine blk_drew ?_ | refine blk_alloc ?_ _)); refine blk_put (cs := #[.int .i64 0, .int .i64 0, .int .i64 0, .int .i64 0, .int .i64 0]) ?_ 0 _ rfl; (with_reducible repeat (first | refine blk_drewN ?_ _ | refine blk_drew ?_ | refine blk_alloc ?_ _)); exact BK491.out⟩, ⟨by repeat (first | (with_reducible first | exact HB.out | apply below_alloc | apply pw_below_drewN | apply below_drew1 | refine below_set ?_ GE477.out | refine below_set ?_ GE491.out) | exact HB.out)⟩⟩
     ·rw [if_neg c36] at H
      have c36b0 : (t466 == 0) = false := beq_eq_false_iff_ne.mpr c36
      have c36b1 : (t466 != 0) = true := bne_iff_ne.mpr c36
      have H' := Aside0.mk H
      clear H
      go_wp2
      go_meet
      case rel => exact ⟨_, (true), (by first | rfl | (simp; done) | (simp [*]; done)), H', ⟨by first | omega | exact Nat.le_refl _⟩, ⟨by (with_reducible repeat (first | refine blk_drewN ?_ _ | refine blk_drew ?_ | refine blk_alloc ?_ _)); refine blk_far ?_ NB477_491.out _; (with_reducible repeat (first | refine blk_drewN ?_ _ | refine blk_drew ?_ | refine blk_alloc ?_ _)); refine blk_far ?_ NB477_491.out _; (with_reducible repeat (first | refine blk_drewN ?_ _ | refine blk_drew ?_ | refine blk_alloc ?_ _)); refine blk_far ?_ NB477_491.out _; (with_reducible repeat (first | refine blk_drewN ?_ _ | refine blk_drew ?_ | refine blk_alloc ?_ _)); refine blk_far ?_ NB477_491.out _; (with_reducible repeat (first | refine blk_drewN ?_ _ | refine blk_drew ?_ | refine blk_alloc ?_ _)); refine blk_far ?_ NB477_491.out _; (with_reducible repeat (first | refine blk_drewN ?_ _ | refine blk_drew ?_ | refine blk_alloc ?_ _)); exact BK477.out⟩, ⟨by (with_reducible repeat (first | refine blk_drewN ?_ _ | refine blk_drew ?_ | refine blk_alloc ?_ _)); refine blk_put (cs := #[.int .i64 t484, .int .i64 t485, .int .i64 t486, .int .i64 t487, .int .i64 0]) ?_ 4 _ rfl; (with_reducible repeat (first | refine blk_drewN ?_ _ | refine blk_drew ?_ | refine blk_alloc ?_ _)); refine blk_put (cs := #[.int .i64 t484, .int .i64 t485, .int .i64 t486, .int .i64 0, .int .i64 0]) ?_ 3 _ rfl; (with_reducible repeat (first | refine blk_drewN ?_ _ | refine blk_drew ?_ | refine blk_alloc ?_ _)); refine blk_put (cs := #[.int .i64 t484, .int .i64 t485, .int .i64 0, .int .i64 0, .int .i64 0]) ?_ 2 _ rfl; (with_reducible repeat (first | refine blk_drewN ?_ _ | refine blk_drew ?_ | refine blk_alloc ?_ _)); refine blk_put (cs := #[.int .i64 t484, .int .i64 0, .int .i64 0, .int .i64 0, .int .i64 0]) ?_ 1 _ rfl; (with_reducible repeat (first | refine blk_drewN ?_ _ | refine blk_drew ?_ | refine blk_alloc ?_ _)); refine blk_put (cs := #[.int .i64 0, .int .i64 0, .int .i64 0, .int .i64 0, .int .i64 0]) ?_ 0 _ rfl; (with_reducible repeat (first | refine blk_drewN ?_ _ | refine blk_drew ?_ | refine blk_alloc ?_ _)); exact BK491.out⟩, ⟨by repeat (first | (with_reducible first | exact HB.out | apply below_alloc | apply pw_below_drewN | apply below_drew1 | refine below_set ?_ GE477.out | refine below_set ?_ GE491.out) | exact HB.out)⟩⟩
    ·rw [if_neg c35] at H
     have c35b0 : (t464 == 0) = false := beq_eq_false_iff_ne.mpr c35
     have c35b1 : (t464 != 0) = true := bne_iff_ne.mpr c35
     have H' := Aside0.mk H
     clear H
     go_wp2
     go_meet
     case rel => exact ⟨_, (true), (by first | rfl | (simp; done) | (simp [*]; done)), H', ⟨by first | omega | exact Nat.le_refl _⟩, ⟨by (with_reducible repeat (first | refine blk_drewN ?_ _ | refine blk_drew ?_ | refine blk_alloc ?_ _)); refine blk_far ?_ NB477_491.out _; (with_reducible repeat (first | refine blk_drewN ?_ _ | refine blk_drew ?_ | refine blk_alloc ?_ _)); refine blk_far ?_ NB477_491.out _; (with_reducible repeat (first | refine blk_drewN ?_ _ | refine blk_drew ?_ | refine blk_alloc ?_ _)); refine blk_far ?_ NB477_491.out _; (with_reducible repeat (first | refine blk_drewN ?_ _ | refine blk_drew ?_ | refine blk_alloc ?_ _)); refine blk_far ?_ NB477_491.out _; (with_reducible repeat (first | refine blk_drewN ?_ _ | refine blk_drew ?_ | refine blk_alloc ?_ _)); refine blk_far ?_ NB477_491.out _; (with_reducible repeat (first | refine blk_drewN ?_ _ | refine blk_drew ?_ | refine blk_alloc ?_ _)); exact BK477.out⟩, ⟨by (with_reducible repeat (first | refine blk_drewN ?_ _ | refine blk_drew ?_ | refine blk_alloc ?_ _)); refine blk_put (cs := #[.int .i64 t484, .int .i64 t485, .int .i64 t486, .int .i64 t487, .int .i64 0]) ?_ 4 _ rfl; (with_reducible repeat (first | refine blk_drewN ?_ _ | refine blk_drew ?_ | refine blk_alloc ?_ _)); refine blk_put (cs := #[.int .i64 t484, .int .i64 t485, .int .i64 t486, .int .i64 0, .int .i64 0]) ?_ 3 _ rfl; (with_reducible repeat (first | refine blk_drewN ?_ _ | refine blk_drew ?_ | refine blk_alloc ?_ _)); refine blk_put (cs := #[.int .i64 t484, .int .i64 t485, .int .i64 0, .int .i64 0, .int .i64 0]) ?_ 2 _ rfl; (with_reducible repeat (first | refine blk_drewN ?_ _ | refine blk_drew ?_ | refine blk_alloc ?_ _)); refine blk_put (cs := #[.int .i64 t484, .int .i64 0, .int .i64 0, .int .i64 0, .int .i64 0]) ?_ 1 _ rfl; (with_reducible repeat (first | refine blk_drewN ?_ _ | refine blk_drew ?_ | refine blk_alloc ?_ _)); refine blk_put (cs := #[.int .i64 0, .int .i64 0, .int .i64 0, .int .i64 0, .int .i64 0]) ?_ 0 _ rfl; (with_reducible repeat (first | refine blk_drewN ?_ _ | refine blk_drew ?_ | refine blk_alloc ?_ _)); exact BK491.out⟩, ⟨by repeat (first | (with_reducible first | exact HB.out | apply below_alloc | apply pw_below_drewN | apply below_drew1 | refine below_set ?_ GE477.out | refine below_set ?_ GE491.out) | exact HB.out)⟩⟩
   ·rw [if_neg c34] at H
    have c34b0 : (t462 == 0) = false := beq_eq_false_iff_ne.mpr c34
    have c34b1 : (t462 != 0) = true := bne_iff_ne.mpr c34
    (first | rw [c34b0] | (simp only [i64_w, i32_w]; rw [c34b0]) | skip)
    have H' := Aside0.mk H
    clear H
    go_wp2
    go_meet
    case rel => exact ⟨_, (true), (by first | rfl | (simp; done) | (simp [*]; done)), H', ⟨by first | omega | exact Nat.le_refl _⟩, ⟨by (with_reducible repeat (first | refine blk_drewN ?_ _ | refine blk_drew ?_ | refine blk_alloc ?_ _)); refine blk_far ?_ NB477_491.out _; (with_reducible repeat (first | refine blk_drewN ?_ _ | refine blk_drew ?_ | refine blk_alloc ?_ _)); refine blk_far ?_ NB477_491.out _; (with_reducible repeat (first | refine blk_drewN ?_ _ | refine blk_drew ?_ | refine blk_alloc ?_ _)); refine blk_far ?_ NB477_491.out _; (with_reducible repeat (first | refine blk_drewN ?_ _ | refine blk_drew ?_ | refine blk_alloc ?_ _)); refine blk_far ?_ NB477_491.out _; (with_reducible repeat (first | refine blk_drewN ?_ _ | refine blk_drew ?_ | refine blk_alloc ?_ _)); refine blk_far ?_ NB477_491.out _; (with_reducible repeat (first | refine blk_drewN ?_ _ | refine blk_drew ?_ | refine blk_alloc ?_ _)); exact BK477.out⟩, ⟨by (with_reducible repeat (first | refine blk_drewN ?_ _ | refine blk_drew ?_ | refine blk_alloc ?_ _)); refine blk_put (cs := #[.int .i64 t484, .int .i64 t485, .int .i64 t486, .int .i64 t487, .int .i64 0]) ?_ 4 _ rfl; (with_reducible repeat (first | refine blk_drewN ?_ _ | refine blk_drew ?_ | refine blk_alloc ?_ _)); refine blk_put (cs := #[.int .i64 t484, .int .i64 t485, .int .i64 t486, .int .i64 0, .int .i64 0]) ?_ 3 _ rfl; (with_reducible repeat (first | refine blk_drewN ?_ _ | refine blk_drew ?_ | refine blk_alloc ?_ _)); refine blk_put (cs := #[.int .i64 t484, .int .i64 t485, .int .i64 0, .int .i64 0, .int .i64 0]) ?_ 2 _ rfl; (with_reducible repeat (first | refine blk_drewN ?_ _ | refine blk_drew ?_ | refine blk_alloc ?_ _)); refine blk_put (cs := #[.int .i64 t484, .int .i64 0, .int .i64 0, .int .i64 0, .int .i64 0]) ?_ 1 _ rfl; (with_reducible repeat (first | refine blk_drewN ?_ _ | refine blk_drew ?_ | refine blk_alloc ?_ _)); refine blk_put (cs := #[.int .i64 0, .int .i64 0, .int .i64 0, .int .i64 0, .int .i64 0]) ?_ 0 _ rfl; (with_reducible repeat (first | refine blk_drewN ?_ _ | refine blk_drew ?_ | refine blk_alloc ?_ _)); exact BK491.out⟩, ⟨by repeat (first | (with_reducible first | exact HB.out | apply below_alloc | apply pw_below_drewN | apply below_drew1 | refine below_set ?_ GE477.out | refine below_set ?_ GE491.out) | exact HB.out)⟩⟩
  case rest =>
   clear HC18
   try clear c1
   try clear c2
   try clear p2
   try clear c3
   try clear c4
   try clear c5
   try clear p6
   try clear c7
   try clear c10
   try clear c12
   try clear c17
   try clear c19
   try clear c22
   try clear c23
   try clear c32
   try clear c34
   try clear c34b0
   try clear c34b1
   try clear c35
   try clear c35b0
   try clear c35b1
   try clear c36
   try clear c36b0
   try clear c36b1
   try clear c37
   try clear c37b0
   try clear c37b1
   try clear c38
   try clear c38b0
   try clear c38b1
   try clear c39
   try clear c39b0
   try clear c39b1
   try clear c40
   try clear c40b0
   try clear c40b1
   try clear c41
   try clear c41b0
   try clear c41b1
   try clear c42
   try clear c42b0
   try clear c42b1
   try clear c43
   try clear c43b0
   try clear c43b1
   try clear c44
   try clear hcz27_0
   try clear hcz27_1
   try clear hcz27_2
   try clear hcz27_3
   try clear hcz27_4
   try clear hcz29_0
   try clear hcz29_1
   try clear hcz29_2
   try clear hcz29_3
   try clear hcz29_4
   try clear hcz33_0
   try clear hcz33_1
   try clear hcz33_2
   try clear hcz33_3
   try clear hcz33_4
   try clear hcz45_0
   try clear hcz45_1
   try clear hcz45_2
   try clear hcz45_3
   try clear hcz45_4
   try clear hfz27_0
   try clear hfz27_1
   try clear hfz27_2
   try clear hfz27_3
   try clear hfz27_4
   try clear hfz29_0
   try clear hfz29_1
   try clear hfz29_2
   try clear hfz29_3
   try clear hfz29_4
   try clear hfz33_0
   try clear hfz33_1
   try clear hfz33_2
   try clear hfz33_3
   try clear hfz33_4
   try clear hfz45_0
   try clear hfz45_1
   try clear hfz45_2
   try clear hfz45_3
   try clear hfz45_4
   obtain ⟨kq, x153_17, rfl, HA, HJ17, BK477, BK491, HB⟩ := hcut
   cases kq with
   | zero => exact absurd HA.out (by simp [q_DriveWays.j0])
   | succ kj17 =>
    have H := HA.out
    clear HA
    simp only [q_DriveWays.j0] at H
    by_cases c46 : x153_17 = true
    ·subst c46
     have H1 : (none) = some r := by rw [if_pos rfl] at H; exact H
     clear H
     have H := H1
     clear H1
     exact absurd H (by simp)
    ·replace c46 := Bool.eq_false_iff.mpr c46
     subst c46
     have H1 : (if (wrap64 ((ji7) - (ji8))) = 0 then (some (t461 == 0)) else (if t458 > t457 then (if t465 < t461 then (none) else (if t467 > t461 then (none) else (if t458 < t457 then (if t465 > t461 then (none) else (some (t461 == (wrap64 (t469 + (wrap64 (2 * t460))))))) else (some (t461 == (wrap64 (t469 + (wrap64 (2 * t460))))))))) else (if t458 < t457 then (if t465 > t461 then (none) else (some (t461 == (wrap64 (t469 + (wrap64 (2 * t460))))))) else (some (t461 == (wrap64 (t469 + (wrap64 (2 * t460))))))))) = some r := by rw [if_neg (show ¬ (false = true) by decide)] at H; exact H
     clear H
     have H := H1
     clear H1
     by_cases c47 : (wrap64 ((ji7) - (ji8))) = 0
     ·rw [if_pos c47] at H
      have c47b0 : ((wrap64 ((ji7) - (ji8))) == 0) = true := beq_iff_eq.mpr c47
      have c47b1 : ((wrap64 ((ji7) - (ji8))) != 0) = false := bne_eq_false_iff_eq.mpr c47
      clear c47
      obtain rfl := Option.some.inj H
      go_wp2
      go_ret
      exact ⟨by first | rfl | (simp [errW_none, errW_some] <;> rfl) | (simp only [← hji7, ← hji8, ← hji12]; first | rfl | (simp [errW_none, errW_some] <;> rfl)) | (simp [*, errW_none, errW_some] <;> rfl), by repeat (first | (with_reducible first | exact HB.out | apply below_alloc | apply pw_below_drewN | apply below_drew1 | refine below_set ?_ GE477.out | refine below_set ?_ GE491.out) | exact HB.out)⟩
     ·rw [if_neg c47] at H
      have c47b0 : ((wrap64 ((ji7) - (ji8))) == 0) = false := beq_eq_false_iff_ne.mpr c47
      have c47b1 : ((wrap64 ((ji7) - (ji8))) != 0) = true := bne_iff_ne.mpr c47
      by_cases c48 : t458 > t457
      ·rw [if_pos c48] at H
       have c48b0 : decide (t457 < t458) = true := decide_eq_true c48
       clear c48
       by_cases c49 : t465 < t461
       ·rw [if_pos c49] at H
        exact absurd H (by simp)
       ·rw [if_neg c49] at H
        have c49b0 : decide (t465 < t461) = false := decide_eq_false c49
        clear c49
        by_cases c50 : t467 > t461
        ·rw [if_pos c50] at H
         exact absurd H (by simp)
        ·rw [if_neg c50] at H
         have c50b0 : decide (t461 < t467) = false := decide_eq_false c50
         clear c50
         by_cases c51 : t458 < t457
         ·rw [if_pos c51] at H
          have c51b0 : decide (t458 < t457) = true := decide_eq_true c51
          clear c51
          by_cases c52 : t465 > t461
          ·rw [if_pos c52] at H
           exact absurd H (by simp)
          ·rw [if_neg c52] at H
           have c52b0 : decide (t461 < t465) = false := decide_eq_false c52
           clear c52
           obtain rfl := Option.some.inj H
           go_wp2
           go_ret
           exact ⟨by first | rfl | (simp [errW_none, errW_some] <;> rfl) | (simp only [← hji7, ← hji8, ← hji12]; first | rfl | (simp [errW_none, errW_some] <;> rfl)) | (simp [*, errW_none, errW_some] <;> rfl), by repeat (first | (with_reducible first | exact HB.out | apply below_alloc | apply pw_below_drewN | apply below_drew1 | refine below_set ?_ GE477.out | refine below_set ?_ GE491.out) | exact HB.out)⟩
         ·rw [if_neg c51] at H
          have c51b0 : decide (t458 < t457) = false := decide_eq_false c51
          clear c51
          obtain rfl := Option.some.inj H
          go_wp2
          go_ret
          exact ⟨by first | rfl | (simp [errW_none, errW_some] <;> rfl) | (simp only [← hji7, ← hji8, ← hji12]; first | rfl | (simp [errW_none, errW_some] <;> rfl)) | (simp [*, errW_none, errW_some] <;> rfl), by repeat (first | (with_reducible first | exact HB.out | apply below_alloc | apply pw_below_drewN | apply below_drew1 | refine below_set ?_ GE477.out | refine below_set ?_ GE491.out) | exact HB.out)⟩
      ·rw [if_neg c48] at H
       have c48b0 : decide (t457 < t458) = false := decide_eq_false c48
       clear c48
       by_cases c53 : t458 < t457
       ·rw [if_pos c53] at H
        have c53b0 : decide (t458 < t457) = true := decide_eq_true c53
        clear c53
        by_cases c54 : t465 > t461
        ·rw [if_pos c54] at H
         exact absurd H (by simp)
        ·rw [if_neg c54] at H
         have c54b0 : decide (t461 < t465) = false := decide_eq_false c54
         clear c54
         obtain rfl := Option.some.inj H
         go_wp2
         go_ret
         exact ⟨by first | rfl | (simp [errW_none, errW_some] <;> rfl) | (simp only [← hji7, ← hji8, ← hji12]; first | rfl | (simp [errW_none, errW_some] <;> rfl)) | (simp [*, errW_none, errW_some] <;> rfl), by repeat (first | (with_reducible first | exact HB.out | apply below_alloc | apply pw_below_drewN | apply below_drew1 | refine below_set ?_ GE477.out | refine below_set ?_ GE491.out) | exact HB.out)⟩
       ·rw [if_neg c53] at H
        have c53b0 : decide (t458 < t457) = false := decide_eq_false c53
        clear c53
        obtain rfl := Option.some.inj H
        go_wp2
        go_ret
        exact ⟨by first | rfl | (simp [errW_none, errW_some] <;> rfl) | (simp only [← hji7, ← hji8, ← hji12]; first | rfl | (simp [errW_none, errW_some] <;> rfl)) | (simp [*, errW_none, errW_some] <;> rfl), by repeat (first | (with_reducible first | exact HB.out | apply below_alloc | apply pw_below_drewN | apply below_drew1 | refine below_set ?_ GE477.out | refine below_set ?_ GE491.out) | exact HB.out)⟩
 ·replace c5 := Bool.eq_false_iff.mpr c5
  subst c5
  have H1 : (none) = some r := by rw [if_neg (show ¬ (false = true) by decide)] at H; exact H
  clear H
  have H := H1
  clear H1
  exact absurd H (by simp)

/-- THE ONE PURE STATEMENT of q_DriveWays: yours. -/
def q_DriveWays.Pure : Prop := ∀ (a0 : Int) (a1 : Int) (a2 : Int), (Lit.int .i64 a0).wf = true → (Lit.int .i64 a1).wf = true → (Lit.int .i64 a2).wf = true → ∃ k, q_DriveWays.f k a0 a1 a2 = some true
theorem q_DriveWays.walk (P : q_DriveWays.Pure) (a0 : Int) (a1 : Int) (a2 : Int) (w : World) (w0 : (Lit.int .i64 a0).wf = true) (w1 : (Lit.int .i64 a1).wf = true) (w2 : (Lit.int .i64 a2).wf = true) :
  Calls Try.prog 7 #[.int .i64 a0, .int .i64 a1, .int .i64 a2] w fun e w' => e = .returned (.bool true) ∧ Below w.heap.size w w' := by
 obtain ⟨k, h⟩ := P a0 a1 a2 w0 w1 w2
 refine (q_DriveWays.calls k a0 a1 a2 true w h).mono ?_
 rintro e w' ⟨rfl, hd⟩
 exact ⟨rfl, hd⟩

end Go.Proofs.Ytfeikhooaadlbaa.P
