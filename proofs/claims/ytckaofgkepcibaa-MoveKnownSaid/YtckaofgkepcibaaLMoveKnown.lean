-- Printed by wip/myprint.py of this repo (over the kit's printer). Not trusted: Lean checks it.
import Derived.Test.YtckaofgkepcibaaP0
import Derived.Test.YtckaofgkepcibaaMb
import Derived.Test.YtckaofgkepcibaaMr
import Derived.Test.YtckaofgkepcibaaP0move
import Derived.Test.YtckaofgkepcibaaP0tipstafflaw15
import Derived.Test.YtckaofgkepcibaaP2move
import Derived.Test.YtckaofgkepcibaaP2movea
import Derived.Test.YtckaofgkepcibaaP3tipstafflaw15
namespace Go.Proofs.Ytckaofgkepcibaa.P
open Go.RowKit Go.Proofs.YtckaofgkepcibaaW.PrintWords Go.Proofs.YtckaofgkepcibaaW.PrintLast Go.Proofs.YtckaofgkepcibaaW.PrintMore
attribute [local go_sem] cell_same1 cell_some1
attribute [local go_sem] max2_int min2_int max_two min_two max_three min_three max_four min_four   -- for this text's walks alone
set_option linter.unusedVariables false
set_option linter.unusedSimpArgs false

/-! ### q_MoveKnown: function 6 -/
def q_MoveKnown.j0 : Nat → Bool → Int → Int → Int → Int → Int → Int → Int → Option (Bool)
 | 0, _, _, _, _, _, _, _, _ => none
 | k + 1, x58, x454000, x454001, x454002, x454003, x454004, x454005, x454006 => if x58 = true then (none) else ((move_Step.f x454000 x454001 x454002 x454003 x454004 x454005 x454006 2 1).bind fun bt470 => ((q_at.f 3).bind fun bt479 => ((move_Wait.f k bt479.1 bt479.2.1 bt479.2.2.1 bt479.2.2.2.1 bt479.2.2.2.2 200001 2 1).bind fun bt484 => ((q_goes.f k 0 7 7 3).bind fun bt492 => ((move_Stop.f k bt492.1 bt492.2.1 bt492.2.2.1 bt492.2.2.2.1 bt492.2.2.2.2.1 bt492.2.2.2.2.2.1 bt492.2.2.2.2.2.2.1 2 1).bind fun bt501 => ((move_Run.f bt501.1 bt501.2.1 bt501.2.2.1 bt501.2.2.2.1 bt501.2.2.2.2.1 bt501.2.2.2.2.2.1 bt501.2.2.2.2.2.2.1 2 1 4).bind fun bt509 => (if bt470.2.2.2.2.2.2.2.2 = 9 then (if bt484.2.2.2.2.2.2.2 = 2 then (if bt492.2.2.2.2.2.2.2.2 = true then (if bt501.2.2.2.2.2.2.2 = 0 then (if bt509.2.2.2.2.2.2.2.2 = 0 then (if bt509.2.2.2.2.2.2.2.1 = 0 then (if bt509.1 = 3 then ((q_awake.f k).bind fun t518 => (if t518 = true then (some true) else (none))) else (none)) else (none)) else (none)) else (none)) else (none)) else (none)) else (none))))))))
def q_MoveKnown.f (k : Nat)  : Option (Bool) := (q_goes.f k 0 3 7 7).bind fun bt430 => ((q_at.f 3).bind fun bt440 => ((move_Begin.f k bt440.1 bt440.2.1 bt440.2.2.1 bt440.2.2.2.1 bt440.2.2.2.2 3 0 2 1).bind fun bt445 => ((move_Over.f bt445.1 bt445.2.1 bt445.2.2.1 bt445.2.2.2.1 bt445.2.2.2.2.1 bt445.2.2.2.2.2.1 bt445.2.2.2.2.2.2.1 2 1).bind fun bt454 => ((q_at.f 0).bind fun bt456 => ((move_Begin.f k bt456.1 bt456.2.1 bt456.2.2.1 bt456.2.2.2.1 bt456.2.2.2.2 3 4 2 1).bind fun bt461 => (if bt430.2.2.2.2.2.2.2.2 = true then (if bt430.2.2.2.2.2.2.2.1 = 3 then (if bt430.1 = 3 then (if bt445.2.2.2.2.2.2.2 = 0 then (if bt454.1 = true then (if bt454.2 = 0 then (q_MoveKnown.j0 k (bt461.2.2.2.2.2.2.2 != 4) bt445.1 bt445.2.1 bt445.2.2.1 bt445.2.2.2.1 bt445.2.2.2.2.1 bt445.2.2.2.2.2.1 bt445.2.2.2.2.2.2.1) else (q_MoveKnown.j0 k true bt445.1 bt445.2.1 bt445.2.2.1 bt445.2.2.2.1 bt445.2.2.2.2.1 bt445.2.2.2.2.2.1 bt445.2.2.2.2.2.2.1)) else (q_MoveKnown.j0 k true bt445.1 bt445.2.1 bt445.2.2.1 bt445.2.2.2.1 bt445.2.2.2.2.1 bt445.2.2.2.2.2.1 bt445.2.2.2.2.2.2.1)) else (q_MoveKnown.j0 k true bt445.1 bt445.2.1 bt445.2.2.1 bt445.2.2.2.1 bt445.2.2.2.2.1 bt445.2.2.2.2.2.1 bt445.2.2.2.2.2.2.1)) else (q_MoveKnown.j0 k true bt445.1 bt445.2.1 bt445.2.2.1 bt445.2.2.2.1 bt445.2.2.2.2.1 bt445.2.2.2.2.2.1 bt445.2.2.2.2.2.2.1)) else (q_MoveKnown.j0 k true bt445.1 bt445.2.1 bt445.2.2.1 bt445.2.2.2.1 bt445.2.2.2.2.1 bt445.2.2.2.2.2.1 bt445.2.2.2.2.2.2.1)) else (q_MoveKnown.j0 k true bt445.1 bt445.2.1 bt445.2.2.1 bt445.2.2.2.1 bt445.2.2.2.2.1 bt445.2.2.2.2.2.1 bt445.2.2.2.2.2.2.1)))))))
theorem q_MoveKnown.mono_l : ∀ k, (∀ y0 y1 y2 y3 y4 y5 y6 y7, LeO (q_MoveKnown.j0 k y0 y1 y2 y3 y4 y5 y6 y7) (q_MoveKnown.j0 (k + 1) y0 y1 y2 y3 y4 y5 y6 y7))
 | 0 => fun _ _ _ _ _ _ _ _ r h => by simp [q_MoveKnown.j0] at h
 | k + 1 => by
  have ih0 := q_MoveKnown.mono_l k
  ·intro y0 y1 y2 y3 y4 y5 y6 y7
   unfold q_MoveKnown.j0
   repeat' first
   | (with_reducible exact ih0 _ _ _ _ _ _ _ _)
   | (with_reducible exact move_Begin.mono _ _ _ _ _ _ _ _ _ _)
   | (with_reducible exact move_Stop.mono _ _ _ _ _ _ _ _ _ _)
   | (with_reducible exact move_Wait.mono _ _ _ _ _ _ _ _ _)
   | (with_reducible exact q_awake.mono _)
   | (with_reducible exact q_goes.mono _ _ _ _ _)
   | (with_reducible exact LeO.refl _)
   | (with_reducible exact LeO.none _)
   | (with_reducible refine LeO.ite ?_ ?_)
   | (with_reducible refine LeO.bind ?_ (fun _ => ?_))
   | exact ih0 _ _ _ _ _ _ _ _
   | exact move_Begin.mono _ _ _ _ _ _ _ _ _ _
   | exact move_Stop.mono _ _ _ _ _ _ _ _ _ _
   | exact move_Wait.mono _ _ _ _ _ _ _ _ _
   | exact q_awake.mono _
   | exact q_goes.mono _ _ _ _ _
   | exact LeO.none _
   | refine LeO.ite ?_ ?_
   | refine LeO.bind ?_ (fun _ => ?_)
theorem q_MoveKnown.mono : ∀ k, LeO (q_MoveKnown.f k ) (q_MoveKnown.f (k + 1) ) := by
 intro  k
 have ih0 := q_MoveKnown.mono_l k
 unfold q_MoveKnown.f
 repeat' first
   | (with_reducible exact ih0 _ _ _ _ _ _ _ _)
   | (with_reducible exact move_Begin.mono _ _ _ _ _ _ _ _ _ _)
   | (with_reducible exact move_Stop.mono _ _ _ _ _ _ _ _ _ _)
   | (with_reducible exact move_Wait.mono _ _ _ _ _ _ _ _ _)
   | (with_reducible exact q_awake.mono _)
   | (with_reducible exact q_goes.mono _ _ _ _ _)
   | (with_reducible exact LeO.refl _)
   | (with_reducible exact LeO.none _)
   | (with_reducible refine LeO.ite ?_ ?_)
   | (with_reducible refine LeO.bind ?_ (fun _ => ?_))
   | exact ih0 _ _ _ _ _ _ _ _
   | exact move_Begin.mono _ _ _ _ _ _ _ _ _ _
   | exact move_Stop.mono _ _ _ _ _ _ _ _ _ _
   | exact move_Wait.mono _ _ _ _ _ _ _ _ _
   | exact q_awake.mono _
   | exact q_goes.mono _ _ _ _ _
   | exact LeO.none _
   | refine LeO.ite ?_ ?_
   | refine LeO.bind ?_ (fun _ => ?_)
set_option maxHeartbeats 8000000 in
set_option maxRecDepth 100000 in
theorem q_MoveKnown.calls (k : Nat)  (r : Bool) (w : World) (h : q_MoveKnown.f k  = some r) :
  Calls Try.prog 6 #[] w fun e w' => e = .returned (.bool r) ∧ Below w.heap.size w w' := by
 have hu35 := Try.underlying35
 have HB := Aside0.mk (Below.refl w.heap.size w)
 have H : ((q_goes.f k 0 3 7 7).bind fun bt430 => ((q_at.f 3).bind fun bt440 => ((move_Begin.f k bt440.1 bt440.2.1 bt440.2.2.1 bt440.2.2.2.1 bt440.2.2.2.2 3 0 2 1).bind fun bt445 => ((move_Over.f bt445.1 bt445.2.1 bt445.2.2.1 bt445.2.2.2.1 bt445.2.2.2.2.1 bt445.2.2.2.2.2.1 bt445.2.2.2.2.2.2.1 2 1).bind fun bt454 => ((q_at.f 0).bind fun bt456 => ((move_Begin.f k bt456.1 bt456.2.1 bt456.2.2.1 bt456.2.2.2.1 bt456.2.2.2.2 3 4 2 1).bind fun bt461 => (if bt430.2.2.2.2.2.2.2.2 = true then (if bt430.2.2.2.2.2.2.2.1 = 3 then (if bt430.1 = 3 then (if bt445.2.2.2.2.2.2.2 = 0 then (if bt454.1 = true then (if bt454.2 = 0 then (q_MoveKnown.j0 k (bt461.2.2.2.2.2.2.2 != 4) bt445.1 bt445.2.1 bt445.2.2.1 bt445.2.2.2.1 bt445.2.2.2.2.1 bt445.2.2.2.2.2.1 bt445.2.2.2.2.2.2.1) else (q_MoveKnown.j0 k true bt445.1 bt445.2.1 bt445.2.2.1 bt445.2.2.2.1 bt445.2.2.2.2.1 bt445.2.2.2.2.2.1 bt445.2.2.2.2.2.2.1)) else (q_MoveKnown.j0 k true bt445.1 bt445.2.1 bt445.2.2.1 bt445.2.2.2.1 bt445.2.2.2.2.1 bt445.2.2.2.2.2.1 bt445.2.2.2.2.2.2.1)) else (q_MoveKnown.j0 k true bt445.1 bt445.2.1 bt445.2.2.1 bt445.2.2.2.1 bt445.2.2.2.2.1 bt445.2.2.2.2.2.1 bt445.2.2.2.2.2.2.1)) else (q_MoveKnown.j0 k true bt445.1 bt445.2.1 bt445.2.2.1 bt445.2.2.2.1 bt445.2.2.2.2.1 bt445.2.2.2.2.2.1 bt445.2.2.2.2.2.2.1)) else (q_MoveKnown.j0 k true bt445.1 bt445.2.1 bt445.2.2.1 bt445.2.2.2.1 bt445.2.2.2.2.1 bt445.2.2.2.2.2.1 bt445.2.2.2.2.2.2.1)) else (q_MoveKnown.j0 k true bt445.1 bt445.2.1 bt445.2.2.1 bt445.2.2.2.1 bt445.2.2.2.2.1 bt445.2.2.2.2.2.1 bt445.2.2.2.2.2.2.1)))))))) = some r := h
 clear h
 replace H := Option.bind_eq_some_iff.mp H
 obtain ⟨⟨t430, t431, t432, t433, t434, t435, t436, t437, t438⟩, A10, H⟩ := H
 replace H : ((q_at.f 3).bind fun bt440 => ((move_Begin.f k bt440.1 bt440.2.1 bt440.2.2.1 bt440.2.2.2.1 bt440.2.2.2.2 3 0 2 1).bind fun bt445 => ((move_Over.f bt445.1 bt445.2.1 bt445.2.2.1 bt445.2.2.2.1 bt445.2.2.2.2.1 bt445.2.2.2.2.2.1 bt445.2.2.2.2.2.2.1 2 1).bind fun bt454 => ((q_at.f 0).bind fun bt456 => ((move_Begin.f k bt456.1 bt456.2.1 bt456.2.2.1 bt456.2.2.2.1 bt456.2.2.2.2 3 4 2 1).bind fun bt461 => (if t438 = true then (if t437 = 3 then (if t430 = 3 then (if bt445.2.2.2.2.2.2.2 = 0 then (if bt454.1 = true then (if bt454.2 = 0 then (q_MoveKnown.j0 k (bt461.2.2.2.2.2.2.2 != 4) bt445.1 bt445.2.1 bt445.2.2.1 bt445.2.2.2.1 bt445.2.2.2.2.1 bt445.2.2.2.2.2.1 bt445.2.2.2.2.2.2.1) else (q_MoveKnown.j0 k true bt445.1 bt445.2.1 bt445.2.2.1 bt445.2.2.2.1 bt445.2.2.2.2.1 bt445.2.2.2.2.2.1 bt445.2.2.2.2.2.2.1)) else (q_MoveKnown.j0 k true bt445.1 bt445.2.1 bt445.2.2.1 bt445.2.2.2.1 bt445.2.2.2.2.1 bt445.2.2.2.2.2.1 bt445.2.2.2.2.2.2.1)) else (q_MoveKnown.j0 k true bt445.1 bt445.2.1 bt445.2.2.1 bt445.2.2.2.1 bt445.2.2.2.2.1 bt445.2.2.2.2.2.1 bt445.2.2.2.2.2.2.1)) else (q_MoveKnown.j0 k true bt445.1 bt445.2.1 bt445.2.2.1 bt445.2.2.2.1 bt445.2.2.2.2.1 bt445.2.2.2.2.2.1 bt445.2.2.2.2.2.2.1)) else (q_MoveKnown.j0 k true bt445.1 bt445.2.1 bt445.2.2.1 bt445.2.2.2.1 bt445.2.2.2.2.1 bt445.2.2.2.2.2.1 bt445.2.2.2.2.2.2.1)) else (q_MoveKnown.j0 k true bt445.1 bt445.2.1 bt445.2.2.1 bt445.2.2.2.1 bt445.2.2.2.2.1 bt445.2.2.2.2.2.1 bt445.2.2.2.2.2.2.1))))))) = some r := H
 have A1 := Aside0.mk A10
 clear A10
 replace H := Option.bind_eq_some_iff.mp H
 obtain ⟨⟨t440, t441, t442, t443, t444⟩, A20, H⟩ := H
 replace H : ((move_Begin.f k t440 t441 t442 t443 t444 3 0 2 1).bind fun bt445 => ((move_Over.f bt445.1 bt445.2.1 bt445.2.2.1 bt445.2.2.2.1 bt445.2.2.2.2.1 bt445.2.2.2.2.2.1 bt445.2.2.2.2.2.2.1 2 1).bind fun bt454 => ((q_at.f 0).bind fun bt456 => ((move_Begin.f k bt456.1 bt456.2.1 bt456.2.2.1 bt456.2.2.2.1 bt456.2.2.2.2 3 4 2 1).bind fun bt461 => (if t438 = true then (if t437 = 3 then (if t430 = 3 then (if bt445.2.2.2.2.2.2.2 = 0 then (if bt454.1 = true then (if bt454.2 = 0 then (q_MoveKnown.j0 k (bt461.2.2.2.2.2.2.2 != 4) bt445.1 bt445.2.1 bt445.2.2.1 bt445.2.2.2.1 bt445.2.2.2.2.1 bt445.2.2.2.2.2.1 bt445.2.2.2.2.2.2.1) else (q_MoveKnown.j0 k true bt445.1 bt445.2.1 bt445.2.2.1 bt445.2.2.2.1 bt445.2.2.2.2.1 bt445.2.2.2.2.2.1 bt445.2.2.2.2.2.2.1)) else (q_MoveKnown.j0 k true bt445.1 bt445.2.1 bt445.2.2.1 bt445.2.2.2.1 bt445.2.2.2.2.1 bt445.2.2.2.2.2.1 bt445.2.2.2.2.2.2.1)) else (q_MoveKnown.j0 k true bt445.1 bt445.2.1 bt445.2.2.1 bt445.2.2.2.1 bt445.2.2.2.2.1 bt445.2.2.2.2.2.1 bt445.2.2.2.2.2.2.1)) else (q_MoveKnown.j0 k true bt445.1 bt445.2.1 bt445.2.2.1 bt445.2.2.2.1 bt445.2.2.2.2.1 bt445.2.2.2.2.2.1 bt445.2.2.2.2.2.2.1)) else (q_MoveKnown.j0 k true bt445.1 bt445.2.1 bt445.2.2.1 bt445.2.2.2.1 bt445.2.2.2.2.1 bt445.2.2.2.2.2.1 bt445.2.2.2.2.2.2.1)) else (q_MoveKnown.j0 k true bt445.1 bt445.2.1 bt445.2.2.1 bt445.2.2.2.1 bt445.2.2.2.2.1 bt445.2.2.2.2.2.1 bt445.2.2.2.2.2.2.1)))))) = some r := H
 have A2 := Aside0.mk A20
 clear A20
 replace H := Option.bind_eq_some_iff.mp H
 obtain ⟨⟨t445, t446, t447, t448, t449, t450, t451, t452⟩, A30, H⟩ := H
 replace H : ((move_Over.f t445 t446 t447 t448 t449 t450 t451 2 1).bind fun bt454 => ((q_at.f 0).bind fun bt456 => ((move_Begin.f k bt456.1 bt456.2.1 bt456.2.2.1 bt456.2.2.2.1 bt456.2.2.2.2 3 4 2 1).bind fun bt461 => (if t438 = true then (if t437 = 3 then (if t430 = 3 then (if t452 = 0 then (if bt454.1 = true then (if bt454.2 = 0 then (q_MoveKnown.j0 k (bt461.2.2.2.2.2.2.2 != 4) t445 t446 t447 t448 t449 t450 t451) else (q_MoveKnown.j0 k true t445 t446 t447 t448 t449 t450 t451)) else (q_MoveKnown.j0 k true t445 t446 t447 t448 t449 t450 t451)) else (q_MoveKnown.j0 k true t445 t446 t447 t448 t449 t450 t451)) else (q_MoveKnown.j0 k true t445 t446 t447 t448 t449 t450 t451)) else (q_MoveKnown.j0 k true t445 t446 t447 t448 t449 t450 t451)) else (q_MoveKnown.j0 k true t445 t446 t447 t448 t449 t450 t451))))) = some r := H
 have A3 := Aside0.mk A30
 clear A30
 replace H := Option.bind_eq_some_iff.mp H
 obtain ⟨⟨t454, t455⟩, A40, H⟩ := H
 replace H : ((q_at.f 0).bind fun bt456 => ((move_Begin.f k bt456.1 bt456.2.1 bt456.2.2.1 bt456.2.2.2.1 bt456.2.2.2.2 3 4 2 1).bind fun bt461 => (if t438 = true then (if t437 = 3 then (if t430 = 3 then (if t452 = 0 then (if t454 = true then (if t455 = 0 then (q_MoveKnown.j0 k (bt461.2.2.2.2.2.2.2 != 4) t445 t446 t447 t448 t449 t450 t451) else (q_MoveKnown.j0 k true t445 t446 t447 t448 t449 t450 t451)) else (q_MoveKnown.j0 k true t445 t446 t447 t448 t449 t450 t451)) else (q_MoveKnown.j0 k true t445 t446 t447 t448 t449 t450 t451)) else (q_MoveKnown.j0 k true t445 t446 t447 t448 t449 t450 t451)) else (q_MoveKnown.j0 k true t445 t446 t447 t448 t449 t450 t451)) else (q_MoveKnown.j0 k true t445 t446 t447 t448 t449 t450 t451)))) = some r := H
 have A4 := Aside0.mk A40
 clear A40
 replace H := Option.bind_eq_some_iff.mp H
 obtain ⟨⟨t456, t457, t458, t459, t460⟩, A50, H⟩ := H
 replace H : ((move_Begin.f k t456 t457 t458 t459 t460 3 4 2 1).bind fun bt461 => (if t438 = true then (if t437 = 3 then (if t430 = 3 then (if t452 = 0 then (if t454 = true then (if t455 = 0 then (q_MoveKnown.j0 k (bt461.2.2.2.2.2.2.2 != 4) t445 t446 t447 t448 t449 t450 t451) else (q_MoveKnown.j0 k true t445 t446 t447 t448 t449 t450 t451)) else (q_MoveKnown.j0 k true t445 t446 t447 t448 t449 t450 t451)) else (q_MoveKnown.j0 k true t445 t446 t447 t448 t449 t450 t451)) else (q_MoveKnown.j0 k true t445 t446 t447 t448 t449 t450 t451)) else (q_MoveKnown.j0 k true t445 t446 t447 t448 t449 t450 t451)) else (q_MoveKnown.j0 k true t445 t446 t447 t448 t449 t450 t451))) = some r := H
 have A5 := Aside0.mk A50
 clear A50
 replace H := Option.bind_eq_some_iff.mp H
 obtain ⟨⟨t461, t462, t463, t464, t465, t466, t467, t468⟩, A60, H⟩ := H
 replace H : (if t438 = true then (if t437 = 3 then (if t430 = 3 then (if t452 = 0 then (if t454 = true then (if t455 = 0 then (q_MoveKnown.j0 k (t468 != 4) t445 t446 t447 t448 t449 t450 t451) else (q_MoveKnown.j0 k true t445 t446 t447 t448 t449 t450 t451)) else (q_MoveKnown.j0 k true t445 t446 t447 t448 t449 t450 t451)) else (q_MoveKnown.j0 k true t445 t446 t447 t448 t449 t450 t451)) else (q_MoveKnown.j0 k true t445 t446 t447 t448 t449 t450 t451)) else (q_MoveKnown.j0 k true t445 t446 t447 t448 t449 t450 t451)) else (q_MoveKnown.j0 k true t445 t446 t447 t448 t449 t450 t451)) = some r := H
 have A6 := Aside0.mk A60
 clear A60
 have HC7 := Aside0.mk H
 clear H
 go_enter Try.func6, Try.ntmps6
 go_upto_region 5 with (first | ((with_reducible refine gate_callee (f := 20) rfl ?_); refine gsl (some 12) Try.func20 #[.int .i64 0, .int .i64 3, .int .i64 7, .int .i64 7] ?_; (with_reducible refine (q_goes.calls k 0 3 7 7 t430 t431 t432 t433 t434 t435 t436 t437 t438 _ A1.out).mono ?_); rintro e w8 ⟨rfl, hb⟩; refine ⟨_, rfl, ?_⟩; replace HB := Aside0.mk (bst HB.out hb); (try clear hb); (try clear hb2); (try clear hk); (try clear hi)) | ((with_reducible refine gate_dst (N := 1) rfl ?_); refine bxe (cs := #[.int .i64 0, .int .i64 0, .int .i64 0, .int .i64 0, .int .i64 0, .int .i64 0, .int .i64 0]) (t := 35) ?_; intro gb439 hg w9 hbox hb; have BK439 := Aside0.mk (hbox); have GW439 := Aside0.mk (bge hg HB.out); have GE439 := Aside0.mk (bge hg HB.out); replace HB := Aside0.mk (bst HB.out hb); clear hb hbox hg; have hcz10_0 := cz7 BK439.out; have hfz10_0 := blk_frozen BK439.out) | ((with_reducible refine gate_callee (f := 12) rfl ?_); refine gsl (some 17) Try.func12 #[.int .i64 3] ?_; (with_reducible refine (q_at.calls 3 t440 t441 t442 t443 t444 _ A2.out).mono ?_); rintro e w11 ⟨rfl, hb⟩; refine ⟨_, rfl, ?_⟩; replace BK439 := Aside0.mk (blk_below (g := gb439) (o := .cells #[.int .i64 t430, .int .i64 t431, .int .i64 t432, .int .i64 t433, .int .i64 t434, .int .i64 t435, .int .i64 t436] 35 (0, 0)) (bkt BK439.out) hb); replace HB := Aside0.mk (bst HB.out hb); (try clear hb); (try clear hb2); (try clear hk); (try clear hi)) | ((with_reducible refine gate_callee (f := 11) rfl ?_); refine gsl (some 18) Try.func11 #[.agg #[.int .i64 t440, .int .i64 t441, .int .i64 t442, .int .i64 t443, .int .i64 t444], .int .i64 3, .int .i64 0, .int .i64 2, .int .i64 1] ?_; (with_reducible refine (move_Begin.calls k t440 t441 t442 t443 t444 3 0 2 1 t445 t446 t447 t448 t449 t450 t451 t452 _ A3.out).mono ?_); rintro e w12 ⟨rfl, hb⟩; refine ⟨_, rfl, ?_⟩; replace BK439 := Aside0.mk (bkb BK439.out hb); replace HB := Aside0.mk (bst HB.out hb); (try clear hb); (try clear hb2); (try clear hk); (try clear hi)) | ((with_reducible refine gate_dst (N := 4) rfl ?_); refine bxe (cs := #[.int .i64 0, .int .i64 0, .int .i64 0, .int .i64 0, .int .i64 0, .int .i64 0, .int .i64 0]) (t := 35) ?_; intro gb453 hg w13 hbox hb; have BK453 := Aside0.mk (hbox); have GW453 := Aside0.mk (bge hg HB.out); have GE453 := Aside0.mk (bge hg HB.out); have NB439_453 := Aside0.mk ((bkl hg BK439.out)); have NB453_439 := Aside0.mk ((bkg hg BK439.out)); replace BK439 := Aside0.mk (bkb BK439.out hb); replace HB := Aside0.mk (bst HB.out hb); clear hb hbox hg; have hnb14 := NB453_439.out; have hnc14 := NB439_453.out; have hcz15_0 := cz7 BK453.out; have hfz15_0 := blk_frozen BK453.out) | ((with_reducible refine gate_callee (f := 16) rfl ?_); refine gsl (some 23) Try.func16 #[.agg #[.int .i64 t445, .int .i64 t446, .int .i64 t447, .int .i64 t448, .int .i64 t449, .int .i64 t450, .int .i64 t451], .int .i64 2, .int .i64 1] ?_; (with_reducible refine (move_Over.calls t445 t446 t447 t448 t449 t450 t451 2 1 t454 t455 _ A4.out).mono ?_); rintro e w16 ⟨rfl, hb⟩; refine ⟨_, rfl, ?_⟩; replace BK439 := Aside0.mk (bkb BK439.out hb); replace BK453 := Aside0.mk (blk_below (g := gb453) (o := .cells #[.int .i64 t445, .int .i64 t446, .int .i64 t447, .int .i64 t448, .int .i64 t449, .int .i64 t450, .int .i64 t451] 35 (0, 0)) (bkt BK453.out) hb); replace HB := Aside0.mk (bst HB.out hb); (try clear hb); (try clear hb2); (try clear hk); (try clear hi)) | ((with_reducible refine gate_callee (f := 12) rfl ?_); refine gsl (some 27) Try.func12 #[.int .i64 0] ?_; (with_reducible refine (q_at.calls 0 t456 t457 t458 t459 t460 _ A5.out).mono ?_); rintro e w17 ⟨rfl, hb⟩; refine ⟨_, rfl, ?_⟩; replace BK439 := Aside0.mk (bkb BK439.out hb); replace BK453 := Aside0.mk (bkb BK453.out hb); replace HB := Aside0.mk (bst HB.out hb); (try clear hb); (try clear hb2); (try clear hk); (try clear hi)) | ((with_reducible refine gate_callee (f := 11) rfl ?_); refine gsl (some 28) Try.func11 #[.agg #[.int .i64 t456, .int .i64 t457, .int .i64 t458, .int .i64 t459, .int .i64 t460], .int .i64 3, .int .i64 4, .int .i64 2, .int .i64 1] ?_; (with_reducible refine (move_Begin.calls k t456 t457 t458 t459 t460 3 4 2 1 t461 t462 t463 t464 t465 t466 t467 t468 _ A6.out).mono ?_); rintro e w18 ⟨rfl, hb⟩; refine ⟨_, rfl, ?_⟩; replace BK439 := Aside0.mk (bkb BK439.out hb); replace BK453 := Aside0.mk (bkb BK453.out hb); replace HB := Aside0.mk (bst HB.out hb); (try clear hb); (try clear hb2); (try clear hk); (try clear hi)) | ((with_reducible refine gate_dst (N := 8) rfl ?_); refine bxe (cs := #[.int .i64 0, .int .i64 0, .int .i64 0, .int .i64 0, .int .i64 0, .int .i64 0, .int .i64 0]) (t := 35) ?_; intro gb469 hg w19 hbox hb; have BK469 := Aside0.mk (hbox); have GW469 := Aside0.mk (bge hg HB.out); have GE469 := Aside0.mk (bge hg HB.out); have NB439_469 := Aside0.mk ((bkl hg BK439.out)); have NB469_439 := Aside0.mk ((bkg hg BK439.out)); have NB453_469 := Aside0.mk ((bkl hg BK453.out)); have NB469_453 := Aside0.mk ((bkg hg BK453.out)); replace BK439 := Aside0.mk (bkb BK439.out hb); replace BK453 := Aside0.mk (bkb BK453.out hb); replace HB := Aside0.mk (bst HB.out hb); clear hb hbox hg; have hnb20 := NB469_439.out; have hnc20 := NB439_469.out; have hnb21 := NB469_453.out; have hnc21 := NB453_469.out; have hcz22_0 := cz7 BK469.out; have hfz22_0 := blk_frozen BK469.out))
 (try simp only [Act.put, List.setIfInBounds_toArray, List.set_cons_zero, List.set_cons_succ])
 go_cut [58] (fun v58 wc => ∃ (kq : Nat) (x58_6 : Bool), v58 = .bool x58_6 ∧ Aside0 (q_MoveKnown.j0 kq x58_6 t445 t446 t447 t448 t449 t450 t451 = some r) ∧ Aside0 (kq ≤ k) ∧ Aside0 (wc.heap[gb439]? = some (.cells #[.int .i64 t430, .int .i64 t431, .int .i64 t432, .int .i64 t433, .int .i64 t434, .int .i64 t435, .int .i64 t436] 35 (0, 0))) ∧ Aside0 (wc.heap[gb453]? = some (.cells #[.int .i64 t445, .int .i64 t446, .int .i64 t447, .int .i64 t448, .int .i64 t449, .int .i64 t450, .int .i64 t451] 35 (0, 0))) ∧ Aside0 (wc.heap[gb469]? = some (.cells #[.int .i64 t461, .int .i64 t462, .int .i64 t463, .int .i64 t464, .int .i64 t465, .int .i64 t466, .int .i64 t467] 35 (0, 0))) ∧ Aside0 (Below w.heap.size w wc))
 case first =>
  have H := HC7.out
  clear HC7
  by_cases c23 : t438 = true
  ·subst c23
   have H1 : (if t437 = 3 then (if t430 = 3 then (if t452 = 0 then (if t454 = true then (if t455 = 0 then (q_MoveKnown.j0 k (t468 != 4) t445 t446 t447 t448 t449 t450 t451) else (q_MoveKnown.j0 k true t445 t446 t447 t448 t449 t450 t451)) else (q_MoveKnown.j0 k true t445 t446 t447 t448 t449 t450 t451)) else (q_MoveKnown.j0 k true t445 t446 t447 t448 t449 t450 t451)) else (q_MoveKnown.j0 k true t445 t446 t447 t448 t449 t450 t451)) else (q_MoveKnown.j0 k true t445 t446 t447 t448 t449 t450 t451)) = some r := by rw [if_pos rfl] at H; exact H
   clear H
   have H := H1
   clear H1
   by_cases c24 : t437 = 3
   ·rw [if_pos c24] at H
    have c24b0 : (t437 == 3) = true := beq_iff_eq.mpr c24
    have c24b1 : (t437 != 3) = false := bne_eq_false_iff_eq.mpr c24
    clear c24
    (first | rw [c24b0] | (simp only [i64_w, i32_w]; rw [c24b0]) | skip)
    by_cases c25 : t430 = 3
    ·rw [if_pos c25] at H
     have c25b0 : (t430 == 3) = true := beq_iff_eq.mpr c25
     have c25b1 : (t430 != 3) = false := bne_eq_false_iff_eq.mpr c25
     clear c25
     by_cases c26 : t452 = 0
     ·rw [if_pos c26] at H
      have c26b0 : (t452 == 0) = true := beq_iff_eq.mpr c26
      have c26b1 : (t452 != 0) = false := bne_eq_false_iff_eq.mpr c26
      clear c26
      by_cases c27 : t454 = true
      ·subst c27
       have H1 : (if t455 = 0 then (q_MoveKnown.j0 k (t468 != 4) t445 t446 t447 t448 t449 t450 t451) else (q_MoveKnown.j0 k true t445 t446 t447 t448 t449 t450 t451)) = some r := by rw [if_pos rfl] at H; exact H
       clear H
       have H := H1
       clear H1
       by_cases c28 : t455 = 0
       ·rw [if_pos c28] at H
        have c28b0 : (t455 == 0) = true := beq_iff_eq.mpr c28
        have c28b1 : (t455 != 0) = false := bne_eq_false_iff_eq.mpr c28
        clear c28
        have H' := Aside0.mk H
        clear H
        have hnb29 := NB439_453.out
        have hnc29 := NB453_439.out
        have hnb30 := NB439_469.out
        have hnc30 := NB469_439.out
        have hcz31_0 := cz7 BK439.out
        have hfz31_0 := blk_frozen BK439.out
        go_wp2
        go_meet
        case rel => exact ⟨_, ((t468 != 4)), (by first | rfl | (simp; done) | (simp [*]; done)), H', ⟨by first | omega | exact Nat.le_refl _⟩, ⟨bkt BK439.out⟩, ⟨bkt BK453.out⟩, ⟨bkt BK469.out⟩, ⟨bel HB.out⟩⟩
       ·rw [if_neg c28] at H
        have c28b0 : (t455 == 0) = false := beq_eq_false_iff_ne.mpr c28
        have c28b1 : (t455 != 0) = true := bne_iff_ne.mpr c28
        have H' := Aside0.mk H
        clear H
        have hnb32 := NB439_453.out
        have hnc32 := NB453_439.out
        have hnb33 := NB439_469.out
        have hnc33 := NB469_439.out
        have hcz34_0 := cz7 BK439.out
        have hfz34_0 := blk_frozen BK439.out
        go_wp2
        go_meet
        case rel => exact ⟨_, (true), (by first | rfl | (simp; done) | (simp [*]; done)), H', ⟨by first | omega | exact Nat.le_refl _⟩, ⟨bkt BK439.out⟩, ⟨bkt BK453.out⟩, ⟨bkt BK469.out⟩, ⟨bel HB.out⟩⟩
      ·replace c27 := Bool.eq_false_iff.mpr c27
       subst c27
       have H1 : (q_MoveKnown.j0 k true t445 t446 t447 t448 t449 t450 t451) = some r := by rw [if_neg (show ¬ (false = true) by decide)] at H; exact H
       clear H
       have H := H1
       clear H1
       have H' := Aside0.mk H
       clear H
       have hnb35 := NB439_453.out
       have hnc35 := NB453_439.out
       have hnb36 := NB439_469.out
       have hnc36 := NB469_439.out
       have hcz37_0 := cz7 BK439.out
       have hfz37_0 := blk_frozen BK439.out
       go_wp2
       go_meet
       case rel => exact ⟨_, (true), (by first | rfl | (simp; done) | (simp [*]; done)), H', ⟨by first | omega | exact Nat.le_refl _⟩, ⟨bkt BK439.out⟩, ⟨bkt BK453.out⟩, ⟨bkt BK469.out⟩, ⟨bel HB.out⟩⟩
     ·rw [if_neg c26] at H
      have c26b0 : (t452 == 0) = false := beq_eq_false_iff_ne.mpr c26
      have c26b1 : (t452 != 0) = true := bne_iff_ne.mpr c26
      have H' := Aside0.mk H
      clear H
      have hnb38 := NB439_453.out
      have hnc38 := NB453_439.out
      have hnb39 := NB439_469.out
      have hnc39 := NB469_439.out
      have hcz40_0 := cz7 BK439.out
      have hfz40_0 := blk_frozen BK439.out
      go_wp2
      go_meet
      case rel => exact ⟨_, (true), (by first | rfl | (simp; done) | (simp [*]; done)), H', ⟨by first | omega | exact Nat.le_refl _⟩, ⟨bkt BK439.out⟩, ⟨bkt BK453.out⟩, ⟨bkt BK469.out⟩, ⟨bel HB.out⟩⟩
    ·rw [if_neg c25] at H
     have c25b0 : (t430 == 3) = false := beq_eq_false_iff_ne.mpr c25
     have c25b1 : (t430 != 3) = true := bne_iff_ne.mpr c25
     have H' := Aside0.mk H
     clear H
     have hnb41 := NB439_453.out
     have hnc41 := NB453_439.out
     have hnb42 := NB439_469.out
     have hnc42 := NB469_439.out
     have hcz43_0 := cz7 BK439.out
     have hfz43_0 := blk_frozen BK439.out
     go_wp2
     go_meet
     case rel => exact ⟨_, (true), (by first | rfl | (simp; done) | (simp [*]; done)), H', ⟨by first | omega | exact Nat.le_refl _⟩, ⟨bkt BK439.out⟩, ⟨bkt BK453.out⟩, ⟨bkt BK469.out⟩, ⟨bel HB.out⟩⟩
   ·rw [if_neg c24] at H
    have c24b0 : (t437 == 3) = false := beq_eq_false_iff_ne.mpr c24
    have c24b1 : (t437 != 3) = true := bne_iff_ne.mpr c24
    (first | rw [c24b0] | (simp only [i64_w, i32_w]; rw [c24b0]) | skip)
    have H' := Aside0.mk H
    clear H
    go_wp2
    go_meet
    case rel => exact ⟨_, (true), (by first | rfl | (simp; done) | (simp [*]; done)), H', ⟨by first | omega | exact Nat.le_refl _⟩, ⟨bkt BK439.out⟩, ⟨bkt BK453.out⟩, ⟨bkt BK469.out⟩, ⟨bel HB.out⟩⟩
  ·replace c23 := Bool.eq_false_iff.mpr c23
   subst c23
   have H1 : (q_MoveKnown.j0 k true t445 t446 t447 t448 t449 t450 t451) = some r := by rw [if_neg (show ¬ (false = true) by decide)] at H; exact H
   clear H
   have H := H1
   clear H1
   have H' := Aside0.mk H
   clear H
   go_wp2
   go_meet
   case rel => exact ⟨_, (true), (by first | rfl | (simp; done) | (simp [*]; done)), H', ⟨by first | omega | exact Nat.le_refl _⟩, ⟨bkt BK439.out⟩, ⟨bkt BK453.out⟩, ⟨bkt BK469.out⟩, ⟨bel HB.out⟩⟩
 case rest =>
  clear HC7
  try clear c1
  try clear c2
  try clear p2
  try clear c3
  try clear c4
  try clear c6
  try clear c11
  try clear c12
  try clear c14
  try clear c16
  try clear c20
  try clear c21
  try clear c23
  try clear c24
  try clear c24b0
  try clear c24b1
  try clear c25
  try clear c25b0
  try clear c25b1
  try clear c26
  try clear c26b0
  try clear c26b1
  try clear c27
  try clear c28
  try clear c28b0
  try clear c28b1
  try clear c29
  try clear c30
  try clear c32
  try clear c33
  try clear c35
  try clear c36
  try clear c38
  try clear c39
  try clear c41
  try clear c42
  try clear hcz10_0
  try clear hcz15_0
  try clear hcz22_0
  try clear hcz31_0
  try clear hcz34_0
  try clear hcz37_0
  try clear hcz40_0
  try clear hcz43_0
  try clear hfz10_0
  try clear hfz15_0
  try clear hfz22_0
  try clear hfz31_0
  try clear hfz34_0
  try clear hfz37_0
  try clear hfz40_0
  try clear hfz43_0
  obtain ⟨kq, x58_6, rfl, HA, HJ6, BK439, BK453, BK469, HB⟩ := hcut
  cases kq with
  | zero => exact absurd HA.out (by simp [q_MoveKnown.j0])
  | succ kj6 =>
   have H := HA.out
   clear HA
   simp only [q_MoveKnown.j0] at H
   by_cases c44 : x58_6 = true
   ·subst c44
    have H1 : (none) = some r := by rw [if_pos rfl] at H; exact H
    clear H
    have H := H1
    clear H1
    exact absurd H (by simp)
   ·replace c44 := Bool.eq_false_iff.mpr c44
    subst c44
    have H1 : ((move_Step.f t445 t446 t447 t448 t449 t450 t451 2 1).bind fun bt470 => ((q_at.f 3).bind fun bt479 => ((move_Wait.f kj6 bt479.1 bt479.2.1 bt479.2.2.1 bt479.2.2.2.1 bt479.2.2.2.2 200001 2 1).bind fun bt484 => ((q_goes.f kj6 0 7 7 3).bind fun bt492 => ((move_Stop.f kj6 bt492.1 bt492.2.1 bt492.2.2.1 bt492.2.2.2.1 bt492.2.2.2.2.1 bt492.2.2.2.2.2.1 bt492.2.2.2.2.2.2.1 2 1).bind fun bt501 => ((move_Run.f bt501.1 bt501.2.1 bt501.2.2.1 bt501.2.2.2.1 bt501.2.2.2.2.1 bt501.2.2.2.2.2.1 bt501.2.2.2.2.2.2.1 2 1 4).bind fun bt509 => (if bt470.2.2.2.2.2.2.2.2 = 9 then (if bt484.2.2.2.2.2.2.2 = 2 then (if bt492.2.2.2.2.2.2.2.2 = true then (if bt501.2.2.2.2.2.2.2 = 0 then (if bt509.2.2.2.2.2.2.2.2 = 0 then (if bt509.2.2.2.2.2.2.2.1 = 0 then (if bt509.1 = 3 then ((q_awake.f kj6).bind fun t518 => (if t518 = true then (some true) else (none))) else (none)) else (none)) else (none)) else (none)) else (none)) else (none)) else (none)))))))) = some r := by rw [if_neg (show ¬ (false = true) by decide)] at H; exact H
    clear H
    have H := H1
    clear H1
    replace H := Option.bind_eq_some_iff.mp H
    obtain ⟨⟨t470, t471, t472, t473, t474, t475, t476, t477, t478⟩, A450, H⟩ := H
    replace H : ((q_at.f 3).bind fun bt479 => ((move_Wait.f kj6 bt479.1 bt479.2.1 bt479.2.2.1 bt479.2.2.2.1 bt479.2.2.2.2 200001 2 1).bind fun bt484 => ((q_goes.f kj6 0 7 7 3).bind fun bt492 => ((move_Stop.f kj6 bt492.1 bt492.2.1 bt492.2.2.1 bt492.2.2.2.1 bt492.2.2.2.2.1 bt492.2.2.2.2.2.1 bt492.2.2.2.2.2.2.1 2 1).bind fun bt501 => ((move_Run.f bt501.1 bt501.2.1 bt501.2.2.1 bt501.2.2.2.1 bt501.2.2.2.2.1 bt501.2.2.2.2.2.1 bt501.2.2.2.2.2.2.1 2 1 4).bind fun bt509 => (if t478 = 9 then (if bt484.2.2.2.2.2.2.2 = 2 then (if bt492.2.2.2.2.2.2.2.2 = true then (if bt501.2.2.2.2.2.2.2 = 0 then (if bt509.2.2.2.2.2.2.2.2 = 0 then (if bt509.2.2.2.2.2.2.2.1 = 0 then (if bt509.1 = 3 then ((q_awake.f kj6).bind fun t518 => (if t518 = true then (some true) else (none))) else (none)) else (none)) else (none)) else (none)) else (none)) else (none)) else (none))))))) = some r := H
    have A45 := Aside0.mk A450
    clear A450
    replace H := Option.bind_eq_some_iff.mp H
    obtain ⟨⟨t479, t480, t481, t482, t483⟩, A460, H⟩ := H
    replace H : ((move_Wait.f kj6 t479 t480 t481 t482 t483 200001 2 1).bind fun bt484 => ((q_goes.f kj6 0 7 7 3).bind fun bt492 => ((move_Stop.f kj6 bt492.1 bt492.2.1 bt492.2.2.1 bt492.2.2.2.1 bt492.2.2.2.2.1 bt492.2.2.2.2.2.1 bt492.2.2.2.2.2.2.1 2 1).bind fun bt501 => ((move_Run.f bt501.1 bt501.2.1 bt501.2.2.1 bt501.2.2.2.1 bt501.2.2.2.2.1 bt501.2.2.2.2.2.1 bt501.2.2.2.2.2.2.1 2 1 4).bind fun bt509 => (if t478 = 9 then (if bt484.2.2.2.2.2.2.2 = 2 then (if bt492.2.2.2.2.2.2.2.2 = true then (if bt501.2.2.2.2.2.2.2 = 0 then (if bt509.2.2.2.2.2.2.2.2 = 0 then (if bt509.2.2.2.2.2.2.2.1 = 0 then (if bt509.1 = 3 then ((q_awake.f kj6).bind fun t518 => (if t518 = true then (some true) else (none))) else (none)) else (none)) else (none)) else (none)) else (none)) else (none)) else (none)))))) = some r := H
    have A46 := Aside0.mk A460
    clear A460
    replace H := Option.bind_eq_some_iff.mp H
    obtain ⟨⟨t484, t485, t486, t487, t488, t489, t490, t491⟩, A470, H⟩ := H
    replace H : ((q_goes.f kj6 0 7 7 3).bind fun bt492 => ((move_Stop.f kj6 bt492.1 bt492.2.1 bt492.2.2.1 bt492.2.2.2.1 bt492.2.2.2.2.1 bt492.2.2.2.2.2.1 bt492.2.2.2.2.2.2.1 2 1).bind fun bt501 => ((move_Run.f bt501.1 bt501.2.1 bt501.2.2.1 bt501.2.2.2.1 bt501.2.2.2.2.1 bt501.2.2.2.2.2.1 bt501.2.2.2.2.2.2.1 2 1 4).bind fun bt509 => (if t478 = 9 then (if t491 = 2 then (if bt492.2.2.2.2.2.2.2.2 = true then (if bt501.2.2.2.2.2.2.2 = 0 then (if bt509.2.2.2.2.2.2.2.2 = 0 then (if bt509.2.2.2.2.2.2.2.1 = 0 then (if bt509.1 = 3 then ((q_awake.f kj6).bind fun t518 => (if t518 = true then (some true) else (none))) else (none)) else (none)) else (none)) else (none)) else (none)) else (none)) else (none))))) = some r := H
    have A47 := Aside0.mk A470
    clear A470
    replace H := Option.bind_eq_some_iff.mp H
    obtain ⟨⟨t492, t493, t494, t495, t496, t497, t498, t499, t500⟩, A480, H⟩ := H
    replace H : ((move_Stop.f kj6 t492 t493 t494 t495 t496 t497 t498 2 1).bind fun bt501 => ((move_Run.f bt501.1 bt501.2.1 bt501.2.2.1 bt501.2.2.2.1 bt501.2.2.2.2.1 bt501.2.2.2.2.2.1 bt501.2.2.2.2.2.2.1 2 1 4).bind fun bt509 => (if t478 = 9 then (if t491 = 2 then (if t500 = true then (if bt501.2.2.2.2.2.2.2 = 0 then (if bt509.2.2.2.2.2.2.2.2 = 0 then (if bt509.2.2.2.2.2.2.2.1 = 0 then (if bt509.1 = 3 then ((q_awake.f kj6).bind fun t518 => (if t518 = true then (some true) else (none))) else (none)) else (none)) else (none)) else (none)) else (none)) else (none)) else (none)))) = some r := H
    have A48 := Aside0.mk A480
    clear A480
    replace H := Option.bind_eq_some_iff.mp H
    obtain ⟨⟨t501, t502, t503, t504, t505, t506, t507, t508⟩, A490, H⟩ := H
    replace H : ((move_Run.f t501 t502 t503 t504 t505 t506 t507 2 1 4).bind fun bt509 => (if t478 = 9 then (if t491 = 2 then (if t500 = true then (if t508 = 0 then (if bt509.2.2.2.2.2.2.2.2 = 0 then (if bt509.2.2.2.2.2.2.2.1 = 0 then (if bt509.1 = 3 then ((q_awake.f kj6).bind fun t518 => (if t518 = true then (some true) else (none))) else (none)) else (none)) else (none)) else (none)) else (none)) else (none)) else (none))) = some r := H
    have A49 := Aside0.mk A490
    clear A490
    replace H := Option.bind_eq_some_iff.mp H
    obtain ⟨⟨t509, t510, t511, t512, t513, t514, t515, t516, t517⟩, A500, H⟩ := H
    replace H : (if t478 = 9 then (if t491 = 2 then (if t500 = true then (if t508 = 0 then (if t517 = 0 then (if t516 = 0 then (if t509 = 3 then ((q_awake.f kj6).bind fun t518 => (if t518 = true then (some true) else (none))) else (none)) else (none)) else (none)) else (none)) else (none)) else (none)) else (none)) = some r := H
    have A50 := Aside0.mk A500
    clear A500
    by_cases c51 : t478 = 9
    ·rw [if_pos c51] at H
     have c51b0 : (t478 == 9) = true := beq_iff_eq.mpr c51
     have c51b1 : (t478 != 9) = false := bne_eq_false_iff_eq.mpr c51
     clear c51
     by_cases c52 : t491 = 2
     ·rw [if_pos c52] at H
      have c52b0 : (t491 == 2) = true := beq_iff_eq.mpr c52
      have c52b1 : (t491 != 2) = false := bne_eq_false_iff_eq.mpr c52
      clear c52
      by_cases c53 : t500 = true
      ·subst c53
       have H1 : (if t508 = 0 then (if t517 = 0 then (if t516 = 0 then (if t509 = 3 then ((q_awake.f kj6).bind fun t518 => (if t518 = true then (some true) else (none))) else (none)) else (none)) else (none)) else (none)) = some r := by rw [if_pos rfl] at H; exact H
       clear H
       have H := H1
       clear H1
       by_cases c54 : t508 = 0
       ·rw [if_pos c54] at H
        have c54b0 : (t508 == 0) = true := beq_iff_eq.mpr c54
        have c54b1 : (t508 != 0) = false := bne_eq_false_iff_eq.mpr c54
        clear c54
        by_cases c55 : t517 = 0
        ·rw [if_pos c55] at H
         have c55b0 : (t517 == 0) = true := beq_iff_eq.mpr c55
         have c55b1 : (t517 != 0) = false := bne_eq_false_iff_eq.mpr c55
         clear c55
         by_cases c56 : t516 = 0
         ·rw [if_pos c56] at H
          have c56b0 : (t516 == 0) = true := beq_iff_eq.mpr c56
          have c56b1 : (t516 != 0) = false := bne_eq_false_iff_eq.mpr c56
          clear c56
          by_cases c57 : t509 = 3
          ·rw [if_pos c57] at H
           have c57b0 : (t509 == 3) = true := beq_iff_eq.mpr c57
           have c57b1 : (t509 != 3) = false := bne_eq_false_iff_eq.mpr c57
           clear c57
           replace H := Option.bind_eq_some_iff.mp H
           obtain ⟨t518, A580, H⟩ := H
           replace H : (if t518 = true then (some true) else (none)) = some r := H
           have A58 := Aside0.mk A580
           clear A580
           by_cases c59 : t518 = true
           ·subst c59
            have H1 : (some true) = some r := by rw [if_pos rfl] at H; exact H
            clear H
            have H := H1
            clear H1
            obtain rfl := Option.some.inj H
            have hnb60 := NB453_439.out
            have hnc60 := NB439_453.out
            have hnb61 := NB453_469.out
            have hnc61 := NB469_453.out
            have hcz62_0 := cz7 BK453.out
            have hfz62_0 := blk_frozen BK453.out
            go_wp2_with (first | ((with_reducible refine gate_callee (f := 14) rfl ?_); refine gsl (some 61) Try.func14 #[.agg #[.int .i64 t445, .int .i64 t446, .int .i64 t447, .int .i64 t448, .int .i64 t449, .int .i64 t450, .int .i64 t451], .int .i64 2, .int .i64 1] ?_; (with_reducible refine (move_Step.calls t445 t446 t447 t448 t449 t450 t451 2 1 t470 t471 t472 t473 t474 t475 t476 t477 t478 _ A45.out).mono ?_); rintro e w63 ⟨rfl, hb⟩; refine ⟨_, rfl, ?_⟩; replace BK439 := Aside0.mk (bkb BK439.out hb); replace BK453 := Aside0.mk (bkb BK453.out hb); replace BK469 := Aside0.mk (bkb BK469.out hb); replace HB := Aside0.mk (bst HB.out hb); (try clear hb); (try clear hb2); (try clear hk); (try clear hi)) | ((with_reducible refine gate_callee (f := 12) rfl ?_); refine gsl (some 66) Try.func12 #[.int .i64 3] ?_; (with_reducible refine (q_at.calls 3 t479 t480 t481 t482 t483 _ A46.out).mono ?_); rintro e w64 ⟨rfl, hb⟩; refine ⟨_, rfl, ?_⟩; replace BK439 := Aside0.mk (bkb BK439.out hb); replace BK453 := Aside0.mk (bkb BK453.out hb); replace BK469 := Aside0.mk (bkb BK469.out hb); replace HB := Aside0.mk (bst HB.out hb); (try clear hb); (try clear hb2); (try clear hk); (try clear hi)) | ((with_reducible refine gate_callee (f := 21) rfl ?_); refine gsl (some 67) Try.func21 #[.agg #[.int .i64 t479, .int .i64 t480, .int .i64 t481, .int .i64 t482, .int .i64 t483], .int .i64 200001, .int .i64 2, .int .i64 1] ?_; (with_reducible refine (move_Wait.calls kj6 t479 t480 t481 t482 t483 200001 2 1 t484 t485 t486 t487 t488 t489 t490 t491 _ A47.out).mono ?_); rintro e w65 ⟨rfl, hb⟩; refine ⟨_, rfl, ?_⟩; replace BK439 := Aside0.mk (bkb BK439.out hb); replace BK453 := Aside0.mk (bkb BK453.out hb); replace BK469 := Aside0.mk (bkb BK469.out hb); replace HB := Aside0.mk (bst HB.out hb); (try clear hb); (try clear hb2); (try clear hk); (try clear hi)) | ((with_reducible refine gate_callee (f := 20) rfl ?_); refine gsl (some 71) Try.func20 #[.int .i64 0, .int .i64 7, .int .i64 7, .int .i64 3] ?_; (with_reducible refine (q_goes.calls kj6 0 7 7 3 t492 t493 t494 t495 t496 t497 t498 t499 true _ A48.out).mono ?_); rintro e w66 ⟨rfl, hb⟩; refine ⟨_, rfl, ?_⟩; replace BK439 := Aside0.mk (bkb BK439.out hb); replace BK453 := Aside0.mk (bkb BK453.out hb); replace BK469 := Aside0.mk (bkb BK469.out hb); replace HB := Aside0.mk (bst HB.out hb); (try clear hb); (try clear hb2); (try clear hk); (try clear hi); have hnb67 := NB439_469.out; have hnc67 := NB469_439.out; have hcz68_0 := cz7 BK439.out; have hfz68_0 := blk_frozen BK439.out) | ((with_reducible refine gate_callee (f := 19) rfl ?_); refine gsl (some 77) Try.func19 #[.agg #[.int .i64 t492, .int .i64 t493, .int .i64 t494, .int .i64 t495, .int .i64 t496, .int .i64 t497, .int .i64 t498], .int .i64 2, .int .i64 1] ?_; (with_reducible refine (move_Stop.calls kj6 t492 t493 t494 t495 t496 t497 t498 2 1 t501 t502 t503 t504 t505 t506 t507 t508 _ A49.out).mono ?_); rintro e w69 ⟨rfl, hb⟩; refine ⟨_, rfl, ?_⟩; replace BK439 := Aside0.mk (blk_below (g := gb439) (o := .cells #[.int .i64 t492, .int .i64 t493, .int .i64 t494, .int .i64 t495, .int .i64 t496, .int .i64 t497, .int .i64 t498] 35 (0, 0)) (bkt BK439.out) hb); replace BK453 := Aside0.mk (bkb BK453.out hb); replace BK469 := Aside0.mk (bkb BK469.out hb); replace HB := Aside0.mk (bst HB.out hb); (try clear hb); (try clear hb2); (try clear hk); (try clear hi); have hcz70_0 := cz7 BK439.out; have hfz70_0 := blk_frozen BK439.out) | ((with_reducible refine gate_callee (f := 18) rfl ?_); refine gsl (some 82) Try.func18 #[.agg #[.int .i64 t501, .int .i64 t502, .int .i64 t503, .int .i64 t504, .int .i64 t505, .int .i64 t506, .int .i64 t507], .int .i64 2, .int .i64 1, .int .i64 4] ?_; (with_reducible refine (move_Run.calls t501 t502 t503 t504 t505 t506 t507 2 1 4 t509 t510 t511 t512 t513 t514 t515 t516 t517 _ A50.out).mono ?_); rintro e w71 ⟨rfl, hb⟩; refine ⟨_, rfl, ?_⟩; replace BK439 := Aside0.mk (blk_below (g := gb439) (o := .cells #[.int .i64 t501, .int .i64 t502, .int .i64 t503, .int .i64 t504, .int .i64 t505, .int .i64 t506, .int .i64 t507] 35 (0, 0)) (bkt BK439.out) hb); replace BK453 := Aside0.mk (bkb BK453.out hb); replace BK469 := Aside0.mk (bkb BK469.out hb); replace HB := Aside0.mk (bst HB.out hb); (try clear hb); (try clear hb2); (try clear hk); (try clear hi); have hcz72_0 := cz7 BK439.out; have hfz72_0 := blk_frozen BK439.out) | (go_at_call 7; (with_reducible refine (q_awake.calls kj6  true _ A58.out).mono ?_); rintro e w73 ⟨rfl, hb⟩; (try clear A58); replace BK439 := Aside0.mk (blk_below (g := gb439) (o := .cells #[.int .i64 t509, .int .i64 t510, .int .i64 t511, .int .i64 t512, .int .i64 t513, .int .i64 t514, .int .i64 t515] 35 (0, 0)) (bkt BK439.out) hb); replace BK453 := Aside0.mk (bkb BK453.out hb); replace BK469 := Aside0.mk (bkb BK469.out hb); replace HB := Aside0.mk (bst HB.out hb); (try clear hb); (try clear hb2); (try clear hk); (try clear hi)))
            go_ret
            exact bfin (bel HB.out)
           ·replace c59 := Bool.eq_false_iff.mpr c59
            subst c59
            have H1 : (none) = some r := by rw [if_neg (show ¬ (false = true) by decide)] at H; exact H
            clear H
            have H := H1
            clear H1
            exact absurd H (by simp)
          ·rw [if_neg c57] at H
           exact absurd H (by simp)
         ·rw [if_neg c56] at H
          exact absurd H (by simp)
        ·rw [if_neg c55] at H
         exact absurd H (by simp)
       ·rw [if_neg c54] at H
        exact absurd H (by simp)
      ·replace c53 := Bool.eq_false_iff.mpr c53
       subst c53
       have H1 : (none) = some r := by rw [if_neg (show ¬ (false = true) by decide)] at H; exact H
       clear H
       have H := H1
       clear H1
       exact absurd H (by simp)
     ·rw [if_neg c52] at H
      exact absurd H (by simp)
    ·rw [if_neg c51] at H
     exact absurd H (by simp)

/-- THE ONE PURE STATEMENT of q_MoveKnown: yours. -/
def q_MoveKnown.Pure : Prop := ∃ k, q_MoveKnown.f k  = some true
theorem q_MoveKnown.walk (P : q_MoveKnown.Pure)  (w : World)  :
  Calls Try.prog 6 #[] w fun e w' => e = .returned (.bool true) ∧ Below w.heap.size w w' := by
 obtain ⟨k, h⟩ := P  
 refine (q_MoveKnown.calls k  true w h).mono ?_
 rintro e w' ⟨rfl, hd⟩
 exact ⟨rfl, hd⟩

end Go.Proofs.Ytckaofgkepcibaa.P
