-- Printed by wip/myprint.py of this repo (over the kit's printer). Not trusted: Lean checks it.
import Derived.Test.YtckaofgkepcibaaP0
import Derived.Test.YtckaofgkepcibaaE35
import Derived.Test.YtckaofgkepcibaaMr
import Derived.Test.YtckaofgkepcibaaP0tipstaffkit
import Derived.Test.YtckaofgkepcibaaP0tipstafflaw15
import Derived.Test.YtckaofgkepcibaaP2move
import Derived.Test.YtckaofgkepcibaaP2movea
import Derived.Test.YtckaofgkepcibaaP3tipstafflaw15
namespace Go.Proofs.Ytckaofgkepcibaa.P
open Go.RowKit Go.Proofs.YtckaofgkepcibaaW.PrintWords Go.Proofs.YtckaofgkepcibaaW.PrintLast Go.Proofs.YtckaofgkepcibaaW.PrintMore
attribute [local go_sem] cell_same1 cell_some1
attribute [local go_sem] max2_int min2_int max_two min_two max_three min_three max_four min_four   -- for this text's walks alone
set_option linter.unusedVariables false
set_option linter.unusedSimpArgs false

attribute [local go_sem high] eqA35
/-! ### q_MoveParts: function 5 -/
mutual
def q_MoveParts.j0 : Nat → Int → Int → Bool → Int → Int → Int → Int → Int → Int → Int → Int → Int → Int → Option (Bool)
 | 0, _, _, _, _, _, _, _, _, _, _, _, _, _ => none
 | k + 1, x2, x11, x67, x359000, x359001, x359002, x375000, x375001, x375002, x375003, x375004, x375005, x375006 => if x67 = true then (none) else ((kit_Mod.f x2 (wrap64 (x11 + 1))).bind fun t375 => ((move_Run.f x375000 x375001 x375002 x375003 x375004 x375005 x375006 x359000 x359001 t375).bind fun bt376 => ((move_Run.f bt376.1 bt376.2.1 bt376.2.2.1 bt376.2.2.2.1 bt376.2.2.2.2.1 bt376.2.2.2.2.2.1 bt376.2.2.2.2.2.2.1 x359000 x359001 (wrap64 (x11 - t375))).bind fun bt386 => ((move_Run.f x375000 x375001 x375002 x375003 x375004 x375005 x375006 x359000 x359001 x11).bind fun bt396 => (if bt376.2.2.2.2.2.2.2.2 = 0 then (if bt386.2.2.2.2.2.2.2.2 = 0 then (if bt396.2.2.2.2.2.2.2.2 = 0 then (if ((!(bt386.1 == bt396.1) || (!(bt386.2.1 == bt396.2.1) || (!(bt386.2.2.1 == bt396.2.2.1) || (!(bt386.2.2.2.1 == bt396.2.2.2.1) || (!(bt386.2.2.2.2.1 == bt396.2.2.2.2.1)))))) || (!(bt386.2.2.2.2.2.1 == bt396.2.2.2.2.2.1) || (!(bt386.2.2.2.2.2.2.1 == bt396.2.2.2.2.2.2.1)))) = true then (q_MoveParts.j1 k x11 t375 true x359000 x359001 x359002 bt376.1 bt376.2.1 bt376.2.2.1 bt376.2.2.2.1 bt376.2.2.2.2.1 bt376.2.2.2.2.2.1 bt376.2.2.2.2.2.2.1) else (q_MoveParts.j1 k x11 t375 ((wrap64 (bt376.2.2.2.2.2.2.2.1 + bt386.2.2.2.2.2.2.2.1)) != bt396.2.2.2.2.2.2.2.1) x359000 x359001 x359002 bt376.1 bt376.2.1 bt376.2.2.1 bt376.2.2.2.1 bt376.2.2.2.2.1 bt376.2.2.2.2.2.1 bt376.2.2.2.2.2.2.1)) else (q_MoveParts.j1 k x11 t375 true x359000 x359001 x359002 bt376.1 bt376.2.1 bt376.2.2.1 bt376.2.2.2.1 bt376.2.2.2.2.1 bt376.2.2.2.2.2.1 bt376.2.2.2.2.2.2.1)) else (q_MoveParts.j1 k x11 t375 true x359000 x359001 x359002 bt376.1 bt376.2.1 bt376.2.2.1 bt376.2.2.2.1 bt376.2.2.2.2.1 bt376.2.2.2.2.2.1 bt376.2.2.2.2.2.2.1)) else (q_MoveParts.j1 k x11 t375 true x359000 x359001 x359002 bt376.1 bt376.2.1 bt376.2.2.1 bt376.2.2.2.1 bt376.2.2.2.2.1 bt376.2.2.2.2.2.1 bt376.2.2.2.2.2.2.1))))))
def q_MoveParts.j1 : Nat → Int → Int → Bool → Int → Int → Int → Int → Int → Int → Int → Int → Int → Int → Option (Bool)
 | 0, _, _, _, _, _, _, _, _, _, _, _, _, _ => none
 | k + 1, x11, x15, x128, x359000, x359001, x359002, x386000, x386001, x386002, x386003, x386004, x386005, x386006 => if x128 = true then (none) else ((move_Stop.f k x386000 x386001 x386002 x386003 x386004 x386005 x386006 x359000 x359001).bind fun bt406 => ((move_Run.f bt406.1 bt406.2.1 bt406.2.2.1 bt406.2.2.2.1 bt406.2.2.2.2.1 bt406.2.2.2.2.2.1 bt406.2.2.2.2.2.2.1 x359000 x359001 (wrap64 (x11 - x15))).bind fun bt415 => (if bt406.2.2.2.2.2.2.2 = 0 then (if bt415.2.2.2.2.2.2.2.2 = 0 then (if bt415.2.2.2.2.2.2.2.1 = 0 then (if bt415.1 = x386000 then (if bt415.2.2.2.2.2.2.1 = x11 then ((q_awake.f k).bind fun t425 => (if t425 = true then (some true) else (none))) else (none)) else (none)) else (none)) else (none)) else (none))))
end
def q_MoveParts.f (k : Nat) (l0 : List Int) (a1 : Int) (a2 : Int) : Option (Bool) := (q_shaft.f k l0 a1).bind fun bt350 => ((move_Ticks.f bt350.1 bt350.2.1 bt350.2.2.1).bind fun bt359 => ((q_at.f bt350.2.2.2.2.1).bind fun bt361 => ((move_Begin.f k bt361.1 bt361.2.1 bt361.2.2.1 bt361.2.2.2.1 bt361.2.2.2.2 bt350.2.2.2.2.2 bt359.1 bt350.2.1 bt350.2.2.1).bind fun bt366 => (if bt359.2 = 0 then (if bt366.2.2.2.2.2.2.2 = 0 then (if bt359.1 < 0 then (q_MoveParts.j0 k a2 bt359.1 true bt350.2.1 bt350.2.2.1 bt350.2.2.2.1 bt366.1 bt366.2.1 bt366.2.2.1 bt366.2.2.2.1 bt366.2.2.2.2.1 bt366.2.2.2.2.2.1 bt366.2.2.2.2.2.2.1) else (q_MoveParts.j0 k a2 bt359.1 (decide (bt359.1 > 2000)) bt350.2.1 bt350.2.2.1 bt350.2.2.2.1 bt366.1 bt366.2.1 bt366.2.2.1 bt366.2.2.2.1 bt366.2.2.2.2.1 bt366.2.2.2.2.2.1 bt366.2.2.2.2.2.2.1)) else (q_MoveParts.j0 k a2 bt359.1 true bt350.2.1 bt350.2.2.1 bt350.2.2.2.1 bt366.1 bt366.2.1 bt366.2.2.1 bt366.2.2.2.1 bt366.2.2.2.2.1 bt366.2.2.2.2.2.1 bt366.2.2.2.2.2.2.1)) else (q_MoveParts.j0 k a2 bt359.1 true bt350.2.1 bt350.2.2.1 bt350.2.2.2.1 bt366.1 bt366.2.1 bt366.2.2.1 bt366.2.2.2.1 bt366.2.2.2.2.1 bt366.2.2.2.2.2.1 bt366.2.2.2.2.2.2.1)))))
theorem q_MoveParts.mono_l : ∀ k, (∀ y0 y1 y2 y3 y4 y5 y6 y7 y8 y9 y10 y11 y12, LeO (q_MoveParts.j0 k y0 y1 y2 y3 y4 y5 y6 y7 y8 y9 y10 y11 y12) (q_MoveParts.j0 (k + 1) y0 y1 y2 y3 y4 y5 y6 y7 y8 y9 y10 y11 y12)) ∧ (∀ y0 y1 y2 y3 y4 y5 y6 y7 y8 y9 y10 y11 y12, LeO (q_MoveParts.j1 k y0 y1 y2 y3 y4 y5 y6 y7 y8 y9 y10 y11 y12) (q_MoveParts.j1 (k + 1) y0 y1 y2 y3 y4 y5 y6 y7 y8 y9 y10 y11 y12))
 | 0 => ⟨fun _ _ _ _ _ _ _ _ _ _ _ _ _ r h => by simp [q_MoveParts.j0] at h, fun _ _ _ _ _ _ _ _ _ _ _ _ _ r h => by simp [q_MoveParts.j1] at h⟩
 | k + 1 => by
  obtain ⟨ih0, ih1⟩ := q_MoveParts.mono_l k
  refine ⟨?_, ?_⟩
  ·intro y0 y1 y2 y3 y4 y5 y6 y7 y8 y9 y10 y11 y12
   unfold q_MoveParts.j0
   repeat' first
   | (with_reducible exact ih0 _ _ _ _ _ _ _ _ _ _ _ _ _)
   | (with_reducible exact ih1 _ _ _ _ _ _ _ _ _ _ _ _ _)
   | (with_reducible exact move_Begin.mono _ _ _ _ _ _ _ _ _ _)
   | (with_reducible exact move_Stop.mono _ _ _ _ _ _ _ _ _ _)
   | (with_reducible exact q_awake.mono _)
   | (with_reducible exact q_shaft.mono _ _ _)
   | (with_reducible exact LeO.refl _)
   | (with_reducible exact LeO.none _)
   | (with_reducible refine LeO.ite ?_ ?_)
   | (with_reducible refine LeO.bind ?_ (fun _ => ?_))
   | exact ih0 _ _ _ _ _ _ _ _ _ _ _ _ _
   | exact ih1 _ _ _ _ _ _ _ _ _ _ _ _ _
   | exact move_Begin.mono _ _ _ _ _ _ _ _ _ _
   | exact move_Stop.mono _ _ _ _ _ _ _ _ _ _
   | exact q_awake.mono _
   | exact q_shaft.mono _ _ _
   | exact LeO.none _
   | refine LeO.ite ?_ ?_
   | refine LeO.bind ?_ (fun _ => ?_)
  ·intro y0 y1 y2 y3 y4 y5 y6 y7 y8 y9 y10 y11 y12
   unfold q_MoveParts.j1
   repeat' first
   | (with_reducible exact ih0 _ _ _ _ _ _ _ _ _ _ _ _ _)
   | (with_reducible exact ih1 _ _ _ _ _ _ _ _ _ _ _ _ _)
   | (with_reducible exact move_Begin.mono _ _ _ _ _ _ _ _ _ _)
   | (with_reducible exact move_Stop.mono _ _ _ _ _ _ _ _ _ _)
   | (with_reducible exact q_awake.mono _)
   | (with_reducible exact q_shaft.mono _ _ _)
   | (with_reducible exact LeO.refl _)
   | (with_reducible exact LeO.none _)
   | (with_reducible refine LeO.ite ?_ ?_)
   | (with_reducible refine LeO.bind ?_ (fun _ => ?_))
   | exact ih0 _ _ _ _ _ _ _ _ _ _ _ _ _
   | exact ih1 _ _ _ _ _ _ _ _ _ _ _ _ _
   | exact move_Begin.mono _ _ _ _ _ _ _ _ _ _
   | exact move_Stop.mono _ _ _ _ _ _ _ _ _ _
   | exact q_awake.mono _
   | exact q_shaft.mono _ _ _
   | exact LeO.none _
   | refine LeO.ite ?_ ?_
   | refine LeO.bind ?_ (fun _ => ?_)
theorem q_MoveParts.mono : ∀ a0 a1 a2 k, LeO (q_MoveParts.f k a0 a1 a2) (q_MoveParts.f (k + 1) a0 a1 a2) := by
 intro a0 a1 a2 k
 obtain ⟨ih0, ih1⟩ := q_MoveParts.mono_l k
 unfold q_MoveParts.f
 repeat' first
   | (with_reducible exact ih0 _ _ _ _ _ _ _ _ _ _ _ _ _)
   | (with_reducible exact ih1 _ _ _ _ _ _ _ _ _ _ _ _ _)
   | (with_reducible exact move_Begin.mono _ _ _ _ _ _ _ _ _ _)
   | (with_reducible exact move_Stop.mono _ _ _ _ _ _ _ _ _ _)
   | (with_reducible exact q_awake.mono _)
   | (with_reducible exact q_shaft.mono _ _ _)
   | (with_reducible exact LeO.refl _)
   | (with_reducible exact LeO.none _)
   | (with_reducible refine LeO.ite ?_ ?_)
   | (with_reducible refine LeO.bind ?_ (fun _ => ?_))
   | exact ih0 _ _ _ _ _ _ _ _ _ _ _ _ _
   | exact ih1 _ _ _ _ _ _ _ _ _ _ _ _ _
   | exact move_Begin.mono _ _ _ _ _ _ _ _ _ _
   | exact move_Stop.mono _ _ _ _ _ _ _ _ _ _
   | exact q_awake.mono _
   | exact q_shaft.mono _ _ _
   | exact LeO.none _
   | refine LeO.ite ?_ ?_
   | refine LeO.bind ?_ (fun _ => ?_)
def q_MoveParts.T3 : Bool × List (List Nat × List Nat) := (true, [([], []), ([0], [0]), ([], []), ([], []), ([], []), ([4], [4]), ([], []), ([6], [6]), ([1, 2, 3, 5, 7, 1], [1, 2, 3, 5, 7]), ([8], [8]), ([9], [9]), ([9], [9]), ([], []), ([12, 10, 8, 0, 1, 2, 3, 4, 5, 6, 7, 8, 9, 10, 12], [10, 12]), ([11, 13, 0, 1, 2, 3, 4, 5, 6, 7, 8, 9, 10, 11, 12, 13], [11])])
def q_MoveParts.B3 : List Nat := [0, 1, 0, 0, 0, 16, 0, 64, 255, 511, 1023, 1023, 0, 6143, 16383]
theorem q_MoveParts.tab3 : rtab .any (opsOf Try.f5 3) = q_MoveParts.T3 := by kernel_rfl
theorem q_MoveParts.bits3 : waitsOk q_MoveParts.T3.2 q_MoveParts.B3 = true := by kernel_rfl
set_option maxHeartbeats 8000000 in
set_option maxRecDepth 100000 in
theorem q_MoveParts.calls (k : Nat) (A0 : Option Addr) (c0 : Nat) (l0 : List Int) (a1 : Int) (a2 : Int) (r : Bool) (w : World) (hr0 : Kd.C (Kd.int .i64) w A0 l0.length l0) (hc0 : l0.length ≤ c0) (h : q_MoveParts.f k l0 a1 a2 = some r) :
  Calls Try.prog 5 #[.slice A0 l0.length c0, .int .i64 a1, .int .i64 a2] w fun e w' => e = .returned (.bool r) ∧ Below w.heap.size w w' := by
 have hu29 := Try.underlying29
 have hu35 := Try.underlying35
 have HR0 := Aside0.mk hr0
 have HC0 := Aside0.mk hc0
 clear hr0 hc0
 have HB := Aside0.mk (Below.refl w.heap.size w)
 have H : ((q_shaft.f k l0 a1).bind fun bt350 => ((move_Ticks.f bt350.1 bt350.2.1 bt350.2.2.1).bind fun bt359 => ((q_at.f bt350.2.2.2.2.1).bind fun bt361 => ((move_Begin.f k bt361.1 bt361.2.1 bt361.2.2.1 bt361.2.2.2.1 bt361.2.2.2.2 bt350.2.2.2.2.2 bt359.1 bt350.2.1 bt350.2.2.1).bind fun bt366 => (if bt359.2 = 0 then (if bt366.2.2.2.2.2.2.2 = 0 then (if bt359.1 < 0 then (q_MoveParts.j0 k a2 bt359.1 true bt350.2.1 bt350.2.2.1 bt350.2.2.2.1 bt366.1 bt366.2.1 bt366.2.2.1 bt366.2.2.2.1 bt366.2.2.2.2.1 bt366.2.2.2.2.2.1 bt366.2.2.2.2.2.2.1) else (q_MoveParts.j0 k a2 bt359.1 (decide (bt359.1 > 2000)) bt350.2.1 bt350.2.2.1 bt350.2.2.2.1 bt366.1 bt366.2.1 bt366.2.2.1 bt366.2.2.2.1 bt366.2.2.2.2.1 bt366.2.2.2.2.2.1 bt366.2.2.2.2.2.2.1)) else (q_MoveParts.j0 k a2 bt359.1 true bt350.2.1 bt350.2.2.1 bt350.2.2.2.1 bt366.1 bt366.2.1 bt366.2.2.1 bt366.2.2.2.1 bt366.2.2.2.2.1 bt366.2.2.2.2.2.1 bt366.2.2.2.2.2.2.1)) else (q_MoveParts.j0 k a2 bt359.1 true bt350.2.1 bt350.2.2.1 bt350.2.2.2.1 bt366.1 bt366.2.1 bt366.2.2.1 bt366.2.2.2.1 bt366.2.2.2.2.1 bt366.2.2.2.2.2.1 bt366.2.2.2.2.2.2.1)))))) = some r := h
 clear h
 replace H := Option.bind_eq_some_iff.mp H
 obtain ⟨⟨t350, t353, t354, t355, t356, t357⟩, A40, H⟩ := H
 replace H : ((move_Ticks.f t350 t353 t354).bind fun bt359 => ((q_at.f t356).bind fun bt361 => ((move_Begin.f k bt361.1 bt361.2.1 bt361.2.2.1 bt361.2.2.2.1 bt361.2.2.2.2 t357 bt359.1 t353 t354).bind fun bt366 => (if bt359.2 = 0 then (if bt366.2.2.2.2.2.2.2 = 0 then (if bt359.1 < 0 then (q_MoveParts.j0 k a2 bt359.1 true t353 t354 t355 bt366.1 bt366.2.1 bt366.2.2.1 bt366.2.2.2.1 bt366.2.2.2.2.1 bt366.2.2.2.2.2.1 bt366.2.2.2.2.2.2.1) else (q_MoveParts.j0 k a2 bt359.1 (decide (bt359.1 > 2000)) t353 t354 t355 bt366.1 bt366.2.1 bt366.2.2.1 bt366.2.2.2.1 bt366.2.2.2.2.1 bt366.2.2.2.2.2.1 bt366.2.2.2.2.2.2.1)) else (q_MoveParts.j0 k a2 bt359.1 true t353 t354 t355 bt366.1 bt366.2.1 bt366.2.2.1 bt366.2.2.2.1 bt366.2.2.2.2.1 bt366.2.2.2.2.2.1 bt366.2.2.2.2.2.2.1)) else (q_MoveParts.j0 k a2 bt359.1 true t353 t354 t355 bt366.1 bt366.2.1 bt366.2.2.1 bt366.2.2.2.1 bt366.2.2.2.2.1 bt366.2.2.2.2.2.1 bt366.2.2.2.2.2.2.1))))) = some r := H
 have A4 := Aside0.mk A40
 clear A40
 replace H := Option.bind_eq_some_iff.mp H
 obtain ⟨⟨t359, t360⟩, A50, H⟩ := H
 replace H : ((q_at.f t356).bind fun bt361 => ((move_Begin.f k bt361.1 bt361.2.1 bt361.2.2.1 bt361.2.2.2.1 bt361.2.2.2.2 t357 t359 t353 t354).bind fun bt366 => (if t360 = 0 then (if bt366.2.2.2.2.2.2.2 = 0 then (if t359 < 0 then (q_MoveParts.j0 k a2 t359 true t353 t354 t355 bt366.1 bt366.2.1 bt366.2.2.1 bt366.2.2.2.1 bt366.2.2.2.2.1 bt366.2.2.2.2.2.1 bt366.2.2.2.2.2.2.1) else (q_MoveParts.j0 k a2 t359 (decide (t359 > 2000)) t353 t354 t355 bt366.1 bt366.2.1 bt366.2.2.1 bt366.2.2.2.1 bt366.2.2.2.2.1 bt366.2.2.2.2.2.1 bt366.2.2.2.2.2.2.1)) else (q_MoveParts.j0 k a2 t359 true t353 t354 t355 bt366.1 bt366.2.1 bt366.2.2.1 bt366.2.2.2.1 bt366.2.2.2.2.1 bt366.2.2.2.2.2.1 bt366.2.2.2.2.2.2.1)) else (q_MoveParts.j0 k a2 t359 true t353 t354 t355 bt366.1 bt366.2.1 bt366.2.2.1 bt366.2.2.2.1 bt366.2.2.2.2.1 bt366.2.2.2.2.2.1 bt366.2.2.2.2.2.2.1)))) = some r := H
 have A5 := Aside0.mk A50
 clear A50
 replace H := Option.bind_eq_some_iff.mp H
 obtain ⟨⟨t361, t362, t363, t364, t365⟩, A60, H⟩ := H
 replace H : ((move_Begin.f k t361 t362 t363 t364 t365 t357 t359 t353 t354).bind fun bt366 => (if t360 = 0 then (if bt366.2.2.2.2.2.2.2 = 0 then (if t359 < 0 then (q_MoveParts.j0 k a2 t359 true t353 t354 t355 bt366.1 bt366.2.1 bt366.2.2.1 bt366.2.2.2.1 bt366.2.2.2.2.1 bt366.2.2.2.2.2.1 bt366.2.2.2.2.2.2.1) else (q_MoveParts.j0 k a2 t359 (decide (t359 > 2000)) t353 t354 t355 bt366.1 bt366.2.1 bt366.2.2.1 bt366.2.2.2.1 bt366.2.2.2.2.1 bt366.2.2.2.2.2.1 bt366.2.2.2.2.2.2.1)) else (q_MoveParts.j0 k a2 t359 true t353 t354 t355 bt366.1 bt366.2.1 bt366.2.2.1 bt366.2.2.2.1 bt366.2.2.2.2.1 bt366.2.2.2.2.2.1 bt366.2.2.2.2.2.2.1)) else (q_MoveParts.j0 k a2 t359 true t353 t354 t355 bt366.1 bt366.2.1 bt366.2.2.1 bt366.2.2.2.1 bt366.2.2.2.2.1 bt366.2.2.2.2.2.1 bt366.2.2.2.2.2.2.1))) = some r := H
 have A6 := Aside0.mk A60
 clear A60
 replace H := Option.bind_eq_some_iff.mp H
 obtain ⟨⟨t366, t367, t368, t369, t370, t371, t372, t373⟩, A70, H⟩ := H
 replace H : (if t360 = 0 then (if t373 = 0 then (if t359 < 0 then (q_MoveParts.j0 k a2 t359 true t353 t354 t355 t366 t367 t368 t369 t370 t371 t372) else (q_MoveParts.j0 k a2 t359 (decide (t359 > 2000)) t353 t354 t355 t366 t367 t368 t369 t370 t371 t372)) else (q_MoveParts.j0 k a2 t359 true t353 t354 t355 t366 t367 t368 t369 t370 t371 t372)) else (q_MoveParts.j0 k a2 t359 true t353 t354 t355 t366 t367 t368 t369 t370 t371 t372)) = some r := H
 have A7 := Aside0.mk A70
 clear A70
 have HC8 := Aside0.mk H
 clear H
 go_enter Try.func5, Try.ntmps5
 try go_wp2_with (first | ((with_reducible refine gate_callee (f := 10) rfl ?_); refine gsl (some 28) Try.func10 #[.slice A0 l0.length c0, .int .i64 a1] ?_; (with_reducible refine (q_shaft.calls k _ _ l0 a1 t350 t353 t354 t355 t356 t357 _ ?side1 ?side2 A4.out).mono ?_); (case side1 => repeat (first | exact HR0.out | (with_reducible refine Kd.C_alloc ?_ _) | (with_reducible refine Kd.C_drewN ?_ _) | (with_reducible refine Kd.C_drew ?_))); (case side2 => exact HC0.out); rintro e w9 ⟨v351, rfl, ho0, hb⟩; refine ⟨_, rfl, ?_⟩; have HO352 := Aside0.mk (Kd.R_lower ho0 (bsz HB.out)); replace HB := Aside0.mk (bst HB.out hb); (try clear hb); (try clear hb2); (try clear hk); (try clear hi); (try clear ho0)) | ((with_reducible refine gate_dst (N := 8) rfl ?_); refine bxe (cs := #[.int .i64 0, .int .i64 0, .int .i64 0]) (t := 29) ?_; intro gb358 hg w10 hbox hb; have BK358 := Aside0.mk (hbox); have GW358 := Aside0.mk (bge hg HB.out); have GE358 := Aside0.mk (bge hg HB.out); replace HO352 := Aside0.mk (Kd.R_below (kdt HO352.out) hb); replace HB := Aside0.mk (bst HB.out hb); clear hb hbox hg; have hcz11_0 := cz3 BK358.out; have hfz11_0 := blk_frozen BK358.out; obtain ⟨Ao12, co12, eo12⟩ := Kd.R_slice HO352.out; subst eo12) | ((with_reducible refine gate_callee (f := 8) rfl ?_); refine gsl (some 39) Try.func8 #[.slice Ao12 t350.length co12, .int .i64 t353, .int .i64 t354] ?_; (with_reducible refine (move_Ticks.calls _ _ t350 t353 t354 t359 t360 _ ?side1 ?side2 A5.out).mono ?_); (case side1 => refine (Kd.R_reads' (e := 3) (base := w.heap.size) (ok := fun k_ => True) (n := t350.length) (c := co12) ?_).2.2; exact (by (with_reducible repeat (first | apply Kd.R_alloc | apply Kd.R_drewN | apply Kd.R_drew)); exact (Kd.R_mono (Kd.R_far (p := ⟨gb358, 2, none⟩) (Kd.R_far (p := ⟨gb358, 1, none⟩) (Kd.R_far (p := ⟨gb358, 0, none⟩) (Kd.R_types HO352.out BK358.out (by decide)) (fun _ hk => hk.2) (.int .i64 t353)) (fun _ hk => hk.2) (.int .i64 t354)) (fun _ hk => hk.2) (.int .i64 t355)) (fun _ h_ => h_.1)))); (case side2 => exact (Kd.R_reads' HO352.out).2.1); rintro e w13 ⟨rfl, hb⟩; refine ⟨_, rfl, ?_⟩; replace HO352 := Aside0.mk (Kd.R_below (by (with_reducible repeat (first | apply Kd.R_alloc | apply Kd.R_drewN | apply Kd.R_drew)); exact (Kd.R_mono (Kd.R_far (p := ⟨gb358, 2, none⟩) (Kd.R_far (p := ⟨gb358, 1, none⟩) (Kd.R_far (p := ⟨gb358, 0, none⟩) (Kd.R_types HO352.out BK358.out (by decide)) (fun _ hk => hk.2) (.int .i64 t353)) (fun _ hk => hk.2) (.int .i64 t354)) (fun _ hk => hk.2) (.int .i64 t355)) (fun _ h_ => h_.1))) hb); replace BK358 := Aside0.mk (blk_below (g := gb358) (o := .cells #[.int .i64 t353, .int .i64 t354, .int .i64 t355] 29 (0, 0)) (bkt BK358.out) hb); replace HB := Aside0.mk (bst HB.out hb); (try clear hb); (try clear hb2); (try clear hk); (try clear hi)))
 have n0_ := Aside0.mk (Kd.R_drew HO352.out)
 have n1_ := Aside0.mk (blk_drew BK358.out)
 have n2_ := Aside0.mk (below_drew1 HB.out)
 clear HO352
 clear BK358
 clear HB
 have HO352 := n0_
 have BK358 := n1_
 have HB := n2_
 clear n0_ n1_ n2_
 refine start_ (n := 15) (S := fun w' => w'.cell? ⟨gb358, 0, none⟩ = some (.int .i64 t353) ∧ w'.cell? ⟨gb358, 1, none⟩ = some (.int .i64 t354) ∧ w'.cell? ⟨gb358, 2, none⟩ = some (.int .i64 t355)) (ds := []) #[false, false, false, false, false, false, false, false, false, false, false, false, false, false, false] (by kernel_rfl) rfl rfl ⟨(blk_cell BK358.out 0).trans rfl, (blk_cell BK358.out 1).trans rfl, (blk_cell BK358.out 2).trans rfl⟩ (fun hHeld => ?_); refine with_tabW q_MoveParts.tab3 q_MoveParts.bits3 (fun HT_ HW_ => ?_)
 generalize w13.drew = w14 at HO352 BK358 HB hHeld ⊢
 refine pur 0 (some 43) (bm 15 1) HT_.out ?_
 refine pur 2 (some 45) (bm 15 5) HT_.out ?_
 refine pur 3 (some 46) (bm 15 13) HT_.out ?_
 refine pur 4 (some 47) (bm 15 29) HT_.out ?_
 refine pur 6 (some 49) (bm 15 93) HT_.out ?_
 refine tkp 5 (some 48) (bm 15 125) HT_.out HW_.out hHeld ?_
 refine tkp 7 (some 50) (bm 15 253) HT_.out HW_.out hHeld ?_
 refine join_ (σ := Nat) 2 #[true, true, true, true, true, true, true, true, true, true, true, true, true, false, false] (fun s_ => [(44, .agg #[.int .i64 t361, .int .i64 t362, .int .i64 t363, .int .i64 t364, .int .i64 t365]), (51, .tuple #[.agg #[.int .i64 t366, .int .i64 t367, .int .i64 t368, .int .i64 t369, .int .i64 t370, .int .i64 t371, .int .i64 t372], .int .i64 t373]), (13, .pointer (some ⟨s_, 0, none⟩)), (42, .tuple #[.agg #[.int .i64 t366, .int .i64 t367, .int .i64 t368, .int .i64 t369, .int .i64 t370, .int .i64 t371, .int .i64 t372], .int .i64 t373]), (52, .agg #[.int .i64 t366, .int .i64 t367, .int .i64 t368, .int .i64 t369, .int .i64 t370, .int .i64 t371, .int .i64 t372]), (53, .int .i64 t373)]) (fun s_ w' => (w'.cell? ⟨gb358, 0, none⟩ = some (.int .i64 t353) ∧ w'.cell? ⟨gb358, 1, none⟩ = some (.int .i64 t354) ∧ w'.cell? ⟨gb358, 2, none⟩ = some (.int .i64 t355)) ∧ (Kd.R (Kd.int .i64) 3 w' w.heap.size (fun _ => True) (.slice Ao12 t350.length co12) t350) ∧ (w'.heap[gb358]? = some (.cells #[.int .i64 t353, .int .i64 t354, .int .i64 t355] 29 (0, 0))) ∧ (w'.heap[s_]? = some (.cells #[.int .i64 0, .int .i64 0, .int .i64 0, .int .i64 0, .int .i64 0, .int .i64 0, .int .i64 0] 35 (0, 0))) ∧ (w.heap.size ≤ s_) ∧ (w.heap.size ≤ s_) ∧ (gb358 ≠ s_) ∧ (s_ ≠ gb358) ∧ (Below w.heap.size w w')) ?_ ?_
 rotate_left
 ·intro hCont
  refine two_ (i := 1) (j := 12) (Ni := some 44) (Nj := some 13) #[true, true, true, true, true, true, true, true, false, false, false, false, false, false, false] #[true, false, true, true, true, true, true, true, false, false, false, false, true, false, false] rfl rfl rfl rfl (two_of HT_.out (by kernel_rfl)) (by decide) (by decide) (fun K hK => ?_) (fun K hK => ?_)
  ·skip
   refine goes_ Try.func12 (by kernel_rfl) rfl #[.int .i64 t356] (by rfl) rfl rfl (by (try simp only [List.map_toArray, List.map_cons, List.map_nil]); first | done | rfl | (simp only [List.length_drop, List.length_take]; rfl)) ?_
   with_reducible refine (q_at.calls t356 t361 t362 t363 t364 t365 _ A6.out).mono ?_
   rintro e w15 ⟨rfl, hb⟩
   refine ⟨_, rfl, ?_⟩
   have n0_ := Aside0.mk (Kd.R_below (kdt HO352.out) hb)
   have n1_ := Aside0.mk (bkb BK358.out hb)
   have n2_ := Aside0.mk (bst HB.out hb)
   clear HO352
   clear BK358
   clear HB
   have HO352 := n0_
   have BK358 := n1_
   have HB := n2_
   clear n0_ n1_ n2_
   (try clear hb)
   (try clear hb2)
   (try clear hk)
   (try clear hi)
   refine hK.out _ _ ⟨(blk_cell BK358.out 0).trans rfl, (blk_cell BK358.out 1).trans rfl, (blk_cell BK358.out 2).trans rfl⟩ (fun hHeld => ?_)
   clear hK K
   refine norm_ (a' := ?_) ?_ ?_
   rotate_left
   ·show Act.put _ (some 44) _ = _
    simp only [Act.put, List.setIfInBounds_toArray, List.set_cons_zero, List.set_cons_succ, i64_w, i32_w]
    rfl
   refine two_ (i := 8) (j := 12) (Ni := some 51) (Nj := some 13) #[true, true, true, true, true, true, true, true, true, false, false, false, false, false, false] #[true, true, true, true, true, true, true, true, false, false, false, false, true, false, false] rfl rfl rfl rfl (two_of HT_.out (by kernel_rfl)) (by decide) (by decide) (fun K hK => ?_) (fun K hK => ?_)
   ·skip
    refine goes_ Try.func11 (by kernel_rfl) rfl #[.agg #[.int .i64 t361, .int .i64 t362, .int .i64 t363, .int .i64 t364, .int .i64 t365], .int .i64 t357, .int .i64 t359, .int .i64 t353, .int .i64 t354] (by rfl) rfl rfl (by (try simp only [List.map_toArray, List.map_cons, List.map_nil]); first | done | rfl | (simp only [List.length_drop, List.length_take]; rfl)) ?_
    with_reducible refine (move_Begin.calls k t361 t362 t363 t364 t365 t357 t359 t353 t354 t366 t367 t368 t369 t370 t371 t372 t373 _ A7.out).mono ?_
    rintro e w16 ⟨rfl, hb⟩
    refine ⟨_, rfl, ?_⟩
    have n0_ := Aside0.mk (Kd.R_below (kdt HO352.out) hb)
    have n1_ := Aside0.mk (bkb BK358.out hb)
    have n2_ := Aside0.mk (bst HB.out hb)
    clear HO352
    clear BK358
    clear HB
    have HO352 := n0_
    have BK358 := n1_
    have HB := n2_
    clear n0_ n1_ n2_
    (try clear hb)
    (try clear hb2)
    (try clear hk)
    (try clear hi)
    refine hK.out _ _ ⟨(blk_cell BK358.out 0).trans rfl, (blk_cell BK358.out 1).trans rfl, (blk_cell BK358.out 2).trans rfl⟩ (fun hHeld => ?_)
    clear hK K
    refine norm_ (a' := ?_) ?_ ?_
    rotate_left
    ·show Act.put _ (some 51) _ = _
     simp only [Act.put, List.setIfInBounds_toArray, List.set_cons_zero, List.set_cons_succ, i64_w, i32_w]
     rfl
    refine pur 9 (some 42) (bm 15 1023) HT_.out ?_
    refine pur 10 (some 52) (bm 15 2047) HT_.out ?_
    refine pur 11 (some 53) (bm 15 4095) HT_.out ?_
    refine one_ (i := 12) (N := some 13) (bm 15 8191) rfl rfl (one_of HT_.out (by kernel_rfl)) (by decide) (fun K hK => ?_)
    refine box_step ?hg (N := 13) ?hd (cs := #[.int .i64 0, .int .i64 0, .int .i64 0, .int .i64 0, .int .i64 0, .int .i64 0, .int .i64 0]) (t := 35) ?hr ?_; (case hd => rfl); (case hg => rfl); (case hr => first | (go_simp; done) | (go_simp; rfl))
    intro gb374 hg w17 hbox hb
    have n0_ := Aside0.mk (Kd.R_below (kdt HO352.out) hb)
    have n1_ := Aside0.mk (bkb BK358.out hb)
    have n2_ := Aside0.mk (bst HB.out hb)
    have n3_ := Aside0.mk (hbox)
    have n4_ := Aside0.mk (bge hg HB.out)
    have n5_ := Aside0.mk (bge hg HB.out)
    have n6_ := Aside0.mk ((bkl hg BK358.out))
    have n7_ := Aside0.mk ((bkg hg BK358.out))
    clear HO352
    clear BK358
    clear HB
    have HO352 := n0_
    have BK358 := n1_
    have HB := n2_
    have BK374 := n3_
    have GW374 := n4_
    have GE374 := n5_
    have NB358_374 := n6_
    have NB374_358 := n7_
    clear n0_ n1_ n2_ n3_ n4_ n5_ n6_ n7_
    clear hb hbox hg
    refine hK.out _ _ ⟨(blk_cell BK358.out 0).trans rfl, (blk_cell BK358.out 1).trans rfl, (blk_cell BK358.out 2).trans rfl⟩ (fun hHeld => ?_)
    clear hK K
    refine norm_ (a' := ?_) ?_ ?_
    rotate_left
    ·show Act.put _ (some 13) _ = _
     simp only [Act.put, List.setIfInBounds_toArray, List.set_cons_zero, List.set_cons_succ, i64_w, i32_w]
     rfl
    exact norm_ (by simp only [putAll, Act.put, List.setIfInBounds_toArray, List.set_cons_zero, List.set_cons_succ]) (hCont (gb374) _ ⟨hHeld, (kdt HO352.out), (bkt BK358.out), (bkt BK374.out), GW374.out, GE374.out, NB358_374.out, NB374_358.out, (bel HB.out)⟩)
   ·skip
    refine box_step ?hg (N := 13) ?hd (cs := #[.int .i64 0, .int .i64 0, .int .i64 0, .int .i64 0, .int .i64 0, .int .i64 0, .int .i64 0]) (t := 35) ?hr ?_; (case hd => rfl); (case hg => rfl); (case hr => first | (go_simp; done) | (go_simp; rfl))
    intro gb374 hg w16 hbox hb
    have n0_ := Aside0.mk (Kd.R_below (kdt HO352.out) hb)
    have n1_ := Aside0.mk (bkb BK358.out hb)
    have n2_ := Aside0.mk (bst HB.out hb)
    have n3_ := Aside0.mk (hbox)
    have n4_ := Aside0.mk (bge hg HB.out)
    have n5_ := Aside0.mk (bge hg HB.out)
    have n6_ := Aside0.mk ((bkl hg BK358.out))
    have n7_ := Aside0.mk ((bkg hg BK358.out))
    clear HO352
    clear BK358
    clear HB
    have HO352 := n0_
    have BK358 := n1_
    have HB := n2_
    have BK374 := n3_
    have GW374 := n4_
    have GE374 := n5_
    have NB358_374 := n6_
    have NB374_358 := n7_
    clear n0_ n1_ n2_ n3_ n4_ n5_ n6_ n7_
    clear hb hbox hg
    refine hK.out _ _ ⟨(blk_cell BK358.out 0).trans rfl, (blk_cell BK358.out 1).trans rfl, (blk_cell BK358.out 2).trans rfl⟩ (fun hHeld => ?_)
    clear hK K
    refine norm_ (a' := ?_) ?_ ?_
    rotate_left
    ·show Act.put _ (some 13) _ = _
     simp only [Act.put, List.setIfInBounds_toArray, List.set_cons_zero, List.set_cons_succ, i64_w, i32_w]
     rfl
    refine one_ (i := 8) (N := some 51) (bm 15 4607) rfl rfl (one_of HT_.out (by kernel_rfl)) (by decide) (fun K hK => ?_)
    refine goes_ Try.func11 (by kernel_rfl) rfl #[.agg #[.int .i64 t361, .int .i64 t362, .int .i64 t363, .int .i64 t364, .int .i64 t365], .int .i64 t357, .int .i64 t359, .int .i64 t353, .int .i64 t354] (by rfl) rfl rfl (by (try simp only [List.map_toArray, List.map_cons, List.map_nil]); first | done | rfl | (simp only [List.length_drop, List.length_take]; rfl)) ?_
    with_reducible refine (move_Begin.calls k t361 t362 t363 t364 t365 t357 t359 t353 t354 t366 t367 t368 t369 t370 t371 t372 t373 _ A7.out).mono ?_
    rintro e w17 ⟨rfl, hb⟩
    refine ⟨_, rfl, ?_⟩
    have n0_ := Aside0.mk (Kd.R_below (kdt HO352.out) hb)
    have n1_ := Aside0.mk (bkb BK358.out hb)
    have n2_ := Aside0.mk (bkb BK374.out hb)
    have n3_ := Aside0.mk (bst HB.out hb)
    clear HO352
    clear BK358
    clear BK374
    clear HB
    have HO352 := n0_
    have BK358 := n1_
    have BK374 := n2_
    have HB := n3_
    clear n0_ n1_ n2_ n3_
    (try clear hb)
    (try clear hb2)
    (try clear hk)
    (try clear hi)
    refine hK.out _ _ ⟨(blk_cell BK358.out 0).trans rfl, (blk_cell BK358.out 1).trans rfl, (blk_cell BK358.out 2).trans rfl⟩ (fun hHeld => ?_)
    clear hK K
    refine norm_ (a' := ?_) ?_ ?_
    rotate_left
    ·show Act.put _ (some 51) _ = _
     simp only [Act.put, List.setIfInBounds_toArray, List.set_cons_zero, List.set_cons_succ, i64_w, i32_w]
     rfl
    refine pur 9 (some 42) (bm 15 5119) HT_.out ?_
    refine pur 10 (some 52) (bm 15 6143) HT_.out ?_
    refine pur 11 (some 53) (bm 15 8191) HT_.out ?_
    exact norm_ (by simp only [putAll, Act.put, List.setIfInBounds_toArray, List.set_cons_zero, List.set_cons_succ]) (hCont (gb374) _ ⟨hHeld, (kdt HO352.out), (bkt BK358.out), (bkt BK374.out), GW374.out, GE374.out, NB358_374.out, NB374_358.out, (bel HB.out)⟩)
  ·skip
   refine box_step ?hg (N := 13) ?hd (cs := #[.int .i64 0, .int .i64 0, .int .i64 0, .int .i64 0, .int .i64 0, .int .i64 0, .int .i64 0]) (t := 35) ?hr ?_; (case hd => rfl); (case hg => rfl); (case hr => first | (go_simp; done) | (go_simp; rfl))
   intro gb374 hg w15 hbox hb
   have n0_ := Aside0.mk (Kd.R_below (kdt HO352.out) hb)
   have n1_ := Aside0.mk (bkb BK358.out hb)
   have n2_ := Aside0.mk (bst HB.out hb)
   have n3_ := Aside0.mk (hbox)
   have n4_ := Aside0.mk (bge hg HB.out)
   have n5_ := Aside0.mk (bge hg HB.out)
   have n6_ := Aside0.mk ((bkl hg BK358.out))
   have n7_ := Aside0.mk ((bkg hg BK358.out))
   clear HO352
   clear BK358
   clear HB
   have HO352 := n0_
   have BK358 := n1_
   have HB := n2_
   have BK374 := n3_
   have GW374 := n4_
   have GE374 := n5_
   have NB358_374 := n6_
   have NB374_358 := n7_
   clear n0_ n1_ n2_ n3_ n4_ n5_ n6_ n7_
   clear hb hbox hg
   refine hK.out _ _ ⟨(blk_cell BK358.out 0).trans rfl, (blk_cell BK358.out 1).trans rfl, (blk_cell BK358.out 2).trans rfl⟩ (fun hHeld => ?_)
   clear hK K
   refine norm_ (a' := ?_) ?_ ?_
   rotate_left
   ·show Act.put _ (some 13) _ = _
    simp only [Act.put, List.setIfInBounds_toArray, List.set_cons_zero, List.set_cons_succ, i64_w, i32_w]
    rfl
   refine one_ (i := 1) (N := some 44) (bm 15 4351) rfl rfl (one_of HT_.out (by kernel_rfl)) (by decide) (fun K hK => ?_)
   refine goes_ Try.func12 (by kernel_rfl) rfl #[.int .i64 t356] (by rfl) rfl rfl (by (try simp only [List.map_toArray, List.map_cons, List.map_nil]); first | done | rfl | (simp only [List.length_drop, List.length_take]; rfl)) ?_
   with_reducible refine (q_at.calls t356 t361 t362 t363 t364 t365 _ A6.out).mono ?_
   rintro e w16 ⟨rfl, hb⟩
   refine ⟨_, rfl, ?_⟩
   have n0_ := Aside0.mk (Kd.R_below (kdt HO352.out) hb)
   have n1_ := Aside0.mk (bkb BK358.out hb)
   have n2_ := Aside0.mk (bkb BK374.out hb)
   have n3_ := Aside0.mk (bst HB.out hb)
   clear HO352
   clear BK358
   clear BK374
   clear HB
   have HO352 := n0_
   have BK358 := n1_
   have BK374 := n2_
   have HB := n3_
   clear n0_ n1_ n2_ n3_
   (try clear hb)
   (try clear hb2)
   (try clear hk)
   (try clear hi)
   refine hK.out _ _ ⟨(blk_cell BK358.out 0).trans rfl, (blk_cell BK358.out 1).trans rfl, (blk_cell BK358.out 2).trans rfl⟩ (fun hHeld => ?_)
   clear hK K
   refine norm_ (a' := ?_) ?_ ?_
   rotate_left
   ·show Act.put _ (some 44) _ = _
    simp only [Act.put, List.setIfInBounds_toArray, List.set_cons_zero, List.set_cons_succ, i64_w, i32_w]
    rfl
   refine one_ (i := 8) (N := some 51) (bm 15 4607) rfl rfl (one_of HT_.out (by kernel_rfl)) (by decide) (fun K hK => ?_)
   refine goes_ Try.func11 (by kernel_rfl) rfl #[.agg #[.int .i64 t361, .int .i64 t362, .int .i64 t363, .int .i64 t364, .int .i64 t365], .int .i64 t357, .int .i64 t359, .int .i64 t353, .int .i64 t354] (by rfl) rfl rfl (by (try simp only [List.map_toArray, List.map_cons, List.map_nil]); first | done | rfl | (simp only [List.length_drop, List.length_take]; rfl)) ?_
   with_reducible refine (move_Begin.calls k t361 t362 t363 t364 t365 t357 t359 t353 t354 t366 t367 t368 t369 t370 t371 t372 t373 _ A7.out).mono ?_
   rintro e w17 ⟨rfl, hb⟩
   refine ⟨_, rfl, ?_⟩
   have n0_ := Aside0.mk (Kd.R_below (kdt HO352.out) hb)
   have n1_ := Aside0.mk (bkb BK358.out hb)
   have n2_ := Aside0.mk (bkb BK374.out hb)
   have n3_ := Aside0.mk (bst HB.out hb)
   clear HO352
   clear BK358
   clear BK374
   clear HB
   have HO352 := n0_
   have BK358 := n1_
   have BK374 := n2_
   have HB := n3_
   clear n0_ n1_ n2_ n3_
   (try clear hb)
   (try clear hb2)
   (try clear hk)
   (try clear hi)
   refine hK.out _ _ ⟨(blk_cell BK358.out 0).trans rfl, (blk_cell BK358.out 1).trans rfl, (blk_cell BK358.out 2).trans rfl⟩ (fun hHeld => ?_)
   clear hK K
   refine norm_ (a' := ?_) ?_ ?_
   rotate_left
   ·show Act.put _ (some 51) _ = _
    simp only [Act.put, List.setIfInBounds_toArray, List.set_cons_zero, List.set_cons_succ, i64_w, i32_w]
    rfl
   refine pur 9 (some 42) (bm 15 5119) HT_.out ?_
   refine pur 10 (some 52) (bm 15 6143) HT_.out ?_
   refine pur 11 (some 53) (bm 15 8191) HT_.out ?_
   exact norm_ (by simp only [putAll, Act.put, List.setIfInBounds_toArray, List.set_cons_zero, List.set_cons_succ]) (hCont (gb374) _ ⟨hHeld, (kdt HO352.out), (bkt BK358.out), (bkt BK374.out), GW374.out, GE374.out, NB358_374.out, NB374_358.out, (bel HB.out)⟩)
 rintro gb374 w18 ⟨hS_, h0_, h1_, h2_, h3_, h4_, h5_, h6_, h7_⟩
 have n0_ : Aside0 (Kd.R (Kd.int .i64) 3 w18 w.heap.size (fun _ => True) (.slice Ao12 t350.length co12) t350) := ⟨h0_⟩
 have n1_ : Aside0 (w18.heap[gb358]? = some (.cells #[.int .i64 t353, .int .i64 t354, .int .i64 t355] 29 (0, 0))) := ⟨h1_⟩
 have n2_ : Aside0 (w18.heap[gb374]? = some (.cells #[.int .i64 0, .int .i64 0, .int .i64 0, .int .i64 0, .int .i64 0, .int .i64 0, .int .i64 0] 35 (0, 0))) := ⟨h2_⟩
 have n3_ : Aside0 (w.heap.size ≤ gb374) := ⟨h3_⟩
 have n4_ : Aside0 (w.heap.size ≤ gb374) := ⟨h4_⟩
 have n5_ : Aside0 (gb358 ≠ gb374) := ⟨h5_⟩
 have n6_ : Aside0 (gb374 ≠ gb358) := ⟨h6_⟩
 have n7_ : Aside0 (Below w.heap.size w w18) := ⟨h7_⟩
 clear HO352
 clear BK358
 clear HB
 clear h0_ h1_ h2_ h3_ h4_ h5_ h6_ h7_
 have HO352 := n0_
 have BK358 := n1_
 have BK374 := n2_
 have GW374 := n3_
 have GE374 := n4_
 have NB358_374 := n5_
 have NB374_358 := n6_
 have HB := n7_
 clear n0_ n1_ n2_ n3_ n4_ n5_ n6_ n7_
 have hHeld : w18.cell? ⟨gb358, 0, none⟩ = some (.int .i64 t353) ∧ w18.cell? ⟨gb358, 1, none⟩ = some (.int .i64 t354) ∧ w18.cell? ⟨gb358, 2, none⟩ = some (.int .i64 t355) := hS_
 refine norm_ (a' := ?_) ?_ ?_
 rotate_left
 ·simp only [putAll, Act.put, List.setIfInBounds_toArray, List.set_cons_zero, List.set_cons_succ]
  rfl
 refine one_ (i := 13) (N := none) (bm 15 16383) rfl rfl (one_of HT_.out (by kernel_rfl)) (by decide) (fun K hK => ?_)
 have hs19 : w18.cell? ⟨gb374, 0, none⟩ = some (.int .i64 0) := (blk_cell BK374.out 0).trans rfl
 have hfs19 := blk_frozen BK374.out 0
 have hns19_0 := NB358_374.out
 have hms19_0 := NB374_358.out
 have hs20 : w18.cell? ⟨gb374, 1, none⟩ = some (.int .i64 0) := (blk_cell BK374.out 1).trans rfl
 have hfs20 := blk_frozen BK374.out 1
 have hns20_0 := NB358_374.out
 have hms20_0 := NB374_358.out
 have hs21 : w18.cell? ⟨gb374, 2, none⟩ = some (.int .i64 0) := (blk_cell BK374.out 2).trans rfl
 have hfs21 := blk_frozen BK374.out 2
 have hns21_0 := NB358_374.out
 have hms21_0 := NB374_358.out
 have hs22 : w18.cell? ⟨gb374, 3, none⟩ = some (.int .i64 0) := (blk_cell BK374.out 3).trans rfl
 have hfs22 := blk_frozen BK374.out 3
 have hns22_0 := NB358_374.out
 have hms22_0 := NB374_358.out
 have hs23 : w18.cell? ⟨gb374, 4, none⟩ = some (.int .i64 0) := (blk_cell BK374.out 4).trans rfl
 have hfs23 := blk_frozen BK374.out 4
 have hns23_0 := NB358_374.out
 have hms23_0 := NB374_358.out
 have hs24 : w18.cell? ⟨gb374, 5, none⟩ = some (.int .i64 0) := (blk_cell BK374.out 5).trans rfl
 have hfs24 := blk_frozen BK374.out 5
 have hns24_0 := NB358_374.out
 have hms24_0 := NB374_358.out
 have hs25 : w18.cell? ⟨gb374, 6, none⟩ = some (.int .i64 0) := (blk_cell BK374.out 6).trans rfl
 have hfs25 := blk_frozen BK374.out 6
 have hns25_0 := NB358_374.out
 have hms25_0 := NB374_358.out
 refine skip_ (w1 := ?_) (by rfl) rfl ?_ ?_
 rotate_left
 ·go_simp
  rfl
 refine hK.out _ _ ⟨(clr hHeld.1), (clr hHeld.2.1), (clr hHeld.2.2)⟩ (fun hHeld => ?_)
 clear hK K
 refine pur 14 (some 14) (bm 15 32767) HT_.out ?_
 refine done_ (done_of HT_.out (by kernel_rfl)) ?_
 go_upto_region 4 with (fail)
 go_cut [67] (fun v67 wc => ∃ (kq : Nat) (x67_7 : Bool), v67 = .bool x67_7 ∧ Aside0 (q_MoveParts.j0 kq a2 t359 x67_7 t353 t354 t355 t366 t367 t368 t369 t370 t371 t372 = some r) ∧ Aside0 (kq ≤ k) ∧ Aside0 (wc.heap[gb358]? = some (.cells #[.int .i64 t353, .int .i64 t354, .int .i64 t355] 29 (0, 0))) ∧ Aside0 (wc.heap[gb374]? = some (.cells #[.int .i64 t366, .int .i64 t367, .int .i64 t368, .int .i64 t369, .int .i64 t370, .int .i64 t371, .int .i64 t372] 35 (0, 0))) ∧ Aside0 (Below w.heap.size w wc))
 case first =>
  have H := HC8.out
  clear HC8
  by_cases c26 : t360 = 0
  ·rw [if_pos c26] at H
   have c26b0 : (t360 == 0) = true := beq_iff_eq.mpr c26
   have c26b1 : (t360 != 0) = false := bne_eq_false_iff_eq.mpr c26
   clear c26
   (first | rw [c26b0] | (simp only [i64_w, i32_w]; rw [c26b0]) | skip)
   by_cases c27 : t373 = 0
   ·rw [if_pos c27] at H
    have c27b0 : (t373 == 0) = true := beq_iff_eq.mpr c27
    have c27b1 : (t373 != 0) = false := bne_eq_false_iff_eq.mpr c27
    clear c27
    by_cases c28 : t359 < 0
    ·rw [if_pos c28] at H
     have c28b0 : decide (t359 < 0) = true := decide_eq_true c28
     clear c28
     have H' := Aside0.mk H
     clear H
     go_wp2
     go_meet
     case rel => exact ⟨_, (true), (by first | rfl | (simp; done) | (simp [*]; done)), H', ⟨by first | omega | exact Nat.le_refl _⟩, ⟨bkt BK358.out⟩, ⟨bkt BK374.out⟩, ⟨bel HB.out⟩⟩
    ·rw [if_neg c28] at H
     have c28b0 : decide (t359 < 0) = false := decide_eq_false c28
     clear c28
     have H' := Aside0.mk H
     clear H
     go_wp2
     go_meet
     case rel => exact ⟨_, (decide (t359 > 2000)), (by first | rfl | (simp; done) | (simp [*]; done)), H', ⟨by first | omega | exact Nat.le_refl _⟩, ⟨bkt BK358.out⟩, ⟨bkt BK374.out⟩, ⟨bel HB.out⟩⟩
   ·rw [if_neg c27] at H
    have c27b0 : (t373 == 0) = false := beq_eq_false_iff_ne.mpr c27
    have c27b1 : (t373 != 0) = true := bne_iff_ne.mpr c27
    have H' := Aside0.mk H
    clear H
    go_wp2
    go_meet
    case rel => exact ⟨_, (true), (by first | rfl | (simp; done) | (simp [*]; done)), H', ⟨by first | omega | exact Nat.le_refl _⟩, ⟨bkt BK358.out⟩, ⟨bkt BK374.out⟩, ⟨bel HB.out⟩⟩
  ·rw [if_neg c26] at H
   have c26b0 : (t360 == 0) = false := beq_eq_false_iff_ne.mpr c26
   have c26b1 : (t360 != 0) = true := bne_iff_ne.mpr c26
   (first | rw [c26b0] | (simp only [i64_w, i32_w]; rw [c26b0]) | skip)
   have H' := Aside0.mk H
   clear H
   go_wp2
   go_meet
   case rel => exact ⟨_, (true), (by first | rfl | (simp; done) | (simp [*]; done)), H', ⟨by first | omega | exact Nat.le_refl _⟩, ⟨bkt BK358.out⟩, ⟨bkt BK374.out⟩, ⟨bel HB.out⟩⟩
 case rest =>
  clear HC8
  try clear c1
  try clear c2
  try clear p2
  try clear c5
  try clear c8
  try clear c10
  try clear c11
  try clear c12
  try clear c26
  try clear c26b0
  try clear c26b1
  try clear c27
  try clear c27b0
  try clear c27b1
  try clear c28
  try clear c28b0
  try clear hcz11_0
  try clear hfz11_0
  obtain ⟨kq, x67_7, rfl, HA, HJ7, BK358, BK374, HB⟩ := hcut
  cases kq with
  | zero => exact absurd HA.out (by simp [q_MoveParts.j0])
  | succ kj7 =>
   have H := HA.out
   clear HA
   simp only [q_MoveParts.j0] at H
   by_cases c29 : x67_7 = true
   ·subst c29
    have H1 : (none) = some r := by rw [if_pos rfl] at H; exact H
    clear H
    have H := H1
    clear H1
    exact absurd H (by simp)
   ·replace c29 := Bool.eq_false_iff.mpr c29
    subst c29
    have H1 : ((kit_Mod.f a2 (wrap64 (t359 + 1))).bind fun t375 => ((move_Run.f t366 t367 t368 t369 t370 t371 t372 t353 t354 t375).bind fun bt376 => ((move_Run.f bt376.1 bt376.2.1 bt376.2.2.1 bt376.2.2.2.1 bt376.2.2.2.2.1 bt376.2.2.2.2.2.1 bt376.2.2.2.2.2.2.1 t353 t354 (wrap64 (t359 - t375))).bind fun bt386 => ((move_Run.f t366 t367 t368 t369 t370 t371 t372 t353 t354 t359).bind fun bt396 => (if bt376.2.2.2.2.2.2.2.2 = 0 then (if bt386.2.2.2.2.2.2.2.2 = 0 then (if bt396.2.2.2.2.2.2.2.2 = 0 then (if ((!(bt386.1 == bt396.1) || (!(bt386.2.1 == bt396.2.1) || (!(bt386.2.2.1 == bt396.2.2.1) || (!(bt386.2.2.2.1 == bt396.2.2.2.1) || (!(bt386.2.2.2.2.1 == bt396.2.2.2.2.1)))))) || (!(bt386.2.2.2.2.2.1 == bt396.2.2.2.2.2.1) || (!(bt386.2.2.2.2.2.2.1 == bt396.2.2.2.2.2.2.1)))) = true then (q_MoveParts.j1 kj7 t359 t375 true t353 t354 t355 bt376.1 bt376.2.1 bt376.2.2.1 bt376.2.2.2.1 bt376.2.2.2.2.1 bt376.2.2.2.2.2.1 bt376.2.2.2.2.2.2.1) else (q_MoveParts.j1 kj7 t359 t375 ((wrap64 (bt376.2.2.2.2.2.2.2.1 + bt386.2.2.2.2.2.2.2.1)) != bt396.2.2.2.2.2.2.2.1) t353 t354 t355 bt376.1 bt376.2.1 bt376.2.2.1 bt376.2.2.2.1 bt376.2.2.2.2.1 bt376.2.2.2.2.2.1 bt376.2.2.2.2.2.2.1)) else (q_MoveParts.j1 kj7 t359 t375 true t353 t354 t355 bt376.1 bt376.2.1 bt376.2.2.1 bt376.2.2.2.1 bt376.2.2.2.2.1 bt376.2.2.2.2.2.1 bt376.2.2.2.2.2.2.1)) else (q_MoveParts.j1 kj7 t359 t375 true t353 t354 t355 bt376.1 bt376.2.1 bt376.2.2.1 bt376.2.2.2.1 bt376.2.2.2.2.1 bt376.2.2.2.2.2.1 bt376.2.2.2.2.2.2.1)) else (q_MoveParts.j1 kj7 t359 t375 true t353 t354 t355 bt376.1 bt376.2.1 bt376.2.2.1 bt376.2.2.2.1 bt376.2.2.2.2.1 bt376.2.2.2.2.2.1 bt376.2.2.2.2.2.2.1)))))) = some r := by rw [if_neg (show ¬ (false = true) by decide)] at H; exact H
    clear H
    have H := H1
    clear H1
    replace H := Option.bind_eq_some_iff.mp H
    obtain ⟨t375, A300, H⟩ := H
    replace H : ((move_Run.f t366 t367 t368 t369 t370 t371 t372 t353 t354 t375).bind fun bt376 => ((move_Run.f bt376.1 bt376.2.1 bt376.2.2.1 bt376.2.2.2.1 bt376.2.2.2.2.1 bt376.2.2.2.2.2.1 bt376.2.2.2.2.2.2.1 t353 t354 (wrap64 (t359 - t375))).bind fun bt386 => ((move_Run.f t366 t367 t368 t369 t370 t371 t372 t353 t354 t359).bind fun bt396 => (if bt376.2.2.2.2.2.2.2.2 = 0 then (if bt386.2.2.2.2.2.2.2.2 = 0 then (if bt396.2.2.2.2.2.2.2.2 = 0 then (if ((!(bt386.1 == bt396.1) || (!(bt386.2.1 == bt396.2.1) || (!(bt386.2.2.1 == bt396.2.2.1) || (!(bt386.2.2.2.1 == bt396.2.2.2.1) || (!(bt386.2.2.2.2.1 == bt396.2.2.2.2.1)))))) || (!(bt386.2.2.2.2.2.1 == bt396.2.2.2.2.2.1) || (!(bt386.2.2.2.2.2.2.1 == bt396.2.2.2.2.2.2.1)))) = true then (q_MoveParts.j1 kj7 t359 t375 true t353 t354 t355 bt376.1 bt376.2.1 bt376.2.2.1 bt376.2.2.2.1 bt376.2.2.2.2.1 bt376.2.2.2.2.2.1 bt376.2.2.2.2.2.2.1) else (q_MoveParts.j1 kj7 t359 t375 ((wrap64 (bt376.2.2.2.2.2.2.2.1 + bt386.2.2.2.2.2.2.2.1)) != bt396.2.2.2.2.2.2.2.1) t353 t354 t355 bt376.1 bt376.2.1 bt376.2.2.1 bt376.2.2.2.1 bt376.2.2.2.2.1 bt376.2.2.2.2.2.1 bt376.2.2.2.2.2.2.1)) else (q_MoveParts.j1 kj7 t359 t375 true t353 t354 t355 bt376.1 bt376.2.1 bt376.2.2.1 bt376.2.2.2.1 bt376.2.2.2.2.1 bt376.2.2.2.2.2.1 bt376.2.2.2.2.2.2.1)) else (q_MoveParts.j1 kj7 t359 t375 true t353 t354 t355 bt376.1 bt376.2.1 bt376.2.2.1 bt376.2.2.2.1 bt376.2.2.2.2.1 bt376.2.2.2.2.2.1 bt376.2.2.2.2.2.2.1)) else (q_MoveParts.j1 kj7 t359 t375 true t353 t354 t355 bt376.1 bt376.2.1 bt376.2.2.1 bt376.2.2.2.1 bt376.2.2.2.2.1 bt376.2.2.2.2.2.1 bt376.2.2.2.2.2.2.1))))) = some r := H
    have A30 := Aside0.mk A300
    clear A300
    replace H := Option.bind_eq_some_iff.mp H
    obtain ⟨⟨t376, t377, t378, t379, t380, t381, t382, t383, t384⟩, A310, H⟩ := H
    replace H : ((move_Run.f t376 t377 t378 t379 t380 t381 t382 t353 t354 (wrap64 (t359 - t375))).bind fun bt386 => ((move_Run.f t366 t367 t368 t369 t370 t371 t372 t353 t354 t359).bind fun bt396 => (if t384 = 0 then (if bt386.2.2.2.2.2.2.2.2 = 0 then (if bt396.2.2.2.2.2.2.2.2 = 0 then (if ((!(bt386.1 == bt396.1) || (!(bt386.2.1 == bt396.2.1) || (!(bt386.2.2.1 == bt396.2.2.1) || (!(bt386.2.2.2.1 == bt396.2.2.2.1) || (!(bt386.2.2.2.2.1 == bt396.2.2.2.2.1)))))) || (!(bt386.2.2.2.2.2.1 == bt396.2.2.2.2.2.1) || (!(bt386.2.2.2.2.2.2.1 == bt396.2.2.2.2.2.2.1)))) = true then (q_MoveParts.j1 kj7 t359 t375 true t353 t354 t355 t376 t377 t378 t379 t380 t381 t382) else (q_MoveParts.j1 kj7 t359 t375 ((wrap64 (t383 + bt386.2.2.2.2.2.2.2.1)) != bt396.2.2.2.2.2.2.2.1) t353 t354 t355 t376 t377 t378 t379 t380 t381 t382)) else (q_MoveParts.j1 kj7 t359 t375 true t353 t354 t355 t376 t377 t378 t379 t380 t381 t382)) else (q_MoveParts.j1 kj7 t359 t375 true t353 t354 t355 t376 t377 t378 t379 t380 t381 t382)) else (q_MoveParts.j1 kj7 t359 t375 true t353 t354 t355 t376 t377 t378 t379 t380 t381 t382)))) = some r := H
    have A31 := Aside0.mk A310
    clear A310
    replace H := Option.bind_eq_some_iff.mp H
    obtain ⟨⟨t386, t387, t388, t389, t390, t391, t392, t393, t394⟩, A320, H⟩ := H
    replace H : ((move_Run.f t366 t367 t368 t369 t370 t371 t372 t353 t354 t359).bind fun bt396 => (if t384 = 0 then (if t394 = 0 then (if bt396.2.2.2.2.2.2.2.2 = 0 then (if ((!(t386 == bt396.1) || (!(t387 == bt396.2.1) || (!(t388 == bt396.2.2.1) || (!(t389 == bt396.2.2.2.1) || (!(t390 == bt396.2.2.2.2.1)))))) || (!(t391 == bt396.2.2.2.2.2.1) || (!(t392 == bt396.2.2.2.2.2.2.1)))) = true then (q_MoveParts.j1 kj7 t359 t375 true t353 t354 t355 t376 t377 t378 t379 t380 t381 t382) else (q_MoveParts.j1 kj7 t359 t375 ((wrap64 (t383 + t393)) != bt396.2.2.2.2.2.2.2.1) t353 t354 t355 t376 t377 t378 t379 t380 t381 t382)) else (q_MoveParts.j1 kj7 t359 t375 true t353 t354 t355 t376 t377 t378 t379 t380 t381 t382)) else (q_MoveParts.j1 kj7 t359 t375 true t353 t354 t355 t376 t377 t378 t379 t380 t381 t382)) else (q_MoveParts.j1 kj7 t359 t375 true t353 t354 t355 t376 t377 t378 t379 t380 t381 t382))) = some r := H
    have A32 := Aside0.mk A320
    clear A320
    replace H := Option.bind_eq_some_iff.mp H
    obtain ⟨⟨t396, t397, t398, t399, t400, t401, t402, t403, t404⟩, A330, H⟩ := H
    replace H : (if t384 = 0 then (if t394 = 0 then (if t404 = 0 then (if ((!(t386 == t396) || (!(t387 == t397) || (!(t388 == t398) || (!(t389 == t399) || (!(t390 == t400)))))) || (!(t391 == t401) || (!(t392 == t402)))) = true then (q_MoveParts.j1 kj7 t359 t375 true t353 t354 t355 t376 t377 t378 t379 t380 t381 t382) else (q_MoveParts.j1 kj7 t359 t375 ((wrap64 (t383 + t393)) != t403) t353 t354 t355 t376 t377 t378 t379 t380 t381 t382)) else (q_MoveParts.j1 kj7 t359 t375 true t353 t354 t355 t376 t377 t378 t379 t380 t381 t382)) else (q_MoveParts.j1 kj7 t359 t375 true t353 t354 t355 t376 t377 t378 t379 t380 t381 t382)) else (q_MoveParts.j1 kj7 t359 t375 true t353 t354 t355 t376 t377 t378 t379 t380 t381 t382)) = some r := H
    have A33 := Aside0.mk A330
    clear A330
    have HC34 := Aside0.mk H
    clear H
    go_upto_region 10 with (first | ((with_reducible refine gate_callee (f := 17) rfl ?_); refine gsl (some 71) Try.func17 #[.int .i64 a2, .int .i64 (wrap64 (t359 + 1))] ?_; (with_reducible refine (kit_Mod.calls a2 (wrap64 (t359 + 1)) t375 _ A30.out).mono ?_); rintro e w' ⟨rfl, ⟨nd, rfl⟩⟩; refine ⟨_, rfl, ?_⟩; (try (rw [drewN_self wc]; generalize hq_ : World.drewN wc _ = wc; have n0_ : Aside0 (wc.heap[gb358]? = some (.cells #[.int .i64 t353, .int .i64 t354, .int .i64 t355] 29 (0, 0))) := ⟨by rw [← hq_]; exact (bkt BK358.out)⟩; have n1_ : Aside0 (wc.heap[gb374]? = some (.cells #[.int .i64 t366, .int .i64 t367, .int .i64 t368, .int .i64 t369, .int .i64 t370, .int .i64 t371, .int .i64 t372] 35 (0, 0))) := ⟨by rw [← hq_]; exact (bkt BK374.out)⟩; have n2_ : Aside0 (Below w.heap.size w wc) := ⟨by rw [← hq_]; exact (bel HB.out)⟩; clear BK358 BK374 HB hq_; have BK358 := n0_; have BK374 := n1_; have HB := n2_; clear n0_ n1_ n2_)); have hnb35 := NB374_358.out; have hnc35 := NB358_374.out; have hcz36_0 := cz7 BK374.out; have hfz36_0 := blk_frozen BK374.out; have hcz37_0 := cz3 BK358.out; have hfz37_0 := blk_frozen BK358.out) | ((with_reducible refine gate_callee (f := 18) rfl ?_); refine gsl (some 79) Try.func18 #[.agg #[.int .i64 t366, .int .i64 t367, .int .i64 t368, .int .i64 t369, .int .i64 t370, .int .i64 t371, .int .i64 t372], .int .i64 t353, .int .i64 t354, .int .i64 t375] ?_; (with_reducible refine (move_Run.calls t366 t367 t368 t369 t370 t371 t372 t353 t354 t375 t376 t377 t378 t379 t380 t381 t382 t383 t384 _ A31.out).mono ?_); rintro e w38 ⟨rfl, hb⟩; refine ⟨_, rfl, ?_⟩; replace BK358 := Aside0.mk (bkb BK358.out hb); replace BK374 := Aside0.mk (bkb BK374.out hb); replace HB := Aside0.mk (bst HB.out hb); (try clear hb); (try clear hb2); (try clear hk); (try clear hi)) | ((with_reducible refine gate_dst (N := 16) rfl ?_); refine bxe (cs := #[.int .i64 0, .int .i64 0, .int .i64 0, .int .i64 0, .int .i64 0, .int .i64 0, .int .i64 0]) (t := 35) ?_; intro gb385 hg w39 hbox hb; have BK385 := Aside0.mk (hbox); have GW385 := Aside0.mk (bge hg HB.out); have GE385 := Aside0.mk (bge hg HB.out); have NB358_385 := Aside0.mk ((bkl hg BK358.out)); have NB385_358 := Aside0.mk ((bkg hg BK358.out)); have NB374_385 := Aside0.mk ((bkl hg BK374.out)); have NB385_374 := Aside0.mk ((bkg hg BK374.out)); replace BK358 := Aside0.mk (bkb BK358.out hb); replace BK374 := Aside0.mk (bkb BK374.out hb); replace HB := Aside0.mk (bst HB.out hb); clear hb hbox hg; have hnb40 := NB385_358.out; have hnc40 := NB358_385.out; have hnb41 := NB385_374.out; have hnc41 := NB374_385.out; have hcz42_0 := cz7 BK385.out; have hfz42_0 := blk_frozen BK385.out; have hcz43_0 := cz3 BK358.out; have hfz43_0 := blk_frozen BK358.out) | ((with_reducible refine gate_callee (f := 18) rfl ?_); refine gsl (some 92) Try.func18 #[.agg #[.int .i64 t376, .int .i64 t377, .int .i64 t378, .int .i64 t379, .int .i64 t380, .int .i64 t381, .int .i64 t382], .int .i64 t353, .int .i64 t354, .int .i64 (wrap64 (t359 - t375))] ?_; (with_reducible refine (move_Run.calls t376 t377 t378 t379 t380 t381 t382 t353 t354 (wrap64 (t359 - t375)) t386 t387 t388 t389 t390 t391 t392 t393 t394 _ A32.out).mono ?_); rintro e w44 ⟨rfl, hb⟩; refine ⟨_, rfl, ?_⟩; replace BK358 := Aside0.mk (bkb BK358.out hb); replace BK374 := Aside0.mk (bkb BK374.out hb); replace BK385 := Aside0.mk (blk_below (g := gb385) (o := .cells #[.int .i64 t376, .int .i64 t377, .int .i64 t378, .int .i64 t379, .int .i64 t380, .int .i64 t381, .int .i64 t382] 35 (0, 0)) (bkt BK385.out) hb); replace HB := Aside0.mk (bst HB.out hb); (try clear hb); (try clear hb2); (try clear hk); (try clear hi)) | ((with_reducible refine gate_dst (N := 18) rfl ?_); refine bxe (cs := #[.int .i64 0, .int .i64 0, .int .i64 0, .int .i64 0, .int .i64 0, .int .i64 0, .int .i64 0]) (t := 35) ?_; intro gb395 hg w45 hbox hb; have BK395 := Aside0.mk (hbox); have GW395 := Aside0.mk (bge hg HB.out); have GE395 := Aside0.mk (bge hg HB.out); have NB358_395 := Aside0.mk ((bkl hg BK358.out)); have NB395_358 := Aside0.mk ((bkg hg BK358.out)); have NB374_395 := Aside0.mk ((bkl hg BK374.out)); have NB395_374 := Aside0.mk ((bkg hg BK374.out)); have NB385_395 := Aside0.mk ((bkl hg BK385.out)); have NB395_385 := Aside0.mk ((bkg hg BK385.out)); replace BK358 := Aside0.mk (bkb BK358.out hb); replace BK374 := Aside0.mk (bkb BK374.out hb); replace BK385 := Aside0.mk (bkb BK385.out hb); replace HB := Aside0.mk (bst HB.out hb); clear hb hbox hg; have hnb46 := NB395_358.out; have hnc46 := NB358_395.out; have hnb47 := NB395_374.out; have hnc47 := NB374_395.out; have hnb48 := NB395_385.out; have hnc48 := NB385_395.out; have hcz49_0 := cz7 BK395.out; have hfz49_0 := blk_frozen BK395.out; have hcz50_0 := cz7 BK374.out; have hfz50_0 := blk_frozen BK374.out; have hcz51_0 := cz3 BK358.out; have hfz51_0 := blk_frozen BK358.out) | ((with_reducible refine gate_callee (f := 18) rfl ?_); refine gsl (some 103) Try.func18 #[.agg #[.int .i64 t366, .int .i64 t367, .int .i64 t368, .int .i64 t369, .int .i64 t370, .int .i64 t371, .int .i64 t372], .int .i64 t353, .int .i64 t354, .int .i64 t359] ?_; (with_reducible refine (move_Run.calls t366 t367 t368 t369 t370 t371 t372 t353 t354 t359 t396 t397 t398 t399 t400 t401 t402 t403 t404 _ A33.out).mono ?_); rintro e w52 ⟨rfl, hb⟩; refine ⟨_, rfl, ?_⟩; replace BK358 := Aside0.mk (bkb BK358.out hb); replace BK374 := Aside0.mk (bkb BK374.out hb); replace BK385 := Aside0.mk (bkb BK385.out hb); replace BK395 := Aside0.mk (blk_below (g := gb395) (o := .cells #[.int .i64 t386, .int .i64 t387, .int .i64 t388, .int .i64 t389, .int .i64 t390, .int .i64 t391, .int .i64 t392] 35 (0, 0)) (bkt BK395.out) hb); replace HB := Aside0.mk (bst HB.out hb); (try clear hb); (try clear hb2); (try clear hk); (try clear hi)) | ((with_reducible refine gate_dst (N := 20) rfl ?_); refine bxe (cs := #[.int .i64 0, .int .i64 0, .int .i64 0, .int .i64 0, .int .i64 0, .int .i64 0, .int .i64 0]) (t := 35) ?_; intro gb405 hg w53 hbox hb; have BK405 := Aside0.mk (hbox); have GW405 := Aside0.mk (bge hg HB.out); have GE405 := Aside0.mk (bge hg HB.out); have NB358_405 := Aside0.mk ((bkl hg BK358.out)); have NB405_358 := Aside0.mk ((bkg hg BK358.out)); have NB374_405 := Aside0.mk ((bkl hg BK374.out)); have NB405_374 := Aside0.mk ((bkg hg BK374.out)); have NB385_405 := Aside0.mk ((bkl hg BK385.out)); have NB405_385 := Aside0.mk ((bkg hg BK385.out)); have NB395_405 := Aside0.mk ((bkl hg BK395.out)); have NB405_395 := Aside0.mk ((bkg hg BK395.out)); replace BK358 := Aside0.mk (bkb BK358.out hb); replace BK374 := Aside0.mk (bkb BK374.out hb); replace BK385 := Aside0.mk (bkb BK385.out hb); replace BK395 := Aside0.mk (bkb BK395.out hb); replace HB := Aside0.mk (bst HB.out hb); clear hb hbox hg; have hnb54 := NB405_358.out; have hnc54 := NB358_405.out; have hnb55 := NB405_374.out; have hnc55 := NB374_405.out; have hnb56 := NB405_385.out; have hnc56 := NB385_405.out; have hnb57 := NB405_395.out; have hnc57 := NB395_405.out; have hcz58_0 := cz7 BK405.out; have hfz58_0 := blk_frozen BK405.out))
    (try simp only [Act.put, List.setIfInBounds_toArray, List.set_cons_zero, List.set_cons_succ])
    go_cut [128] (fun v128 wc => ∃ (kq : Nat) (x128_33 : Bool), v128 = .bool x128_33 ∧ Aside0 (q_MoveParts.j1 kq t359 t375 x128_33 t353 t354 t355 t376 t377 t378 t379 t380 t381 t382 = some r) ∧ Aside0 (kq ≤ kj7) ∧ Aside0 (wc.heap[gb358]? = some (.cells #[.int .i64 t353, .int .i64 t354, .int .i64 t355] 29 (0, 0))) ∧ Aside0 (wc.heap[gb374]? = some (.cells #[.int .i64 t366, .int .i64 t367, .int .i64 t368, .int .i64 t369, .int .i64 t370, .int .i64 t371, .int .i64 t372] 35 (0, 0))) ∧ Aside0 (wc.heap[gb385]? = some (.cells #[.int .i64 t376, .int .i64 t377, .int .i64 t378, .int .i64 t379, .int .i64 t380, .int .i64 t381, .int .i64 t382] 35 (0, 0))) ∧ Aside0 (wc.heap[gb395]? = some (.cells #[.int .i64 t386, .int .i64 t387, .int .i64 t388, .int .i64 t389, .int .i64 t390, .int .i64 t391, .int .i64 t392] 35 (0, 0))) ∧ Aside0 (wc.heap[gb405]? = some (.cells #[.int .i64 t396, .int .i64 t397, .int .i64 t398, .int .i64 t399, .int .i64 t400, .int .i64 t401, .int .i64 t402] 35 (0, 0))) ∧ Aside0 (Below w.heap.size w wc))
    case first =>
     have H := HC34.out
     clear HC34
     by_cases c59 : t384 = 0
     ·rw [if_pos c59] at H
      have c59b0 : (t384 == 0) = true := beq_iff_eq.mpr c59
      have c59b1 : (t384 != 0) = false := bne_eq_false_iff_eq.mpr c59
      clear c59
      (first | rw [c59b0] | (simp only [i64_w, i32_w]; rw [c59b0]) | skip)
      by_cases c60 : t394 = 0
      ·rw [if_pos c60] at H
       have c60b0 : (t394 == 0) = true := beq_iff_eq.mpr c60
       have c60b1 : (t394 != 0) = false := bne_eq_false_iff_eq.mpr c60
       clear c60
       by_cases c61 : t404 = 0
       ·rw [if_pos c61] at H
        have c61b0 : (t404 == 0) = true := beq_iff_eq.mpr c61
        have c61b1 : (t404 != 0) = false := bne_eq_false_iff_eq.mpr c61
        clear c61
        by_cases c62 : ((!(t386 == t396) || (!(t387 == t397) || (!(t388 == t398) || (!(t389 == t399) || (!(t390 == t400)))))) || (!(t391 == t401) || (!(t392 == t402)))) = true
        ·rw [if_pos c62] at H
         have c62b0 : ((!(t386 == t396) || (!(t387 == t397) || (!(t388 == t398) || (!(t389 == t399) || (!(t390 == t400)))))) || (!(t391 == t401) || (!(t392 == t402)))) = true := c62
         clear c62
         have H' := Aside0.mk H
         clear H
         have hnb63 := NB395_358.out
         have hnc63 := NB358_395.out
         have hnb64 := NB395_374.out
         have hnc64 := NB374_395.out
         have hnb65 := NB395_385.out
         have hnc65 := NB385_395.out
         have hnb66 := NB395_405.out
         have hnc66 := NB405_395.out
         have hcz67_0 := cz7 BK395.out
         have hfz67_0 := blk_frozen BK395.out
         have hnb68 := NB405_358.out
         have hnc68 := NB358_405.out
         have hnb69 := NB405_374.out
         have hnc69 := NB374_405.out
         have hnb70 := NB405_385.out
         have hnc70 := NB385_405.out
         have hcz71_0 := cz7 BK405.out
         have hfz71_0 := blk_frozen BK405.out
         go_wp2
         go_meet
         case rel => exact ⟨_, (true), (by first | rfl | (simp; done) | (simp [*]; done)), H', ⟨by have := HJ7.out; first | omega | exact Nat.le_refl _⟩, ⟨bkt BK358.out⟩, ⟨bkt BK374.out⟩, ⟨bkt BK385.out⟩, ⟨bkt BK395.out⟩, ⟨bkt BK405.out⟩, ⟨bel HB.out⟩⟩
        ·rw [if_neg c62] at H
         have c62b0 : ((!(t386 == t396) || (!(t387 == t397) || (!(t388 == t398) || (!(t389 == t399) || (!(t390 == t400)))))) || (!(t391 == t401) || (!(t392 == t402)))) = false := by simpa using c62
         clear c62
         have H' := Aside0.mk H
         clear H
         have hnb72 := NB395_358.out
         have hnc72 := NB358_395.out
         have hnb73 := NB395_374.out
         have hnc73 := NB374_395.out
         have hnb74 := NB395_385.out
         have hnc74 := NB385_395.out
         have hnb75 := NB395_405.out
         have hnc75 := NB405_395.out
         have hcz76_0 := cz7 BK395.out
         have hfz76_0 := blk_frozen BK395.out
         have hnb77 := NB405_358.out
         have hnc77 := NB358_405.out
         have hnb78 := NB405_374.out
         have hnc78 := NB374_405.out
         have hnb79 := NB405_385.out
         have hnc79 := NB385_405.out
         have hcz80_0 := cz7 BK405.out
         have hfz80_0 := blk_frozen BK405.out
         go_wp2
         go_meet
         case rel => exact ⟨_, (((wrap64 (t383 + t393)) != t403)), (by first | rfl | (simp; done) | (simp [*]; done)), H', ⟨by have := HJ7.out; first | omega | exact Nat.le_refl _⟩, ⟨bkt BK358.out⟩, ⟨bkt BK374.out⟩, ⟨bkt BK385.out⟩, ⟨bkt BK395.out⟩, ⟨bkt BK405.out⟩, ⟨bel HB.out⟩⟩
       ·rw [if_neg c61] at H
        have c61b0 : (t404 == 0) = false := beq_eq_false_iff_ne.mpr c61
        have c61b1 : (t404 != 0) = true := bne_iff_ne.mpr c61
        have H' := Aside0.mk H
        clear H
        go_wp2
        go_meet
        case rel => exact ⟨_, (true), (by first | rfl | (simp; done) | (simp [*]; done)), H', ⟨by have := HJ7.out; first | omega | exact Nat.le_refl _⟩, ⟨bkt BK358.out⟩, ⟨bkt BK374.out⟩, ⟨bkt BK385.out⟩, ⟨bkt BK395.out⟩, ⟨bkt BK405.out⟩, ⟨bel HB.out⟩⟩
      ·rw [if_neg c60] at H
       have c60b0 : (t394 == 0) = false := beq_eq_false_iff_ne.mpr c60
       have c60b1 : (t394 != 0) = true := bne_iff_ne.mpr c60
       have H' := Aside0.mk H
       clear H
       go_wp2
       go_meet
       case rel => exact ⟨_, (true), (by first | rfl | (simp; done) | (simp [*]; done)), H', ⟨by have := HJ7.out; first | omega | exact Nat.le_refl _⟩, ⟨bkt BK358.out⟩, ⟨bkt BK374.out⟩, ⟨bkt BK385.out⟩, ⟨bkt BK395.out⟩, ⟨bkt BK405.out⟩, ⟨bel HB.out⟩⟩
     ·rw [if_neg c59] at H
      have c59b0 : (t384 == 0) = false := beq_eq_false_iff_ne.mpr c59
      have c59b1 : (t384 != 0) = true := bne_iff_ne.mpr c59
      (first | rw [c59b0] | (simp only [i64_w, i32_w]; rw [c59b0]) | skip)
      have H' := Aside0.mk H
      clear H
      go_wp2
      go_meet
      case rel => exact ⟨_, (true), (by first | rfl | (simp; done) | (simp [*]; done)), H', ⟨by have := HJ7.out; first | omega | exact Nat.le_refl _⟩, ⟨bkt BK358.out⟩, ⟨bkt BK374.out⟩, ⟨bkt BK385.out⟩, ⟨bkt BK395.out⟩, ⟨bkt BK405.out⟩, ⟨bel HB.out⟩⟩
    case rest =>
     clear HC34
     try clear c1
     try clear c2
     try clear p2
     try clear c3
     try clear c4
     try clear c5
     try clear c6
     try clear p6
     try clear c7
     try clear c8
     try clear c10
     try clear c11
     try clear c12
     try clear c17
     try clear c18
     try clear c26
     try clear c26b0
     try clear c26b1
     try clear c27
     try clear c27b0
     try clear c27b1
     try clear c28
     try clear c28b0
     try clear c29
     try clear c35
     try clear c40
     try clear c41
     try clear c46
     try clear c47
     try clear c48
     try clear c54
     try clear c55
     try clear c56
     try clear c57
     try clear c59
     try clear c59b0
     try clear c59b1
     try clear c60
     try clear c60b0
     try clear c60b1
     try clear c61
     try clear c61b0
     try clear c61b1
     try clear c62
     try clear c62b0
     try clear c63
     try clear c64
     try clear p64
     try clear c65
     try clear c66
     try clear c68
     try clear c69
     try clear c70
     try clear c72
     try clear c73
     try clear c74
     try clear c75
     try clear c77
     try clear c78
     try clear c79
     try clear hcz11_0
     try clear hcz36_0
     try clear hcz37_0
     try clear hcz42_0
     try clear hcz43_0
     try clear hcz49_0
     try clear hcz50_0
     try clear hcz51_0
     try clear hcz58_0
     try clear hcz67_0
     try clear hcz71_0
     try clear hcz76_0
     try clear hcz80_0
     try clear hfz11_0
     try clear hfz36_0
     try clear hfz37_0
     try clear hfz42_0
     try clear hfz43_0
     try clear hfz49_0
     try clear hfz50_0
     try clear hfz51_0
     try clear hfz58_0
     try clear hfz67_0
     try clear hfz71_0
     try clear hfz76_0
     try clear hfz80_0
     try clear p2
     obtain ⟨kq, x128_33, rfl, HA, HJ33, BK358, BK374, BK385, BK395, BK405, HB⟩ := hcut
     cases kq with
     | zero => exact absurd HA.out (by simp [q_MoveParts.j1])
     | succ kj33 =>
      have H := HA.out
      clear HA
      simp only [q_MoveParts.j1] at H
      by_cases c81 : x128_33 = true
      ·subst c81
       have H1 : (none) = some r := by rw [if_pos rfl] at H; exact H
       clear H
       have H := H1
       clear H1
       exact absurd H (by simp)
      ·replace c81 := Bool.eq_false_iff.mpr c81
       subst c81
       have H1 : ((move_Stop.f kj33 t376 t377 t378 t379 t380 t381 t382 t353 t354).bind fun bt406 => ((move_Run.f bt406.1 bt406.2.1 bt406.2.2.1 bt406.2.2.2.1 bt406.2.2.2.2.1 bt406.2.2.2.2.2.1 bt406.2.2.2.2.2.2.1 t353 t354 (wrap64 (t359 - t375))).bind fun bt415 => (if bt406.2.2.2.2.2.2.2 = 0 then (if bt415.2.2.2.2.2.2.2.2 = 0 then (if bt415.2.2.2.2.2.2.2.1 = 0 then (if bt415.1 = t376 then (if bt415.2.2.2.2.2.2.1 = t359 then ((q_awake.f kj33).bind fun t425 => (if t425 = true then (some true) else (none))) else (none)) else (none)) else (none)) else (none)) else (none)))) = some r := by rw [if_neg (show ¬ (false = true) by decide)] at H; exact H
       clear H
       have H := H1
       clear H1
       replace H := Option.bind_eq_some_iff.mp H
       obtain ⟨⟨t406, t407, t408, t409, t410, t411, t412, t413⟩, A820, H⟩ := H
       replace H : ((move_Run.f t406 t407 t408 t409 t410 t411 t412 t353 t354 (wrap64 (t359 - t375))).bind fun bt415 => (if t413 = 0 then (if bt415.2.2.2.2.2.2.2.2 = 0 then (if bt415.2.2.2.2.2.2.2.1 = 0 then (if bt415.1 = t376 then (if bt415.2.2.2.2.2.2.1 = t359 then ((q_awake.f kj33).bind fun t425 => (if t425 = true then (some true) else (none))) else (none)) else (none)) else (none)) else (none)) else (none))) = some r := H
       have A82 := Aside0.mk A820
       clear A820
       replace H := Option.bind_eq_some_iff.mp H
       obtain ⟨⟨t415, t416, t417, t418, t419, t420, t421, t422, t423⟩, A830, H⟩ := H
       replace H : (if t413 = 0 then (if t423 = 0 then (if t422 = 0 then (if t415 = t376 then (if t421 = t359 then ((q_awake.f kj33).bind fun t425 => (if t425 = true then (some true) else (none))) else (none)) else (none)) else (none)) else (none)) else (none)) = some r := H
       have A83 := Aside0.mk A830
       clear A830
       by_cases c84 : t413 = 0
       ·rw [if_pos c84] at H
        have c84b0 : (t413 == 0) = true := beq_iff_eq.mpr c84
        have c84b1 : (t413 != 0) = false := bne_eq_false_iff_eq.mpr c84
        clear c84
        by_cases c85 : t423 = 0
        ·rw [if_pos c85] at H
         have c85b0 : (t423 == 0) = true := beq_iff_eq.mpr c85
         have c85b1 : (t423 != 0) = false := bne_eq_false_iff_eq.mpr c85
         clear c85
         by_cases c86 : t422 = 0
         ·rw [if_pos c86] at H
          have c86b0 : (t422 == 0) = true := beq_iff_eq.mpr c86
          have c86b1 : (t422 != 0) = false := bne_eq_false_iff_eq.mpr c86
          clear c86
          by_cases c87 : t415 = t376
          ·rw [if_pos c87] at H
           have c87b0 : (t415 == t376) = true := beq_iff_eq.mpr c87
           have c87b1 : (t415 != t376) = false := bne_eq_false_iff_eq.mpr c87
           clear c87
           by_cases c88 : t421 = t359
           ·rw [if_pos c88] at H
            have c88b0 : (t421 == t359) = true := beq_iff_eq.mpr c88
            have c88b1 : (t421 != t359) = false := bne_eq_false_iff_eq.mpr c88
            clear c88
            replace H := Option.bind_eq_some_iff.mp H
            obtain ⟨t425, A890, H⟩ := H
            replace H : (if t425 = true then (some true) else (none)) = some r := H
            have A89 := Aside0.mk A890
            clear A890
            by_cases c90 : t425 = true
            ·subst c90
             have H1 : (some true) = some r := by rw [if_pos rfl] at H; exact H
             clear H
             have H := H1
             clear H1
             obtain rfl := Option.some.inj H
             have hnb91 := NB385_358.out
             have hnc91 := NB358_385.out
             have hnb92 := NB385_374.out
             have hnc92 := NB374_385.out
             have hnb93 := NB385_395.out
             have hnc93 := NB395_385.out
             have hnb94 := NB385_405.out
             have hnc94 := NB405_385.out
             have hcz95_0 := cz7 BK385.out
             have hfz95_0 := blk_frozen BK385.out
             have hnb96 := NB358_374.out
             have hnc96 := NB374_358.out
             have hnb97 := NB358_395.out
             have hnc97 := NB395_358.out
             have hnb98 := NB358_405.out
             have hnc98 := NB405_358.out
             have hcz99_0 := cz3 BK358.out
             have hfz99_0 := blk_frozen BK358.out
             go_wp2_with (first | ((with_reducible refine gate_callee (f := 19) rfl ?_); refine gsl (some 135) Try.func19 #[.agg #[.int .i64 t376, .int .i64 t377, .int .i64 t378, .int .i64 t379, .int .i64 t380, .int .i64 t381, .int .i64 t382], .int .i64 t353, .int .i64 t354] ?_; (with_reducible refine (move_Stop.calls kj33 t376 t377 t378 t379 t380 t381 t382 t353 t354 t406 t407 t408 t409 t410 t411 t412 t413 _ A82.out).mono ?_); rintro e w100 ⟨rfl, hb⟩; refine ⟨_, rfl, ?_⟩; replace BK358 := Aside0.mk (bkb BK358.out hb); replace BK374 := Aside0.mk (bkb BK374.out hb); replace BK385 := Aside0.mk (bkb BK385.out hb); replace BK395 := Aside0.mk (bkb BK395.out hb); replace BK405 := Aside0.mk (bkb BK405.out hb); replace HB := Aside0.mk (bst HB.out hb); (try clear hb); (try clear hb2); (try clear hk); (try clear hi)) | ((with_reducible refine gate_dst (N := 23) rfl ?_); refine bxe (cs := #[.int .i64 0, .int .i64 0, .int .i64 0, .int .i64 0, .int .i64 0, .int .i64 0, .int .i64 0]) (t := 35) ?_; intro gb414 hg w101 hbox hb; have BK414 := Aside0.mk (hbox); have GW414 := Aside0.mk (bge hg HB.out); have GE414 := Aside0.mk (bge hg HB.out); have NB358_414 := Aside0.mk ((bkl hg BK358.out)); have NB414_358 := Aside0.mk ((bkg hg BK358.out)); have NB374_414 := Aside0.mk ((bkl hg BK374.out)); have NB414_374 := Aside0.mk ((bkg hg BK374.out)); have NB385_414 := Aside0.mk ((bkl hg BK385.out)); have NB414_385 := Aside0.mk ((bkg hg BK385.out)); have NB395_414 := Aside0.mk ((bkl hg BK395.out)); have NB414_395 := Aside0.mk ((bkg hg BK395.out)); have NB405_414 := Aside0.mk ((bkl hg BK405.out)); have NB414_405 := Aside0.mk ((bkg hg BK405.out)); replace BK358 := Aside0.mk (bkb BK358.out hb); replace BK374 := Aside0.mk (bkb BK374.out hb); replace BK385 := Aside0.mk (bkb BK385.out hb); replace BK395 := Aside0.mk (bkb BK395.out hb); replace BK405 := Aside0.mk (bkb BK405.out hb); replace HB := Aside0.mk (bst HB.out hb); clear hb hbox hg; have hnb102 := NB414_358.out; have hnc102 := NB358_414.out; have hnb103 := NB414_374.out; have hnc103 := NB374_414.out; have hnb104 := NB414_385.out; have hnc104 := NB385_414.out; have hnb105 := NB414_395.out; have hnc105 := NB395_414.out; have hnb106 := NB414_405.out; have hnc106 := NB405_414.out; have hcz107_0 := cz7 BK414.out; have hfz107_0 := blk_frozen BK414.out; have hcz108_0 := cz3 BK358.out; have hfz108_0 := blk_frozen BK358.out) | ((with_reducible refine gate_callee (f := 18) rfl ?_); refine gsl (some 147) Try.func18 #[.agg #[.int .i64 t406, .int .i64 t407, .int .i64 t408, .int .i64 t409, .int .i64 t410, .int .i64 t411, .int .i64 t412], .int .i64 t353, .int .i64 t354, .int .i64 (wrap64 (t359 - t375))] ?_; (with_reducible refine (move_Run.calls t406 t407 t408 t409 t410 t411 t412 t353 t354 (wrap64 (t359 - t375)) t415 t416 t417 t418 t419 t420 t421 t422 t423 _ A83.out).mono ?_); rintro e w109 ⟨rfl, hb⟩; refine ⟨_, rfl, ?_⟩; replace BK358 := Aside0.mk (bkb BK358.out hb); replace BK374 := Aside0.mk (bkb BK374.out hb); replace BK385 := Aside0.mk (bkb BK385.out hb); replace BK395 := Aside0.mk (bkb BK395.out hb); replace BK405 := Aside0.mk (bkb BK405.out hb); replace BK414 := Aside0.mk (blk_below (g := gb414) (o := .cells #[.int .i64 t406, .int .i64 t407, .int .i64 t408, .int .i64 t409, .int .i64 t410, .int .i64 t411, .int .i64 t412] 35 (0, 0)) (bkt BK414.out) hb); replace HB := Aside0.mk (bst HB.out hb); (try clear hb); (try clear hb2); (try clear hk); (try clear hi)) | ((with_reducible refine gate_dst (N := 24) rfl ?_); refine bxe (cs := #[.int .i64 0, .int .i64 0, .int .i64 0, .int .i64 0, .int .i64 0, .int .i64 0, .int .i64 0]) (t := 35) ?_; intro gb424 hg w110 hbox hb; have BK424 := Aside0.mk (hbox); have GW424 := Aside0.mk (bge hg HB.out); have GE424 := Aside0.mk (bge hg HB.out); have NB358_424 := Aside0.mk ((bkl hg BK358.out)); have NB424_358 := Aside0.mk ((bkg hg BK358.out)); have NB374_424 := Aside0.mk ((bkl hg BK374.out)); have NB424_374 := Aside0.mk ((bkg hg BK374.out)); have NB385_424 := Aside0.mk ((bkl hg BK385.out)); have NB424_385 := Aside0.mk ((bkg hg BK385.out)); have NB395_424 := Aside0.mk ((bkl hg BK395.out)); have NB424_395 := Aside0.mk ((bkg hg BK395.out)); have NB405_424 := Aside0.mk ((bkl hg BK405.out)); have NB424_405 := Aside0.mk ((bkg hg BK405.out)); have NB414_424 := Aside0.mk ((bkl hg BK414.out)); have NB424_414 := Aside0.mk ((bkg hg BK414.out)); replace BK358 := Aside0.mk (bkb BK358.out hb); replace BK374 := Aside0.mk (bkb BK374.out hb); replace BK385 := Aside0.mk (bkb BK385.out hb); replace BK395 := Aside0.mk (bkb BK395.out hb); replace BK405 := Aside0.mk (bkb BK405.out hb); replace BK414 := Aside0.mk (bkb BK414.out hb); replace HB := Aside0.mk (bst HB.out hb); clear hb hbox hg; have hnb111 := NB424_358.out; have hnc111 := NB358_424.out; have hnb112 := NB424_374.out; have hnc112 := NB374_424.out; have hnb113 := NB424_385.out; have hnc113 := NB385_424.out; have hnb114 := NB424_395.out; have hnc114 := NB395_424.out; have hnb115 := NB424_405.out; have hnc115 := NB405_424.out; have hnb116 := NB424_414.out; have hnc116 := NB414_424.out; have hcz117_0 := cz7 BK424.out; have hfz117_0 := blk_frozen BK424.out; have hcz118_0 := cz7 BK385.out; have hfz118_0 := blk_frozen BK385.out) | (go_at_call 7; (with_reducible refine (q_awake.calls kj33  true _ A89.out).mono ?_); rintro e w119 ⟨rfl, hb⟩; (try clear A89); replace BK358 := Aside0.mk (bkb BK358.out hb); replace BK374 := Aside0.mk (bkb BK374.out hb); replace BK385 := Aside0.mk (bkb BK385.out hb); replace BK395 := Aside0.mk (bkb BK395.out hb); replace BK405 := Aside0.mk (bkb BK405.out hb); replace BK414 := Aside0.mk (bkb BK414.out hb); replace BK424 := Aside0.mk (blk_below (g := gb424) (o := .cells #[.int .i64 t415, .int .i64 t416, .int .i64 t417, .int .i64 t418, .int .i64 t419, .int .i64 t420, .int .i64 t421] 35 (0, 0)) (bkt BK424.out) hb); replace HB := Aside0.mk (bst HB.out hb); (try clear hb); (try clear hb2); (try clear hk); (try clear hi)))
             go_ret
             exact bfin (bel HB.out)
            ·replace c90 := Bool.eq_false_iff.mpr c90
             subst c90
             have H1 : (none) = some r := by rw [if_neg (show ¬ (false = true) by decide)] at H; exact H
             clear H
             have H := H1
             clear H1
             exact absurd H (by simp)
           ·rw [if_neg c88] at H
            exact absurd H (by simp)
          ·rw [if_neg c87] at H
           exact absurd H (by simp)
         ·rw [if_neg c86] at H
          exact absurd H (by simp)
        ·rw [if_neg c85] at H
         exact absurd H (by simp)
       ·rw [if_neg c84] at H
        exact absurd H (by simp)

/-- THE ONE PURE STATEMENT of q_MoveParts: yours. -/
def q_MoveParts.Pure : Prop := ∀ (l0 : List Int) (a1 : Int) (a2 : Int), l0.length ≤ maxLen → l0.length * 8 ≤ 140737488351232 → (∀ x ∈ l0, (Lit.int .i64 x).wf = true) → (Lit.int .i64 a1).wf = true → (Lit.int .i64 a2).wf = true → ∃ k, q_MoveParts.f k l0 a1 a2 = some true
theorem q_MoveParts.walk (P : q_MoveParts.Pure) (a0 : Option Addr) (len0 cap0 : Nat) (z0 : List Int) (a1 : Int) (a2 : Int) (w : World) (w0 : (a0 = none ∧ len0 = 0 ∧ cap0 = 0 ∧ z0 = []) ∨ ∃ x, a0 = some x ∧ len0 ≤ cap0 ∧ cap0 ≤ maxLen ∧ z0.length = cap0 ∧ (∀ i, i < z0.length → w.cell? (x.add i) = some (.int .i64 (z0.getD i 0))) ∧ ∀ n ∈ z0, (Lit.int .i64 n).wf = true) (y0 : len0 * 8 ≤ 140737488351232) (w1 : (Lit.int .i64 a1).wf = true) (w2 : (Lit.int .i64 a2).wf = true) :
  Calls Try.prog 5 #[.slice a0 len0 cap0, .int .i64 a1, .int .i64 a2] w fun e w' => e = .returned (.bool true) ∧ Below w.heap.size w w' := by
 obtain ⟨l0, rfl, hr0, hm0, hw0, hc0⟩ := ReadsInt.ofRowC w0
 obtain ⟨k, h⟩ := P l0 a1 a2 hm0 y0 hw0 w1 w2
 refine (q_MoveParts.calls k _ _ l0 a1 a2 true w (Kd.C_of_reads (d := (0 : Int)) (h1 := fun _ => rfl) hr0) hc0 h).mono ?_
 rintro e w' ⟨rfl, hd⟩
 exact ⟨rfl, hd⟩

end Go.Proofs.Ytckaofgkepcibaa.P
