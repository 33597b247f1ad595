-- Printed by wip/myprint.py of this repo (over the kit's printer). Not trusted: Lean checks it.
import Derived.Test.YtfibbdbpclkbgaaP0
import Derived.Test.YtfibbdbpclkbgaaE30
import Derived.Test.YtfibbdbpclkbgaaGa
import Derived.Test.YtfibbdbpclkbgaaP0brake
import Derived.Test.YtfibbdbpclkbgaaP0tipstaffkit
import Derived.Test.YtfibbdbpclkbgaaP0tipstafflaw10
import Derived.Test.YtfibbdbpclkbgaaP1brake
import Derived.Test.YtfibbdbpclkbgaaP1tipstafflaw10
namespace Go.Proofs.Ytfibbdbpclkbgaa.P
open Go.RowKit Go.Proofs.YtfibbdbpclkbgaaW.PrintWords Go.Proofs.YtfibbdbpclkbgaaW.PrintLast Go.Proofs.YtfibbdbpclkbgaaW.PrintMore
attribute [local go_sem] max2_int min2_int max_two min_two max_three min_three max_four min_four   -- for this text's walks alone
set_option linter.unusedVariables false
set_option linter.unusedSimpArgs false

attribute [local go_sem high] eqA30
/-! ### tipstafflaw10_BrakeKnown: function 9 -/
def tipstafflaw10_BrakeKnown.j0 : Nat → Bool → Option (Bool)
  | 0, _ => none
  | k + 1, x83 => if x83 = true then (none) else ((tipstafflaw10_at.f 1 2).bind fun bt412 => ((brake_Run.f bt412.1 bt412.2 2 1).bind fun bt414 => ((tipstafflaw10_at.f 1 2).bind fun bt417 => ((brake_Run.f bt417.1 bt417.2 2 9).bind fun bt419 => ((tipstafflaw10_at.f 1 2).bind fun bt422 => ((brake_Ends.f k bt422.1 bt422.2 2).bind fun bt424 => ((tipstafflaw10_at.f 1 1).bind fun bt428 => ((tipstafflaw10_is.f bt414.1 bt414.2.1 bt414.2.2 bt428.1 bt428.2).bind fun t430 => (if t430 = true then ((tipstafflaw10_at.f 2 0).bind fun bt431 => ((tipstafflaw10_is.f bt419.1 bt419.2.1 bt419.2.2 bt431.1 bt431.2).bind fun t433 => (if t433 = true then ((tipstafflaw10_at.f 2 0).bind fun bt434 => ((tipstafflaw10_is.f bt424.1 bt424.2.1 bt424.2.2.2 bt434.1 bt434.2).bind fun t436 => (if t436 = true then (if bt424.2.2.1 = 2 then ((tipstafflaw10_at.f 1 1).bind fun bt437 => ((brake_Free.f k bt437.1 bt437.2 2).bind fun bt439 => ((tipstafflaw10_at.f 2 0).bind fun bt441 => ((brake_Free.f k bt441.1 bt441.2 2).bind fun bt443 => ((brake_States.f 0 2).bind fun bt445 => (if bt439.1 = true then (none) else (if bt443.1 = true then (if bt439.2 = 0 then (if bt443.2 = 0 then (if bt445.2 = 0 then ((tipstaffkit_SameInts.f k bt445.1 (([2, 2] : List Int))).bind fun t452 => (if t452 = true then ((tipstafflaw10_at.f 1 2).bind fun bt453 => ((brake_Force.f bt453.1 bt453.2).bind fun bt455 => ((tipstafflaw10_at.f 0 0).bind fun bt457 => (if (bt455.1 == bt457.1 && (bt455.2 == bt457.2)) = true then ((tipstafflaw10_at.f 1 3).bind fun bt459 => ((brake_Check.f k bt459.1 bt459.2 2).bind fun t461 => (if t461 = 2 then ((tipstafflaw10_at.f 2 1).bind fun bt462 => ((brake_Check.f k bt462.1 bt462.2 2).bind fun t464 => (if t464 = 2 then ((brake_New.f).bind fun bt465 => ((brake_Check.f k bt465.1 bt465.2 6).bind fun t467 => (if t467 = 2 then ((tipstafflaw10_awake.f k).bind fun t468 => (if t468 = true then (some t468) else (none))) else (none)))) else (none)))) else (none)))) else (none))))) else (none))) else (none)) else (none)) else (none)) else (none)))))))) else (none)) else (none)))) else (none)))) else (none))))))))))
def tipstafflaw10_BrakeKnown.f (k : Nat)  : Option (Bool) := (tipstafflaw10_at.f 1 1).bind fun bt361 => ((brake_Step.f bt361.1 bt361.2 2).bind fun bt363 => ((tipstafflaw10_at.f 2 0).bind fun bt367 => ((brake_Apply.f bt367.1 bt367.2 2).bind fun bt369 => ((tipstafflaw10_at.f 2 0).bind fun bt373 => ((brake_Apply.f bt373.1 bt373.2 0).bind fun bt375 => ((brake_New.f).bind fun bt379 => ((brake_Release.f bt379.1 bt379.2 0).bind fun bt381 => ((tipstafflaw10_at.f 2 0).bind fun bt385 => ((tipstafflaw10_is.f bt363.1 bt363.2.1 bt363.2.2 bt385.1 bt385.2).bind fun t387 => (if t387 = true then ((tipstafflaw10_at.f 3 2).bind fun bt388 => ((tipstafflaw10_is.f bt369.1 bt369.2.1 bt369.2.2 bt388.1 bt388.2).bind fun t390 => (if t390 = true then ((tipstafflaw10_at.f 0 0).bind fun bt391 => ((tipstafflaw10_is.f bt375.1 bt375.2.1 bt375.2.2 bt391.1 bt391.2).bind fun t393 => (if t393 = true then ((tipstafflaw10_at.f 2 0).bind fun bt394 => ((tipstafflaw10_is.f bt381.1 bt381.2.1 bt381.2.2 bt394.1 bt394.2).bind fun t396 => (if t396 = true then ((tipstafflaw10_at.f 2 0).bind fun bt397 => ((brake_Release.f bt397.1 bt397.2 2).bind fun bt399 => ((brake_New.f).bind fun bt402 => ((brake_Apply.f bt402.1 bt402.2 2).bind fun bt404 => ((tipstafflaw10_at.f 1 1).bind fun bt407 => ((brake_Release.f bt407.1 bt407.2 2).bind fun bt409 => (if bt399.2.2 = 9 then (if bt404.2.2 = 9 then (tipstafflaw10_BrakeKnown.j0 k (bt409.2.2 != 9)) else (tipstafflaw10_BrakeKnown.j0 k true)) else (tipstafflaw10_BrakeKnown.j0 k true)))))))) else (none)))) else (none)))) else (none)))) else (none)))))))))))
theorem tipstafflaw10_BrakeKnown.mono_l : ∀ k, (∀ y0, LeO (tipstafflaw10_BrakeKnown.j0 k y0) (tipstafflaw10_BrakeKnown.j0 (k + 1) y0))
  | 0 => fun _ r h => by simp [tipstafflaw10_BrakeKnown.j0] at h
  | k + 1 => by
    have ih0 := tipstafflaw10_BrakeKnown.mono_l k
    · intro y0
      unfold tipstafflaw10_BrakeKnown.j0
      repeat' first
      | (with_reducible exact ih0 _)
      | (with_reducible exact brake_Check.mono _ _ _ _)
      | (with_reducible exact brake_Ends.mono _ _ _ _)
      | (with_reducible exact brake_Free.mono _ _ _ _)
      | (with_reducible exact tipstaffkit_SameInts.mono _ _ _)
      | (with_reducible exact tipstafflaw10_awake.mono _)
      | (with_reducible exact LeO.refl _)
      | (with_reducible exact LeO.none _)
      | (with_reducible refine LeO.ite ?_ ?_)
      | (with_reducible refine LeO.bind ?_ (fun _ => ?_))
      | exact ih0 _
      | exact brake_Check.mono _ _ _ _
      | exact brake_Ends.mono _ _ _ _
      | exact brake_Free.mono _ _ _ _
      | exact tipstaffkit_SameInts.mono _ _ _
      | exact tipstafflaw10_awake.mono _
      | exact LeO.none _
      | refine LeO.ite ?_ ?_
      | refine LeO.bind ?_ (fun _ => ?_)
theorem tipstafflaw10_BrakeKnown.mono : ∀ k, LeO (tipstafflaw10_BrakeKnown.f k ) (tipstafflaw10_BrakeKnown.f (k + 1) ) := by
  intro  k
  have ih0 := tipstafflaw10_BrakeKnown.mono_l k
  unfold tipstafflaw10_BrakeKnown.f
  repeat' first
      | (with_reducible exact ih0 _)
      | (with_reducible exact brake_Check.mono _ _ _ _)
      | (with_reducible exact brake_Ends.mono _ _ _ _)
      | (with_reducible exact brake_Free.mono _ _ _ _)
      | (with_reducible exact tipstaffkit_SameInts.mono _ _ _)
      | (with_reducible exact tipstafflaw10_awake.mono _)
      | (with_reducible exact LeO.refl _)
      | (with_reducible exact LeO.none _)
      | (with_reducible refine LeO.ite ?_ ?_)
      | (with_reducible refine LeO.bind ?_ (fun _ => ?_))
      | exact ih0 _
      | exact brake_Check.mono _ _ _ _
      | exact brake_Ends.mono _ _ _ _
      | exact brake_Free.mono _ _ _ _
      | exact tipstaffkit_SameInts.mono _ _ _
      | exact tipstafflaw10_awake.mono _
      | exact LeO.none _
      | refine LeO.ite ?_ ?_
      | refine LeO.bind ?_ (fun _ => ?_)
def tipstafflaw10_BrakeKnown.T5 : Bool × List (List Nat × List Nat) := (true, [([], []), ([], []), ([], []), ([0, 1, 2, 2], [0, 1, 2]), ([3], [3]), ([4, 3], [4]), ([5], [5]), ([5], [5]), ([5, 5], [5]), ([6, 7, 8, 8, 5], [5, 6, 7, 8]), ([9, 5], [5, 9]), ([5, 10], [5, 10]), ([11, 9], [11]), ([12], [12]), ([12], [12]), ([12, 12], [12]), ([13, 14, 15, 15, 12], [12, 13, 14, 15]), ([16, 12], [12, 16]), ([12, 17], [12, 17]), ([18, 16], [18]), ([19], [19]), ([19], [19]), ([19, 19], [19]), ([20, 21, 22, 22, 19], [19, 20, 21, 22]), ([23, 19], [19, 23]), ([19, 24], [19, 24])])
def tipstafflaw10_BrakeKnown.B5 : List Nat := [0, 0, 0, 7, 15, 31, 63, 63, 63, 511, 1023, 2047, 4095, 8191, 8191, 8191, 65535, 131071, 262143, 524287, 1048575, 1048575, 1048575, 8388607, 16777215, 33554431]
theorem tipstafflaw10_BrakeKnown.tab5 : rtab .any (opsOf Try.f9 5) = tipstafflaw10_BrakeKnown.T5 := by kernel_rfl
theorem tipstafflaw10_BrakeKnown.bits5 : waitsOk tipstafflaw10_BrakeKnown.T5.2 tipstafflaw10_BrakeKnown.B5 = true := by kernel_rfl
def tipstafflaw10_BrakeKnown.T15 : Bool × List (List Nat × List Nat) := (true, [([], []), ([], []), ([], []), ([0, 1, 2, 2], [0, 1, 2]), ([3], [3]), ([4, 3], [4]), ([5], [5]), ([5], [5]), ([5, 5], [5]), ([6, 7, 8, 8, 5], [5, 6, 7, 8]), ([9, 5], [5, 9]), ([5, 10], [5, 10]), ([11, 9], [11]), ([12], [12]), ([12], [12]), ([12, 12], [12]), ([13, 14, 15, 15, 12], [12, 13, 14, 15]), ([16, 12], [12, 16]), ([12, 17], [12, 17]), ([18, 16], [18]), ([19], [19]), ([20, 19], [19, 20]), ([19, 21], [19, 21])])
def tipstafflaw10_BrakeKnown.B15 : List Nat := [0, 0, 0, 7, 15, 31, 63, 63, 63, 511, 1023, 2047, 4095, 8191, 8191, 8191, 65535, 131071, 262143, 524287, 1048575, 2097151, 4194303]
theorem tipstafflaw10_BrakeKnown.tab15 : rtab .any (opsOf Try.f9 15) = tipstafflaw10_BrakeKnown.T15 := by kernel_rfl
theorem tipstafflaw10_BrakeKnown.bits15 : waitsOk tipstafflaw10_BrakeKnown.T15.2 tipstafflaw10_BrakeKnown.B15 = true := by kernel_rfl
set_option maxHeartbeats 8000000 in
set_option maxRecDepth 100000 in
theorem tipstafflaw10_BrakeKnown.calls (k : Nat)  (r : Bool) (w : World) (h : tipstafflaw10_BrakeKnown.f k  = some r) :
    Calls Try.prog 9 #[] w fun e w' => e = .returned (.bool r) ∧ Below w.heap.size w w' := by
  have hu30 := Try.underlying30
  have HB := Aside0.mk (Below.refl w.heap.size w)
  have H : ((tipstafflaw10_at.f 1 1).bind fun bt361 => ((brake_Step.f bt361.1 bt361.2 2).bind fun bt363 => ((tipstafflaw10_at.f 2 0).bind fun bt367 => ((brake_Apply.f bt367.1 bt367.2 2).bind fun bt369 => ((tipstafflaw10_at.f 2 0).bind fun bt373 => ((brake_Apply.f bt373.1 bt373.2 0).bind fun bt375 => ((brake_New.f).bind fun bt379 => ((brake_Release.f bt379.1 bt379.2 0).bind fun bt381 => ((tipstafflaw10_at.f 2 0).bind fun bt385 => ((tipstafflaw10_is.f bt363.1 bt363.2.1 bt363.2.2 bt385.1 bt385.2).bind fun t387 => (if t387 = true then ((tipstafflaw10_at.f 3 2).bind fun bt388 => ((tipstafflaw10_is.f bt369.1 bt369.2.1 bt369.2.2 bt388.1 bt388.2).bind fun t390 => (if t390 = true then ((tipstafflaw10_at.f 0 0).bind fun bt391 => ((tipstafflaw10_is.f bt375.1 bt375.2.1 bt375.2.2 bt391.1 bt391.2).bind fun t393 => (if t393 = true then ((tipstafflaw10_at.f 2 0).bind fun bt394 => ((tipstafflaw10_is.f bt381.1 bt381.2.1 bt381.2.2 bt394.1 bt394.2).bind fun t396 => (if t396 = true then ((tipstafflaw10_at.f 2 0).bind fun bt397 => ((brake_Release.f bt397.1 bt397.2 2).bind fun bt399 => ((brake_New.f).bind fun bt402 => ((brake_Apply.f bt402.1 bt402.2 2).bind fun bt404 => ((tipstafflaw10_at.f 1 1).bind fun bt407 => ((brake_Release.f bt407.1 bt407.2 2).bind fun bt409 => (if bt399.2.2 = 9 then (if bt404.2.2 = 9 then (tipstafflaw10_BrakeKnown.j0 k (bt409.2.2 != 9)) else (tipstafflaw10_BrakeKnown.j0 k true)) else (tipstafflaw10_BrakeKnown.j0 k true)))))))) else (none)))) else (none)))) else (none)))) else (none)))))))))))) = some r := h
  clear h
  replace H := Option.bind_eq_some_iff.mp H
  obtain ⟨⟨t361, t362⟩, A10, H⟩ := H
  replace H : ((brake_Step.f t361 t362 2).bind fun bt363 => ((tipstafflaw10_at.f 2 0).bind fun bt367 => ((brake_Apply.f bt367.1 bt367.2 2).bind fun bt369 => ((tipstafflaw10_at.f 2 0).bind fun bt373 => ((brake_Apply.f bt373.1 bt373.2 0).bind fun bt375 => ((brake_New.f).bind fun bt379 => ((brake_Release.f bt379.1 bt379.2 0).bind fun bt381 => ((tipstafflaw10_at.f 2 0).bind fun bt385 => ((tipstafflaw10_is.f bt363.1 bt363.2.1 bt363.2.2 bt385.1 bt385.2).bind fun t387 => (if t387 = true then ((tipstafflaw10_at.f 3 2).bind fun bt388 => ((tipstafflaw10_is.f bt369.1 bt369.2.1 bt369.2.2 bt388.1 bt388.2).bind fun t390 => (if t390 = true then ((tipstafflaw10_at.f 0 0).bind fun bt391 => ((tipstafflaw10_is.f bt375.1 bt375.2.1 bt375.2.2 bt391.1 bt391.2).bind fun t393 => (if t393 = true then ((tipstafflaw10_at.f 2 0).bind fun bt394 => ((tipstafflaw10_is.f bt381.1 bt381.2.1 bt381.2.2 bt394.1 bt394.2).bind fun t396 => (if t396 = true then ((tipstafflaw10_at.f 2 0).bind fun bt397 => ((brake_Release.f bt397.1 bt397.2 2).bind fun bt399 => ((brake_New.f).bind fun bt402 => ((brake_Apply.f bt402.1 bt402.2 2).bind fun bt404 => ((tipstafflaw10_at.f 1 1).bind fun bt407 => ((brake_Release.f bt407.1 bt407.2 2).bind fun bt409 => (if bt399.2.2 = 9 then (if bt404.2.2 = 9 then (tipstafflaw10_BrakeKnown.j0 k (bt409.2.2 != 9)) else (tipstafflaw10_BrakeKnown.j0 k true)) else (tipstafflaw10_BrakeKnown.j0 k true)))))))) else (none)))) else (none)))) else (none)))) else (none))))))))))) = some r := H
  have A1 := Aside0.mk A10
  clear A10
  replace H := Option.bind_eq_some_iff.mp H
  obtain ⟨⟨t363, t364, t365⟩, A20, H⟩ := H
  replace H : ((tipstafflaw10_at.f 2 0).bind fun bt367 => ((brake_Apply.f bt367.1 bt367.2 2).bind fun bt369 => ((tipstafflaw10_at.f 2 0).bind fun bt373 => ((brake_Apply.f bt373.1 bt373.2 0).bind fun bt375 => ((brake_New.f).bind fun bt379 => ((brake_Release.f bt379.1 bt379.2 0).bind fun bt381 => ((tipstafflaw10_at.f 2 0).bind fun bt385 => ((tipstafflaw10_is.f t363 t364 t365 bt385.1 bt385.2).bind fun t387 => (if t387 = true then ((tipstafflaw10_at.f 3 2).bind fun bt388 => ((tipstafflaw10_is.f bt369.1 bt369.2.1 bt369.2.2 bt388.1 bt388.2).bind fun t390 => (if t390 = true then ((tipstafflaw10_at.f 0 0).bind fun bt391 => ((tipstafflaw10_is.f bt375.1 bt375.2.1 bt375.2.2 bt391.1 bt391.2).bind fun t393 => (if t393 = true then ((tipstafflaw10_at.f 2 0).bind fun bt394 => ((tipstafflaw10_is.f bt381.1 bt381.2.1 bt381.2.2 bt394.1 bt394.2).bind fun t396 => (if t396 = true then ((tipstafflaw10_at.f 2 0).bind fun bt397 => ((brake_Release.f bt397.1 bt397.2 2).bind fun bt399 => ((brake_New.f).bind fun bt402 => ((brake_Apply.f bt402.1 bt402.2 2).bind fun bt404 => ((tipstafflaw10_at.f 1 1).bind fun bt407 => ((brake_Release.f bt407.1 bt407.2 2).bind fun bt409 => (if bt399.2.2 = 9 then (if bt404.2.2 = 9 then (tipstafflaw10_BrakeKnown.j0 k (bt409.2.2 != 9)) else (tipstafflaw10_BrakeKnown.j0 k true)) else (tipstafflaw10_BrakeKnown.j0 k true)))))))) else (none)))) else (none)))) else (none)))) else (none)))))))))) = some r := H
  have A2 := Aside0.mk A20
  clear A20
  replace H := Option.bind_eq_some_iff.mp H
  obtain ⟨⟨t367, t368⟩, A30, H⟩ := H
  replace H : ((brake_Apply.f t367 t368 2).bind fun bt369 => ((tipstafflaw10_at.f 2 0).bind fun bt373 => ((brake_Apply.f bt373.1 bt373.2 0).bind fun bt375 => ((brake_New.f).bind fun bt379 => ((brake_Release.f bt379.1 bt379.2 0).bind fun bt381 => ((tipstafflaw10_at.f 2 0).bind fun bt385 => ((tipstafflaw10_is.f t363 t364 t365 bt385.1 bt385.2).bind fun t387 => (if t387 = true then ((tipstafflaw10_at.f 3 2).bind fun bt388 => ((tipstafflaw10_is.f bt369.1 bt369.2.1 bt369.2.2 bt388.1 bt388.2).bind fun t390 => (if t390 = true then ((tipstafflaw10_at.f 0 0).bind fun bt391 => ((tipstafflaw10_is.f bt375.1 bt375.2.1 bt375.2.2 bt391.1 bt391.2).bind fun t393 => (if t393 = true then ((tipstafflaw10_at.f 2 0).bind fun bt394 => ((tipstafflaw10_is.f bt381.1 bt381.2.1 bt381.2.2 bt394.1 bt394.2).bind fun t396 => (if t396 = true then ((tipstafflaw10_at.f 2 0).bind fun bt397 => ((brake_Release.f bt397.1 bt397.2 2).bind fun bt399 => ((brake_New.f).bind fun bt402 => ((brake_Apply.f bt402.1 bt402.2 2).bind fun bt404 => ((tipstafflaw10_at.f 1 1).bind fun bt407 => ((brake_Release.f bt407.1 bt407.2 2).bind fun bt409 => (if bt399.2.2 = 9 then (if bt404.2.2 = 9 then (tipstafflaw10_BrakeKnown.j0 k (bt409.2.2 != 9)) else (tipstafflaw10_BrakeKnown.j0 k true)) else (tipstafflaw10_BrakeKnown.j0 k true)))))))) else (none)))) else (none)))) else (none)))) else (none))))))))) = some r := H
  have A3 := Aside0.mk A30
  clear A30
  replace H := Option.bind_eq_some_iff.mp H
  obtain ⟨⟨t369, t370, t371⟩, A40, H⟩ := H
  replace H : ((tipstafflaw10_at.f 2 0).bind fun bt373 => ((brake_Apply.f bt373.1 bt373.2 0).bind fun bt375 => ((brake_New.f).bind fun bt379 => ((brake_Release.f bt379.1 bt379.2 0).bind fun bt381 => ((tipstafflaw10_at.f 2 0).bind fun bt385 => ((tipstafflaw10_is.f t363 t364 t365 bt385.1 bt385.2).bind fun t387 => (if t387 = true then ((tipstafflaw10_at.f 3 2).bind fun bt388 => ((tipstafflaw10_is.f t369 t370 t371 bt388.1 bt388.2).bind fun t390 => (if t390 = true then ((tipstafflaw10_at.f 0 0).bind fun bt391 => ((tipstafflaw10_is.f bt375.1 bt375.2.1 bt375.2.2 bt391.1 bt391.2).bind fun t393 => (if t393 = true then ((tipstafflaw10_at.f 2 0).bind fun bt394 => ((tipstafflaw10_is.f bt381.1 bt381.2.1 bt381.2.2 bt394.1 bt394.2).bind fun t396 => (if t396 = true then ((tipstafflaw10_at.f 2 0).bind fun bt397 => ((brake_Release.f bt397.1 bt397.2 2).bind fun bt399 => ((brake_New.f).bind fun bt402 => ((brake_Apply.f bt402.1 bt402.2 2).bind fun bt404 => ((tipstafflaw10_at.f 1 1).bind fun bt407 => ((brake_Release.f bt407.1 bt407.2 2).bind fun bt409 => (if bt399.2.2 = 9 then (if bt404.2.2 = 9 then (tipstafflaw10_BrakeKnown.j0 k (bt409.2.2 != 9)) else (tipstafflaw10_BrakeKnown.j0 k true)) else (tipstafflaw10_BrakeKnown.j0 k true)))))))) else (none)))) else (none)))) else (none)))) else (none)))))))) = some r := H
  have A4 := Aside0.mk A40
  clear A40
  replace H := Option.bind_eq_some_iff.mp H
  obtain ⟨⟨t373, t374⟩, A50, H⟩ := H
  replace H : ((brake_Apply.f t373 t374 0).bind fun bt375 => ((brake_New.f).bind fun bt379 => ((brake_Release.f bt379.1 bt379.2 0).bind fun bt381 => ((tipstafflaw10_at.f 2 0).bind fun bt385 => ((tipstafflaw10_is.f t363 t364 t365 bt385.1 bt385.2).bind fun t387 => (if t387 = true then ((tipstafflaw10_at.f 3 2).bind fun bt388 => ((tipstafflaw10_is.f t369 t370 t371 bt388.1 bt388.2).bind fun t390 => (if t390 = true then ((tipstafflaw10_at.f 0 0).bind fun bt391 => ((tipstafflaw10_is.f bt375.1 bt375.2.1 bt375.2.2 bt391.1 bt391.2).bind fun t393 => (if t393 = true then ((tipstafflaw10_at.f 2 0).bind fun bt394 => ((tipstafflaw10_is.f bt381.1 bt381.2.1 bt381.2.2 bt394.1 bt394.2).bind fun t396 => (if t396 = true then ((tipstafflaw10_at.f 2 0).bind fun bt397 => ((brake_Release.f bt397.1 bt397.2 2).bind fun bt399 => ((brake_New.f).bind fun bt402 => ((brake_Apply.f bt402.1 bt402.2 2).bind fun bt404 => ((tipstafflaw10_at.f 1 1).bind fun bt407 => ((brake_Release.f bt407.1 bt407.2 2).bind fun bt409 => (if bt399.2.2 = 9 then (if bt404.2.2 = 9 then (tipstafflaw10_BrakeKnown.j0 k (bt409.2.2 != 9)) else (tipstafflaw10_BrakeKnown.j0 k true)) else (tipstafflaw10_BrakeKnown.j0 k true)))))))) else (none)))) else (none)))) else (none)))) else (none))))))) = some r := H
  have A5 := Aside0.mk A50
  clear A50
  replace H := Option.bind_eq_some_iff.mp H
  obtain ⟨⟨t375, t376, t377⟩, A60, H⟩ := H
  replace H : ((brake_New.f).bind fun bt379 => ((brake_Release.f bt379.1 bt379.2 0).bind fun bt381 => ((tipstafflaw10_at.f 2 0).bind fun bt385 => ((tipstafflaw10_is.f t363 t364 t365 bt385.1 bt385.2).bind fun t387 => (if t387 = true then ((tipstafflaw10_at.f 3 2).bind fun bt388 => ((tipstafflaw10_is.f t369 t370 t371 bt388.1 bt388.2).bind fun t390 => (if t390 = true then ((tipstafflaw10_at.f 0 0).bind fun bt391 => ((tipstafflaw10_is.f t375 t376 t377 bt391.1 bt391.2).bind fun t393 => (if t393 = true then ((tipstafflaw10_at.f 2 0).bind fun bt394 => ((tipstafflaw10_is.f bt381.1 bt381.2.1 bt381.2.2 bt394.1 bt394.2).bind fun t396 => (if t396 = true then ((tipstafflaw10_at.f 2 0).bind fun bt397 => ((brake_Release.f bt397.1 bt397.2 2).bind fun bt399 => ((brake_New.f).bind fun bt402 => ((brake_Apply.f bt402.1 bt402.2 2).bind fun bt404 => ((tipstafflaw10_at.f 1 1).bind fun bt407 => ((brake_Release.f bt407.1 bt407.2 2).bind fun bt409 => (if bt399.2.2 = 9 then (if bt404.2.2 = 9 then (tipstafflaw10_BrakeKnown.j0 k (bt409.2.2 != 9)) else (tipstafflaw10_BrakeKnown.j0 k true)) else (tipstafflaw10_BrakeKnown.j0 k true)))))))) else (none)))) else (none)))) else (none)))) else (none)))))) = some r := H
  have A6 := Aside0.mk A60
  clear A60
  replace H := Option.bind_eq_some_iff.mp H
  obtain ⟨⟨t379, t380⟩, A70, H⟩ := H
  replace H : ((brake_Release.f t379 t380 0).bind fun bt381 => ((tipstafflaw10_at.f 2 0).bind fun bt385 => ((tipstafflaw10_is.f t363 t364 t365 bt385.1 bt385.2).bind fun t387 => (if t387 = true then ((tipstafflaw10_at.f 3 2).bind fun bt388 => ((tipstafflaw10_is.f t369 t370 t371 bt388.1 bt388.2).bind fun t390 => (if t390 = true then ((tipstafflaw10_at.f 0 0).bind fun bt391 => ((tipstafflaw10_is.f t375 t376 t377 bt391.1 bt391.2).bind fun t393 => (if t393 = true then ((tipstafflaw10_at.f 2 0).bind fun bt394 => ((tipstafflaw10_is.f bt381.1 bt381.2.1 bt381.2.2 bt394.1 bt394.2).bind fun t396 => (if t396 = true then ((tipstafflaw10_at.f 2 0).bind fun bt397 => ((brake_Release.f bt397.1 bt397.2 2).bind fun bt399 => ((brake_New.f).bind fun bt402 => ((brake_Apply.f bt402.1 bt402.2 2).bind fun bt404 => ((tipstafflaw10_at.f 1 1).bind fun bt407 => ((brake_Release.f bt407.1 bt407.2 2).bind fun bt409 => (if bt399.2.2 = 9 then (if bt404.2.2 = 9 then (tipstafflaw10_BrakeKnown.j0 k (bt409.2.2 != 9)) else (tipstafflaw10_BrakeKnown.j0 k true)) else (tipstafflaw10_BrakeKnown.j0 k true)))))))) else (none)))) else (none)))) else (none)))) else (none))))) = some r := H
  have A7 := Aside0.mk A70
  clear A70
  replace H := Option.bind_eq_some_iff.mp H
  obtain ⟨⟨t381, t382, t383⟩, A80, H⟩ := H
  replace H : ((tipstafflaw10_at.f 2 0).bind fun bt385 => ((tipstafflaw10_is.f t363 t364 t365 bt385.1 bt385.2).bind fun t387 => (if t387 = true then ((tipstafflaw10_at.f 3 2).bind fun bt388 => ((tipstafflaw10_is.f t369 t370 t371 bt388.1 bt388.2).bind fun t390 => (if t390 = true then ((tipstafflaw10_at.f 0 0).bind fun bt391 => ((tipstafflaw10_is.f t375 t376 t377 bt391.1 bt391.2).bind fun t393 => (if t393 = true then ((tipstafflaw10_at.f 2 0).bind fun bt394 => ((tipstafflaw10_is.f t381 t382 t383 bt394.1 bt394.2).bind fun t396 => (if t396 = true then ((tipstafflaw10_at.f 2 0).bind fun bt397 => ((brake_Release.f bt397.1 bt397.2 2).bind fun bt399 => ((brake_New.f).bind fun bt402 => ((brake_Apply.f bt402.1 bt402.2 2).bind fun bt404 => ((tipstafflaw10_at.f 1 1).bind fun bt407 => ((brake_Release.f bt407.1 bt407.2 2).bind fun bt409 => (if bt399.2.2 = 9 then (if bt404.2.2 = 9 then (tipstafflaw10_BrakeKnown.j0 k (bt409.2.2 != 9)) else (tipstafflaw10_BrakeKnown.j0 k true)) else (tipstafflaw10_BrakeKnown.j0 k true)))))))) else (none)))) else (none)))) else (none)))) else (none)))) = some r := H
  have A8 := Aside0.mk A80
  clear A80
  replace H := Option.bind_eq_some_iff.mp H
  obtain ⟨⟨t385, t386⟩, A90, H⟩ := H
  replace H : ((tipstafflaw10_is.f t363 t364 t365 t385 t386).bind fun t387 => (if t387 = true then ((tipstafflaw10_at.f 3 2).bind fun bt388 => ((tipstafflaw10_is.f t369 t370 t371 bt388.1 bt388.2).bind fun t390 => (if t390 = true then ((tipstafflaw10_at.f 0 0).bind fun bt391 => ((tipstafflaw10_is.f t375 t376 t377 bt391.1 bt391.2).bind fun t393 => (if t393 = true then ((tipstafflaw10_at.f 2 0).bind fun bt394 => ((tipstafflaw10_is.f t381 t382 t383 bt394.1 bt394.2).bind fun t396 => (if t396 = true then ((tipstafflaw10_at.f 2 0).bind fun bt397 => ((brake_Release.f bt397.1 bt397.2 2).bind fun bt399 => ((brake_New.f).bind fun bt402 => ((brake_Apply.f bt402.1 bt402.2 2).bind fun bt404 => ((tipstafflaw10_at.f 1 1).bind fun bt407 => ((brake_Release.f bt407.1 bt407.2 2).bind fun bt409 => (if bt399.2.2 = 9 then (if bt404.2.2 = 9 then (tipstafflaw10_BrakeKnown.j0 k (bt409.2.2 != 9)) else (tipstafflaw10_BrakeKnown.j0 k true)) else (tipstafflaw10_BrakeKnown.j0 k true)))))))) else (none)))) else (none)))) else (none)))) else (none))) = some r := H
  have A9 := Aside0.mk A90
  clear A90
  replace H := Option.bind_eq_some_iff.mp H
  obtain ⟨t387, A100, H⟩ := H
  replace H : (if t387 = true then ((tipstafflaw10_at.f 3 2).bind fun bt388 => ((tipstafflaw10_is.f t369 t370 t371 bt388.1 bt388.2).bind fun t390 => (if t390 = true then ((tipstafflaw10_at.f 0 0).bind fun bt391 => ((tipstafflaw10_is.f t375 t376 t377 bt391.1 bt391.2).bind fun t393 => (if t393 = true then ((tipstafflaw10_at.f 2 0).bind fun bt394 => ((tipstafflaw10_is.f t381 t382 t383 bt394.1 bt394.2).bind fun t396 => (if t396 = true then ((tipstafflaw10_at.f 2 0).bind fun bt397 => ((brake_Release.f bt397.1 bt397.2 2).bind fun bt399 => ((brake_New.f).bind fun bt402 => ((brake_Apply.f bt402.1 bt402.2 2).bind fun bt404 => ((tipstafflaw10_at.f 1 1).bind fun bt407 => ((brake_Release.f bt407.1 bt407.2 2).bind fun bt409 => (if bt399.2.2 = 9 then (if bt404.2.2 = 9 then (tipstafflaw10_BrakeKnown.j0 k (bt409.2.2 != 9)) else (tipstafflaw10_BrakeKnown.j0 k true)) else (tipstafflaw10_BrakeKnown.j0 k true)))))))) else (none)))) else (none)))) else (none)))) else (none)) = some r := H
  have A10 := Aside0.mk A100
  clear A100
  by_cases c11 : t387 = true
  · subst c11
    have H1 : ((tipstafflaw10_at.f 3 2).bind fun bt388 => ((tipstafflaw10_is.f t369 t370 t371 bt388.1 bt388.2).bind fun t390 => (if t390 = true then ((tipstafflaw10_at.f 0 0).bind fun bt391 => ((tipstafflaw10_is.f t375 t376 t377 bt391.1 bt391.2).bind fun t393 => (if t393 = true then ((tipstafflaw10_at.f 2 0).bind fun bt394 => ((tipstafflaw10_is.f t381 t382 t383 bt394.1 bt394.2).bind fun t396 => (if t396 = true then ((tipstafflaw10_at.f 2 0).bind fun bt397 => ((brake_Release.f bt397.1 bt397.2 2).bind fun bt399 => ((brake_New.f).bind fun bt402 => ((brake_Apply.f bt402.1 bt402.2 2).bind fun bt404 => ((tipstafflaw10_at.f 1 1).bind fun bt407 => ((brake_Release.f bt407.1 bt407.2 2).bind fun bt409 => (if bt399.2.2 = 9 then (if bt404.2.2 = 9 then (tipstafflaw10_BrakeKnown.j0 k (bt409.2.2 != 9)) else (tipstafflaw10_BrakeKnown.j0 k true)) else (tipstafflaw10_BrakeKnown.j0 k true)))))))) else (none)))) else (none)))) else (none)))) = some r := by rw [if_pos rfl] at H; exact H
    clear H
    have H := H1
    clear H1
    replace H := Option.bind_eq_some_iff.mp H
    obtain ⟨⟨t388, t389⟩, A120, H⟩ := H
    replace H : ((tipstafflaw10_is.f t369 t370 t371 t388 t389).bind fun t390 => (if t390 = true then ((tipstafflaw10_at.f 0 0).bind fun bt391 => ((tipstafflaw10_is.f t375 t376 t377 bt391.1 bt391.2).bind fun t393 => (if t393 = true then ((tipstafflaw10_at.f 2 0).bind fun bt394 => ((tipstafflaw10_is.f t381 t382 t383 bt394.1 bt394.2).bind fun t396 => (if t396 = true then ((tipstafflaw10_at.f 2 0).bind fun bt397 => ((brake_Release.f bt397.1 bt397.2 2).bind fun bt399 => ((brake_New.f).bind fun bt402 => ((brake_Apply.f bt402.1 bt402.2 2).bind fun bt404 => ((tipstafflaw10_at.f 1 1).bind fun bt407 => ((brake_Release.f bt407.1 bt407.2 2).bind fun bt409 => (if bt399.2.2 = 9 then (if bt404.2.2 = 9 then (tipstafflaw10_BrakeKnown.j0 k (bt409.2.2 != 9)) else (tipstafflaw10_BrakeKnown.j0 k true)) else (tipstafflaw10_BrakeKnown.j0 k true)))))))) else (none)))) else (none)))) else (none))) = some r := H
    have A12 := Aside0.mk A120
    clear A120
    replace H := Option.bind_eq_some_iff.mp H
    obtain ⟨t390, A130, H⟩ := H
    replace H : (if t390 = true then ((tipstafflaw10_at.f 0 0).bind fun bt391 => ((tipstafflaw10_is.f t375 t376 t377 bt391.1 bt391.2).bind fun t393 => (if t393 = true then ((tipstafflaw10_at.f 2 0).bind fun bt394 => ((tipstafflaw10_is.f t381 t382 t383 bt394.1 bt394.2).bind fun t396 => (if t396 = true then ((tipstafflaw10_at.f 2 0).bind fun bt397 => ((brake_Release.f bt397.1 bt397.2 2).bind fun bt399 => ((brake_New.f).bind fun bt402 => ((brake_Apply.f bt402.1 bt402.2 2).bind fun bt404 => ((tipstafflaw10_at.f 1 1).bind fun bt407 => ((brake_Release.f bt407.1 bt407.2 2).bind fun bt409 => (if bt399.2.2 = 9 then (if bt404.2.2 = 9 then (tipstafflaw10_BrakeKnown.j0 k (bt409.2.2 != 9)) else (tipstafflaw10_BrakeKnown.j0 k true)) else (tipstafflaw10_BrakeKnown.j0 k true)))))))) else (none)))) else (none)))) else (none)) = some r := H
    have A13 := Aside0.mk A130
    clear A130
    by_cases c14 : t390 = true
    · subst c14
      have H1 : ((tipstafflaw10_at.f 0 0).bind fun bt391 => ((tipstafflaw10_is.f t375 t376 t377 bt391.1 bt391.2).bind fun t393 => (if t393 = true then ((tipstafflaw10_at.f 2 0).bind fun bt394 => ((tipstafflaw10_is.f t381 t382 t383 bt394.1 bt394.2).bind fun t396 => (if t396 = true then ((tipstafflaw10_at.f 2 0).bind fun bt397 => ((brake_Release.f bt397.1 bt397.2 2).bind fun bt399 => ((brake_New.f).bind fun bt402 => ((brake_Apply.f bt402.1 bt402.2 2).bind fun bt404 => ((tipstafflaw10_at.f 1 1).bind fun bt407 => ((brake_Release.f bt407.1 bt407.2 2).bind fun bt409 => (if bt399.2.2 = 9 then (if bt404.2.2 = 9 then (tipstafflaw10_BrakeKnown.j0 k (bt409.2.2 != 9)) else (tipstafflaw10_BrakeKnown.j0 k true)) else (tipstafflaw10_BrakeKnown.j0 k true)))))))) else (none)))) else (none)))) = some r := by rw [if_pos rfl] at H; exact H
      clear H
      have H := H1
      clear H1
      replace H := Option.bind_eq_some_iff.mp H
      obtain ⟨⟨t391, t392⟩, A150, H⟩ := H
      replace H : ((tipstafflaw10_is.f t375 t376 t377 t391 t392).bind fun t393 => (if t393 = true then ((tipstafflaw10_at.f 2 0).bind fun bt394 => ((tipstafflaw10_is.f t381 t382 t383 bt394.1 bt394.2).bind fun t396 => (if t396 = true then ((tipstafflaw10_at.f 2 0).bind fun bt397 => ((brake_Release.f bt397.1 bt397.2 2).bind fun bt399 => ((brake_New.f).bind fun bt402 => ((brake_Apply.f bt402.1 bt402.2 2).bind fun bt404 => ((tipstafflaw10_at.f 1 1).bind fun bt407 => ((brake_Release.f bt407.1 bt407.2 2).bind fun bt409 => (if bt399.2.2 = 9 then (if bt404.2.2 = 9 then (tipstafflaw10_BrakeKnown.j0 k (bt409.2.2 != 9)) else (tipstafflaw10_BrakeKnown.j0 k true)) else (tipstafflaw10_BrakeKnown.j0 k true)))))))) else (none)))) else (none))) = some r := H
      have A15 := Aside0.mk A150
      clear A150
      replace H := Option.bind_eq_some_iff.mp H
      obtain ⟨t393, A160, H⟩ := H
      replace H : (if t393 = true then ((tipstafflaw10_at.f 2 0).bind fun bt394 => ((tipstafflaw10_is.f t381 t382 t383 bt394.1 bt394.2).bind fun t396 => (if t396 = true then ((tipstafflaw10_at.f 2 0).bind fun bt397 => ((brake_Release.f bt397.1 bt397.2 2).bind fun bt399 => ((brake_New.f).bind fun bt402 => ((brake_Apply.f bt402.1 bt402.2 2).bind fun bt404 => ((tipstafflaw10_at.f 1 1).bind fun bt407 => ((brake_Release.f bt407.1 bt407.2 2).bind fun bt409 => (if bt399.2.2 = 9 then (if bt404.2.2 = 9 then (tipstafflaw10_BrakeKnown.j0 k (bt409.2.2 != 9)) else (tipstafflaw10_BrakeKnown.j0 k true)) else (tipstafflaw10_BrakeKnown.j0 k true)))))))) else (none)))) else (none)) = some r := H
      have A16 := Aside0.mk A160
      clear A160
      by_cases c17 : t393 = true
      · subst c17
        have H1 : ((tipstafflaw10_at.f 2 0).bind fun bt394 => ((tipstafflaw10_is.f t381 t382 t383 bt394.1 bt394.2).bind fun t396 => (if t396 = true then ((tipstafflaw10_at.f 2 0).bind fun bt397 => ((brake_Release.f bt397.1 bt397.2 2).bind fun bt399 => ((brake_New.f).bind fun bt402 => ((brake_Apply.f bt402.1 bt402.2 2).bind fun bt404 => ((tipstafflaw10_at.f 1 1).bind fun bt407 => ((brake_Release.f bt407.1 bt407.2 2).bind fun bt409 => (if bt399.2.2 = 9 then (if bt404.2.2 = 9 then (tipstafflaw10_BrakeKnown.j0 k (bt409.2.2 != 9)) else (tipstafflaw10_BrakeKnown.j0 k true)) else (tipstafflaw10_BrakeKnown.j0 k true)))))))) else (none)))) = some r := by rw [if_pos rfl] at H; exact H
        clear H
        have H := H1
        clear H1
        replace H := Option.bind_eq_some_iff.mp H
        obtain ⟨⟨t394, t395⟩, A180, H⟩ := H
        replace H : ((tipstafflaw10_is.f t381 t382 t383 t394 t395).bind fun t396 => (if t396 = true then ((tipstafflaw10_at.f 2 0).bind fun bt397 => ((brake_Release.f bt397.1 bt397.2 2).bind fun bt399 => ((brake_New.f).bind fun bt402 => ((brake_Apply.f bt402.1 bt402.2 2).bind fun bt404 => ((tipstafflaw10_at.f 1 1).bind fun bt407 => ((brake_Release.f bt407.1 bt407.2 2).bind fun bt409 => (if bt399.2.2 = 9 then (if bt404.2.2 = 9 then (tipstafflaw10_BrakeKnown.j0 k (bt409.2.2 != 9)) else (tipstafflaw10_BrakeKnown.j0 k true)) else (tipstafflaw10_BrakeKnown.j0 k true)))))))) else (none))) = some r := H
        have A18 := Aside0.mk A180
        clear A180
        replace H := Option.bind_eq_some_iff.mp H
        obtain ⟨t396, A190, H⟩ := H
        replace H : (if t396 = true then ((tipstafflaw10_at.f 2 0).bind fun bt397 => ((brake_Release.f bt397.1 bt397.2 2).bind fun bt399 => ((brake_New.f).bind fun bt402 => ((brake_Apply.f bt402.1 bt402.2 2).bind fun bt404 => ((tipstafflaw10_at.f 1 1).bind fun bt407 => ((brake_Release.f bt407.1 bt407.2 2).bind fun bt409 => (if bt399.2.2 = 9 then (if bt404.2.2 = 9 then (tipstafflaw10_BrakeKnown.j0 k (bt409.2.2 != 9)) else (tipstafflaw10_BrakeKnown.j0 k true)) else (tipstafflaw10_BrakeKnown.j0 k true)))))))) else (none)) = some r := H
        have A19 := Aside0.mk A190
        clear A190
        by_cases c20 : t396 = true
        · subst c20
          have H1 : ((tipstafflaw10_at.f 2 0).bind fun bt397 => ((brake_Release.f bt397.1 bt397.2 2).bind fun bt399 => ((brake_New.f).bind fun bt402 => ((brake_Apply.f bt402.1 bt402.2 2).bind fun bt404 => ((tipstafflaw10_at.f 1 1).bind fun bt407 => ((brake_Release.f bt407.1 bt407.2 2).bind fun bt409 => (if bt399.2.2 = 9 then (if bt404.2.2 = 9 then (tipstafflaw10_BrakeKnown.j0 k (bt409.2.2 != 9)) else (tipstafflaw10_BrakeKnown.j0 k true)) else (tipstafflaw10_BrakeKnown.j0 k true)))))))) = some r := by rw [if_pos rfl] at H; exact H
          clear H
          have H := H1
          clear H1
          replace H := Option.bind_eq_some_iff.mp H
          obtain ⟨⟨t397, t398⟩, A210, H⟩ := H
          replace H : ((brake_Release.f t397 t398 2).bind fun bt399 => ((brake_New.f).bind fun bt402 => ((brake_Apply.f bt402.1 bt402.2 2).bind fun bt404 => ((tipstafflaw10_at.f 1 1).bind fun bt407 => ((brake_Release.f bt407.1 bt407.2 2).bind fun bt409 => (if bt399.2.2 = 9 then (if bt404.2.2 = 9 then (tipstafflaw10_BrakeKnown.j0 k (bt409.2.2 != 9)) else (tipstafflaw10_BrakeKnown.j0 k true)) else (tipstafflaw10_BrakeKnown.j0 k true))))))) = some r := H
          have A21 := Aside0.mk A210
          clear A210
          replace H := Option.bind_eq_some_iff.mp H
          obtain ⟨⟨t399, t400, t401⟩, A220, H⟩ := H
          replace H : ((brake_New.f).bind fun bt402 => ((brake_Apply.f bt402.1 bt402.2 2).bind fun bt404 => ((tipstafflaw10_at.f 1 1).bind fun bt407 => ((brake_Release.f bt407.1 bt407.2 2).bind fun bt409 => (if t401 = 9 then (if bt404.2.2 = 9 then (tipstafflaw10_BrakeKnown.j0 k (bt409.2.2 != 9)) else (tipstafflaw10_BrakeKnown.j0 k true)) else (tipstafflaw10_BrakeKnown.j0 k true)))))) = some r := H
          have A22 := Aside0.mk A220
          clear A220
          replace H := Option.bind_eq_some_iff.mp H
          obtain ⟨⟨t402, t403⟩, A230, H⟩ := H
          replace H : ((brake_Apply.f t402 t403 2).bind fun bt404 => ((tipstafflaw10_at.f 1 1).bind fun bt407 => ((brake_Release.f bt407.1 bt407.2 2).bind fun bt409 => (if t401 = 9 then (if bt404.2.2 = 9 then (tipstafflaw10_BrakeKnown.j0 k (bt409.2.2 != 9)) else (tipstafflaw10_BrakeKnown.j0 k true)) else (tipstafflaw10_BrakeKnown.j0 k true))))) = some r := H
          have A23 := Aside0.mk A230
          clear A230
          replace H := Option.bind_eq_some_iff.mp H
          obtain ⟨⟨t404, t405, t406⟩, A240, H⟩ := H
          replace H : ((tipstafflaw10_at.f 1 1).bind fun bt407 => ((brake_Release.f bt407.1 bt407.2 2).bind fun bt409 => (if t401 = 9 then (if t406 = 9 then (tipstafflaw10_BrakeKnown.j0 k (bt409.2.2 != 9)) else (tipstafflaw10_BrakeKnown.j0 k true)) else (tipstafflaw10_BrakeKnown.j0 k true)))) = some r := H
          have A24 := Aside0.mk A240
          clear A240
          replace H := Option.bind_eq_some_iff.mp H
          obtain ⟨⟨t407, t408⟩, A250, H⟩ := H
          replace H : ((brake_Release.f t407 t408 2).bind fun bt409 => (if t401 = 9 then (if t406 = 9 then (tipstafflaw10_BrakeKnown.j0 k (bt409.2.2 != 9)) else (tipstafflaw10_BrakeKnown.j0 k true)) else (tipstafflaw10_BrakeKnown.j0 k true))) = some r := H
          have A25 := Aside0.mk A250
          clear A250
          replace H := Option.bind_eq_some_iff.mp H
          obtain ⟨⟨t409, t410, t411⟩, A260, H⟩ := H
          replace H : (if t401 = 9 then (if t406 = 9 then (tipstafflaw10_BrakeKnown.j0 k (t411 != 9)) else (tipstafflaw10_BrakeKnown.j0 k true)) else (tipstafflaw10_BrakeKnown.j0 k true)) = some r := H
          have A26 := Aside0.mk A260
          clear A260
          have HC27 := Aside0.mk H
          clear H
          go_enter Try.func9, Try.ntmps9
          try go_wp2_with (first | ((with_reducible refine gate_callee (f := 27) rfl ?_); refine goesL_ (some 14) rfl rfl Try.func27 (by kernel_rfl) rfl #[.int .i64 1, .int .i64 1] rfl (by (try simp only [List.map_toArray, List.map_cons, List.map_nil]); first | done | rfl | (simp only [List.length_drop, List.length_take]; rfl)) ?_; (with_reducible refine (tipstafflaw10_at.calls 1 1 t361 t362 _ A1.out).mono ?_); rintro e w28 ⟨rfl, hb⟩; refine ⟨_, rfl, ?_⟩; have n0_ := Aside0.mk (below_step (by repeat (first | (with_reducible first | exact HB.out | apply below_alloc | apply pw_below_drewN | apply below_drew1) | exact HB.out)) hb); clear HB; have HB := n0_; clear n0_; (try clear hb); (try clear hb2); (try clear hk); (try clear hi)) | ((with_reducible refine gate_callee (f := 17) rfl ?_); refine goesL_ (some 15) rfl rfl Try.func17 (by kernel_rfl) rfl #[.agg #[.int .i64 t361, .int .i64 t362], .int .i64 2] rfl (by (try simp only [List.map_toArray, List.map_cons, List.map_nil]); first | done | rfl | (simp only [List.length_drop, List.length_take]; rfl)) ?_; (with_reducible refine (brake_Step.calls t361 t362 2 t363 t364 t365 _ A2.out).mono ?_); rintro e w29 ⟨rfl, hb⟩; refine ⟨_, rfl, ?_⟩; have n0_ := Aside0.mk (below_step (by repeat (first | (with_reducible first | exact HB.out | apply below_alloc | apply pw_below_drewN | apply below_drew1) | exact HB.out)) hb); clear HB; have HB := n0_; clear n0_; (try clear hb); (try clear hb2); (try clear hk); (try clear hi)) | ((with_reducible refine gate_dst (N := 1) rfl ?_); (try (refine gate_guard (by rfl) ?_; dsimp only)); refine box_event ?hg (N := 1) ?hd (cs := #[.int .i64 0, .int .i64 0]) (t := 30) ?hr ?_; (case hd => rfl); (case hg => rfl); (case hr => first | (go_simp; done) | (go_simp; rfl)); intro gb366 hg w30 hbox hb; have n0_ := Aside0.mk (below_step (by repeat (first | (with_reducible first | exact HB.out | apply below_alloc | apply pw_below_drewN | apply below_drew1) | exact HB.out)) hb); have n1_ := Aside0.mk (hbox); have n2_ := Aside0.mk ((by rw [hg]; exact (below_size (by repeat (first | (with_reducible first | exact HB.out | apply below_alloc | apply pw_below_drewN | apply below_drew1) | exact HB.out))) : w.heap.size ≤ gb366)); have n3_ := Aside0.mk ((by rw [hg]; exact (below_size (by repeat (first | (with_reducible first | exact HB.out | apply below_alloc | apply pw_below_drewN | apply below_drew1) | exact HB.out))) : w.heap.size ≤ gb366)); clear HB; have HB := n0_; have BK366 := n1_; have GW366 := n2_; have GE366 := n3_; clear n0_ n1_ n2_ n3_; clear hb hbox hg; have hcz31_0 : w30.cell? ⟨gb366, 0, none⟩ = some (.int .i64 0) := (blk_cell BK366.out 0).trans rfl; have hcz31_1 : w30.cell? ⟨gb366, 1, none⟩ = some (.int .i64 0) := (blk_cell BK366.out 1).trans rfl; have hfz31_0 := blk_frozen BK366.out 0; have hfz31_1 := blk_frozen BK366.out 1) | ((with_reducible refine gate_callee (f := 27) rfl ?_); refine goesL_ (some 19) rfl rfl Try.func27 (by kernel_rfl) rfl #[.int .i64 2, .int .i64 0] rfl (by (try simp only [List.map_toArray, List.map_cons, List.map_nil]); first | done | rfl | (simp only [List.length_drop, List.length_take]; rfl)) ?_; (with_reducible refine (tipstafflaw10_at.calls 2 0 t367 t368 _ A3.out).mono ?_); rintro e w32 ⟨rfl, hb⟩; refine ⟨_, rfl, ?_⟩; have n0_ := Aside0.mk (blk_below (g := gb366) (o := .cells #[.int .i64 t363, .int .i64 t364] 30 (0, 0)) (by (with_reducible repeat (first | refine blk_drewN ?_ _ | refine blk_drew ?_ | refine blk_alloc ?_ _)); refine blk_put (cs := #[.int .i64 t363, .int .i64 0]) ?_ 1 _ rfl; (with_reducible repeat (first | refine blk_drewN ?_ _ | refine blk_drew ?_ | refine blk_alloc ?_ _)); refine blk_put (cs := #[.int .i64 0, .int .i64 0]) ?_ 0 _ rfl; (with_reducible repeat (first | refine blk_drewN ?_ _ | refine blk_drew ?_ | refine blk_alloc ?_ _)); exact BK366.out) hb); have n1_ := Aside0.mk (below_step (by repeat (first | (with_reducible first | exact HB.out | apply below_alloc | apply pw_below_drewN | apply below_drew1 | refine below_set ?_ GE366.out) | exact HB.out)) hb); clear BK366; clear HB; have BK366 := n0_; have HB := n1_; clear n0_ n1_; (try clear hb); (try clear hb2); (try clear hk); (try clear hi)) | ((with_reducible refine gate_callee (f := 15) rfl ?_); refine goesL_ (some 20) rfl rfl Try.func15 (by kernel_rfl) rfl #[.agg #[.int .i64 t367, .int .i64 t368], .int .i64 2] rfl (by (try simp only [List.map_toArray, List.map_cons, List.map_nil]); first | done | rfl | (simp only [List.length_drop, List.length_take]; rfl)) ?_; (with_reducible refine (brake_Apply.calls t367 t368 2 t369 t370 t371 _ A4.out).mono ?_); rintro e w33 ⟨rfl, hb⟩; refine ⟨_, rfl, ?_⟩; have n0_ := Aside0.mk (blk_below (g := gb366) (o := .cells #[.int .i64 t363, .int .i64 t364] 30 (0, 0)) (by (with_reducible repeat (first | refine blk_drewN ?_ _ | refine blk_drew ?_ | refine blk_alloc ?_ _)); exact BK366.out) hb); have n1_ := Aside0.mk (below_step (by repeat (first | (with_reducible first | exact HB.out | apply below_alloc | apply pw_below_drewN | apply below_drew1 | refine below_set ?_ GE366.out) | exact HB.out)) hb); clear BK366; clear HB; have BK366 := n0_; have HB := n1_; clear n0_ n1_; (try clear hb); (try clear hb2); (try clear hk); (try clear hi)) | ((with_reducible refine gate_dst (N := 3) rfl ?_); (try (refine gate_guard (by rfl) ?_; dsimp only)); refine box_event ?hg (N := 3) ?hd (cs := #[.int .i64 0, .int .i64 0]) (t := 30) ?hr ?_; (case hd => rfl); (case hg => rfl); (case hr => first | (go_simp; done) | (go_simp; rfl)); intro gb372 hg w34 hbox hb; have n0_ := Aside0.mk (blk_below (g := gb366) (o := .cells #[.int .i64 t363, .int .i64 t364] 30 (0, 0)) (by (with_reducible repeat (first | refine blk_drewN ?_ _ | refine blk_drew ?_ | refine blk_alloc ?_ _)); exact BK366.out) hb); have n1_ := Aside0.mk (below_step (by repeat (first | (with_reducible first | exact HB.out | apply below_alloc | apply pw_below_drewN | apply below_drew1 | refine below_set ?_ GE366.out) | exact HB.out)) hb); have n2_ := Aside0.mk (hbox); have n3_ := Aside0.mk ((by rw [hg]; exact (below_size (by repeat (first | (with_reducible first | exact HB.out | apply below_alloc | apply pw_below_drewN | apply below_drew1 | refine below_set ?_ GE366.out) | exact HB.out))) : w.heap.size ≤ gb372)); have n4_ := Aside0.mk ((by rw [hg]; exact (below_size (by repeat (first | (with_reducible first | exact HB.out | apply below_alloc | apply pw_below_drewN | apply below_drew1 | refine below_set ?_ GE366.out) | exact HB.out))) : w.heap.size ≤ gb372)); have n5_ := Aside0.mk ((by rw [hg]; exact Nat.ne_of_lt (blk_lt (g := gb366) (o := .cells #[.int .i64 t363, .int .i64 t364] 30 (0, 0)) (by (with_reducible repeat (first | refine blk_drewN ?_ _ | refine blk_drew ?_ | refine blk_alloc ?_ _)); exact BK366.out)) : gb366 ≠ gb372)); have n6_ := Aside0.mk ((by rw [hg]; exact Nat.ne_of_gt (blk_lt (g := gb366) (o := .cells #[.int .i64 t363, .int .i64 t364] 30 (0, 0)) (by (with_reducible repeat (first | refine blk_drewN ?_ _ | refine blk_drew ?_ | refine blk_alloc ?_ _)); exact BK366.out)) : gb372 ≠ gb366)); clear BK366; clear HB; have BK366 := n0_; have HB := n1_; have BK372 := n2_; have GW372 := n3_; have GE372 := n4_; have NB366_372 := n5_; have NB372_366 := n6_; clear n0_ n1_ n2_ n3_ n4_ n5_ n6_; clear hb hbox hg; have hnb35 := NB372_366.out; have hnc35 := NB366_372.out; have hcz36_0 : w34.cell? ⟨gb372, 0, none⟩ = some (.int .i64 0) := (blk_cell BK372.out 0).trans rfl; have hcz36_1 : w34.cell? ⟨gb372, 1, none⟩ = some (.int .i64 0) := (blk_cell BK372.out 1).trans rfl; have hfz36_0 := blk_frozen BK372.out 0; have hfz36_1 := blk_frozen BK372.out 1) | ((with_reducible refine gate_callee (f := 27) rfl ?_); refine goesL_ (some 24) rfl rfl Try.func27 (by kernel_rfl) rfl #[.int .i64 2, .int .i64 0] rfl (by (try simp only [List.map_toArray, List.map_cons, List.map_nil]); first | done | rfl | (simp only [List.length_drop, List.length_take]; rfl)) ?_; (with_reducible refine (tipstafflaw10_at.calls 2 0 t373 t374 _ A5.out).mono ?_); rintro e w37 ⟨rfl, hb⟩; refine ⟨_, rfl, ?_⟩; have n0_ := Aside0.mk (blk_below (g := gb366) (o := .cells #[.int .i64 t363, .int .i64 t364] 30 (0, 0)) (by (with_reducible repeat (first | refine blk_drewN ?_ _ | refine blk_drew ?_ | refine blk_alloc ?_ _)); refine blk_far ?_ NB366_372.out _; (with_reducible repeat (first | refine blk_drewN ?_ _ | refine blk_drew ?_ | refine blk_alloc ?_ _)); refine blk_far ?_ NB366_372.out _; (with_reducible repeat (first | refine blk_drewN ?_ _ | refine blk_drew ?_ | refine blk_alloc ?_ _)); exact BK366.out) hb); have n1_ := Aside0.mk (blk_below (g := gb372) (o := .cells #[.int .i64 t369, .int .i64 t370] 30 (0, 0)) (by (with_reducible repeat (first | refine blk_drewN ?_ _ | refine blk_drew ?_ | refine blk_alloc ?_ _)); refine blk_put (cs := #[.int .i64 t369, .int .i64 0]) ?_ 1 _ rfl; (with_reducible repeat (first | refine blk_drewN ?_ _ | refine blk_drew ?_ | refine blk_alloc ?_ _)); refine blk_put (cs := #[.int .i64 0, .int .i64 0]) ?_ 0 _ rfl; (with_reducible repeat (first | refine blk_drewN ?_ _ | refine blk_drew ?_ | refine blk_alloc ?_ _)); exact BK372.out) hb); have n2_ := Aside0.mk (below_step (by repeat (first | (with_reducible first | exact HB.out | apply below_alloc | apply pw_below_drewN | apply below_drew1 | refine below_set ?_ GE366.out | refine below_set ?_ GE372.out) | exact HB.out)) hb); clear BK366; clear BK372; clear HB; have BK366 := n0_; have BK372 := n1_; have HB := n2_; clear n0_ n1_ n2_; (try clear hb); (try clear hb2); (try clear hk); (try clear hi)) | ((with_reducible refine gate_callee (f := 15) rfl ?_); refine goesL_ (some 25) rfl rfl Try.func15 (by kernel_rfl) rfl #[.agg #[.int .i64 t373, .int .i64 t374], .int .i64 0] rfl (by (try simp only [List.map_toArray, List.map_cons, List.map_nil]); first | done | rfl | (simp only [List.length_drop, List.length_take]; rfl)) ?_; (with_reducible refine (brake_Apply.calls t373 t374 0 t375 t376 t377 _ A6.out).mono ?_); rintro e w38 ⟨rfl, hb⟩; refine ⟨_, rfl, ?_⟩; have n0_ := Aside0.mk (blk_below (g := gb366) (o := .cells #[.int .i64 t363, .int .i64 t364] 30 (0, 0)) (by (with_reducible repeat (first | refine blk_drewN ?_ _ | refine blk_drew ?_ | refine blk_alloc ?_ _)); exact BK366.out) hb); have n1_ := Aside0.mk (blk_below (g := gb372) (o := .cells #[.int .i64 t369, .int .i64 t370] 30 (0, 0)) (by (with_reducible repeat (first | refine blk_drewN ?_ _ | refine blk_drew ?_ | refine blk_alloc ?_ _)); exact BK372.out) hb); have n2_ := Aside0.mk (below_step (by repeat (first | (with_reducible first | exact HB.out | apply below_alloc | apply pw_below_drewN | apply below_drew1 | refine below_set ?_ GE366.out | refine below_set ?_ GE372.out) | exact HB.out)) hb); clear BK366; clear BK372; clear HB; have BK366 := n0_; have BK372 := n1_; have HB := n2_; clear n0_ n1_ n2_; (try clear hb); (try clear hb2); (try clear hk); (try clear hi)) | ((with_reducible refine gate_dst (N := 5) rfl ?_); (try (refine gate_guard (by rfl) ?_; dsimp only)); refine box_event ?hg (N := 5) ?hd (cs := #[.int .i64 0, .int .i64 0]) (t := 30) ?hr ?_; (case hd => rfl); (case hg => rfl); (case hr => first | (go_simp; done) | (go_simp; rfl)); intro gb378 hg w39 hbox hb; have n0_ := Aside0.mk (blk_below (g := gb366) (o := .cells #[.int .i64 t363, .int .i64 t364] 30 (0, 0)) (by (with_reducible repeat (first | refine blk_drewN ?_ _ | refine blk_drew ?_ | refine blk_alloc ?_ _)); exact BK366.out) hb); have n1_ := Aside0.mk (blk_below (g := gb372) (o := .cells #[.int .i64 t369, .int .i64 t370] 30 (0, 0)) (by (with_reducible repeat (first | refine blk_drewN ?_ _ | refine blk_drew ?_ | refine blk_alloc ?_ _)); exact BK372.out) hb); have n2_ := Aside0.mk (below_step (by repeat (first | (with_reducible first | exact HB.out | apply below_alloc | apply pw_below_drewN | apply below_drew1 | refine below_set ?_ GE366.out | refine below_set ?_ GE372.out) | exact HB.out)) hb); have n3_ := Aside0.mk (hbox); have n4_ := Aside0.mk ((by rw [hg]; exact (below_size (by repeat (first | (with_reducible first | exact HB.out | apply below_alloc | apply pw_below_drewN | apply below_drew1 | refine below_set ?_ GE366.out | refine below_set ?_ GE372.out) | exact HB.out))) : w.heap.size ≤ gb378)); have n5_ := Aside0.mk ((by rw [hg]; exact (below_size (by repeat (first | (with_reducible first | exact HB.out | apply below_alloc | apply pw_below_drewN | apply below_drew1 | refine below_set ?_ GE366.out | refine below_set ?_ GE372.out) | exact HB.out))) : w.heap.size ≤ gb378)); have n6_ := Aside0.mk ((by rw [hg]; exact Nat.ne_of_lt (blk_lt (g := gb366) (o := .cells #[.int .i64 t363, .int .i64 t364] 30 (0, 0)) (by (with_reducible repeat (first | refine blk_drewN ?_ _ | refine blk_drew ?_ | refine blk_alloc ?_ _)); exact BK366.out)) : gb366 ≠ gb378)); have n7_ := Aside0.mk ((by rw [hg]; exact Nat.ne_of_gt (blk_lt (g := gb366) (o := .cells #[.int .i64 t363, .int .i64 t364] 30 (0, 0)) (by (with_reducible repeat (first | refine blk_drewN ?_ _ | refine blk_drew ?_ | refine blk_alloc ?_ _)); exact BK366.out)) : gb378 ≠ gb366)); have n8_ := Aside0.mk ((by rw [hg]; exact Nat.ne_of_lt (blk_lt (g := gb372) (o := .cells #[.int .i64 t369, .int .i64 t370] 30 (0, 0)) (by (with_reducible repeat (first | refine blk_drewN ?_ _ | refine blk_drew ?_ | refine blk_alloc ?_ _)); exact BK372.out)) : gb372 ≠ gb378)); have n9_ := Aside0.mk ((by rw [hg]; exact Nat.ne_of_gt (blk_lt (g := gb372) (o := .cells #[.int .i64 t369, .int .i64 t370] 30 (0, 0)) (by (with_reducible repeat (first | refine blk_drewN ?_ _ | refine blk_drew ?_ | refine blk_alloc ?_ _)); exact BK372.out)) : gb378 ≠ gb372)); clear BK366; clear BK372; clear HB; have BK366 := n0_; have BK372 := n1_; have HB := n2_; have BK378 := n3_; have GW378 := n4_; have GE378 := n5_; have NB366_378 := n6_; have NB378_366 := n7_; have NB372_378 := n8_; have NB378_372 := n9_; clear n0_ n1_ n2_ n3_ n4_ n5_ n6_ n7_ n8_ n9_; clear hb hbox hg; have hnb40 := NB378_366.out; have hnc40 := NB366_378.out; have hnb41 := NB378_372.out; have hnc41 := NB372_378.out; have hcz42_0 : w39.cell? ⟨gb378, 0, none⟩ = some (.int .i64 0) := (blk_cell BK378.out 0).trans rfl; have hcz42_1 : w39.cell? ⟨gb378, 1, none⟩ = some (.int .i64 0) := (blk_cell BK378.out 1).trans rfl; have hfz42_0 := blk_frozen BK378.out 0; have hfz42_1 := blk_frozen BK378.out 1) | ((with_reducible refine gate_callee (f := 13) rfl ?_); refine goesL_ (some 29) rfl rfl Try.func13 (by kernel_rfl) rfl #[] rfl (by (try simp only [List.map_toArray, List.map_cons, List.map_nil]); first | done | rfl | (simp only [List.length_drop, List.length_take]; rfl)) ?_; (with_reducible refine (brake_New.calls  t379 t380 _ A7.out).mono ?_); rintro e w43 ⟨rfl, hb⟩; refine ⟨_, rfl, ?_⟩; have n0_ := Aside0.mk (blk_below (g := gb366) (o := .cells #[.int .i64 t363, .int .i64 t364] 30 (0, 0)) (by (with_reducible repeat (first | refine blk_drewN ?_ _ | refine blk_drew ?_ | refine blk_alloc ?_ _)); refine blk_far ?_ NB366_378.out _; (with_reducible repeat (first | refine blk_drewN ?_ _ | refine blk_drew ?_ | refine blk_alloc ?_ _)); refine blk_far ?_ NB366_378.out _; (with_reducible repeat (first | refine blk_drewN ?_ _ | refine blk_drew ?_ | refine blk_alloc ?_ _)); exact BK366.out) hb); have n1_ := Aside0.mk (blk_below (g := gb372) (o := .cells #[.int .i64 t369, .int .i64 t370] 30 (0, 0)) (by (with_reducible repeat (first | refine blk_drewN ?_ _ | refine blk_drew ?_ | refine blk_alloc ?_ _)); refine blk_far ?_ NB372_378.out _; (with_reducible repeat (first | refine blk_drewN ?_ _ | refine blk_drew ?_ | refine blk_alloc ?_ _)); refine blk_far ?_ NB372_378.out _; (with_reducible repeat (first | refine blk_drewN ?_ _ | refine blk_drew ?_ | refine blk_alloc ?_ _)); exact BK372.out) hb); have n2_ := Aside0.mk (blk_below (g := gb378) (o := .cells #[.int .i64 t375, .int .i64 t376] 30 (0, 0)) (by (with_reducible repeat (first | refine blk_drewN ?_ _ | refine blk_drew ?_ | refine blk_alloc ?_ _)); refine blk_put (cs := #[.int .i64 t375, .int .i64 0]) ?_ 1 _ rfl; (with_reducible repeat (first | refine blk_drewN ?_ _ | refine blk_drew ?_ | refine blk_alloc ?_ _)); refine blk_put (cs := #[.int .i64 0, .int .i64 0]) ?_ 0 _ rfl; (with_reducible repeat (first | refine blk_drewN ?_ _ | refine blk_drew ?_ | refine blk_alloc ?_ _)); exact BK378.out) hb); have n3_ := Aside0.mk (below_step (by repeat (first | (with_reducible first | exact HB.out | apply below_alloc | apply pw_below_drewN | apply below_drew1 | refine below_set ?_ GE366.out | refine below_set ?_ GE372.out | refine below_set ?_ GE378.out) | exact HB.out)) hb); clear BK366; clear BK372; clear BK378; clear HB; have BK366 := n0_; have BK372 := n1_; have BK378 := n2_; have HB := n3_; clear n0_ n1_ n2_ n3_; (try clear hb); (try clear hb2); (try clear hk); (try clear hi)) | ((with_reducible refine gate_callee (f := 14) rfl ?_); refine goesL_ (some 30) rfl rfl Try.func14 (by kernel_rfl) rfl #[.agg #[.int .i64 t379, .int .i64 t380], .int .i64 0] rfl (by (try simp only [List.map_toArray, List.map_cons, List.map_nil]); first | done | rfl | (simp only [List.length_drop, List.length_take]; rfl)) ?_; (with_reducible refine (brake_Release.calls t379 t380 0 t381 t382 t383 _ A8.out).mono ?_); rintro e w44 ⟨rfl, hb⟩; refine ⟨_, rfl, ?_⟩; have n0_ := Aside0.mk (blk_below (g := gb366) (o := .cells #[.int .i64 t363, .int .i64 t364] 30 (0, 0)) (by (with_reducible repeat (first | refine blk_drewN ?_ _ | refine blk_drew ?_ | refine blk_alloc ?_ _)); exact BK366.out) hb); have n1_ := Aside0.mk (blk_below (g := gb372) (o := .cells #[.int .i64 t369, .int .i64 t370] 30 (0, 0)) (by (with_reducible repeat (first | refine blk_drewN ?_ _ | refine blk_drew ?_ | refine blk_alloc ?_ _)); exact BK372.out) hb); have n2_ := Aside0.mk (blk_below (g := gb378) (o := .cells #[.int .i64 t375, .int .i64 t376] 30 (0, 0)) (by (with_reducible repeat (first | refine blk_drewN ?_ _ | refine blk_drew ?_ | refine blk_alloc ?_ _)); exact BK378.out) hb); have n3_ := Aside0.mk (below_step (by repeat (first | (with_reducible first | exact HB.out | apply below_alloc | apply pw_below_drewN | apply below_drew1 | refine below_set ?_ GE366.out | refine below_set ?_ GE372.out | refine below_set ?_ GE378.out) | exact HB.out)) hb); clear BK366; clear BK372; clear BK378; clear HB; have BK366 := n0_; have BK372 := n1_; have BK378 := n2_; have HB := n3_; clear n0_ n1_ n2_ n3_; (try clear hb); (try clear hb2); (try clear hk); (try clear hi)) | ((with_reducible refine gate_dst (N := 7) rfl ?_); (try (refine gate_guard (by rfl) ?_; dsimp only)); refine box_event ?hg (N := 7) ?hd (cs := #[.int .i64 0, .int .i64 0]) (t := 30) ?hr ?_; (case hd => rfl); (case hg => rfl); (case hr => first | (go_simp; done) | (go_simp; rfl)); intro gb384 hg w45 hbox hb; have n0_ := Aside0.mk (blk_below (g := gb366) (o := .cells #[.int .i64 t363, .int .i64 t364] 30 (0, 0)) (by (with_reducible repeat (first | refine blk_drewN ?_ _ | refine blk_drew ?_ | refine blk_alloc ?_ _)); exact BK366.out) hb); have n1_ := Aside0.mk (blk_below (g := gb372) (o := .cells #[.int .i64 t369, .int .i64 t370] 30 (0, 0)) (by (with_reducible repeat (first | refine blk_drewN ?_ _ | refine blk_drew ?_ | refine blk_alloc ?_ _)); exact BK372.out) hb); have n2_ := Aside0.mk (blk_below (g := gb378) (o := .cells #[.int .i64 t375, .int .i64 t376] 30 (0, 0)) (by (with_reducible repeat (first | refine blk_drewN ?_ _ | refine blk_drew ?_ | refine blk_alloc ?_ _)); exact BK378.out) hb); have n3_ := Aside0.mk (below_step (by repeat (first | (with_reducible first | exact HB.out | apply below_alloc | apply pw_below_drewN | apply below_drew1 | refine below_set ?_ GE366.out | refine below_set ?_ GE372.out | refine below_set ?_ GE378.out) | exact HB.out)) hb); have n4_ := Aside0.mk (hbox); have n5_ := Aside0.mk ((by rw [hg]; exact (below_size (by repeat (first | (with_reducible first | exact HB.out | apply below_alloc | apply pw_below_drewN | apply below_drew1 | refine below_set ?_ GE366.out | refine below_set ?_ GE372.out | refine below_set ?_ GE378.out) | exact HB.out))) : w.heap.size ≤ gb384)); have n6_ := Aside0.mk ((by rw [hg]; exact (below_size (by repeat (first | (with_reducible first | exact HB.out | apply below_alloc | apply pw_below_drewN | apply below_drew1 | refine below_set ?_ GE366.out | refine below_set ?_ GE372.out | refine below_set ?_ GE378.out) | exact HB.out))) : w.heap.size ≤ gb384)); have n7_ := Aside0.mk ((by rw [hg]; exact Nat.ne_of_lt (blk_lt (g := gb366) (o := .cells #[.int .i64 t363, .int .i64 t364] 30 (0, 0)) (by (with_reducible repeat (first | refine blk_drewN ?_ _ | refine blk_drew ?_ | refine blk_alloc ?_ _)); exact BK366.out)) : gb366 ≠ gb384)); have n8_ := Aside0.mk ((by rw [hg]; exact Nat.ne_of_gt (blk_lt (g := gb366) (o := .cells #[.int .i64 t363, .int .i64 t364] 30 (0, 0)) (by (with_reducible repeat (first | refine blk_drewN ?_ _ | refine blk_drew ?_ | refine blk_alloc ?_ _)); exact BK366.out)) : gb384 ≠ gb366)); have n9_ := Aside0.mk ((by rw [hg]; exact Nat.ne_of_lt (blk_lt (g := gb372) (o := .cells #[.int .i64 t369, .int .i64 t370] 30 (0, 0)) (by (with_reducible repeat (first | refine blk_drewN ?_ _ | refine blk_drew ?_ | refine blk_alloc ?_ _)); exact BK372.out)) : gb372 ≠ gb384)); have n10_ := Aside0.mk ((by rw [hg]; exact Nat.ne_of_gt (blk_lt (g := gb372) (o := .cells #[.int .i64 t369, .int .i64 t370] 30 (0, 0)) (by (with_reducible repeat (first | refine blk_drewN ?_ _ | refine blk_drew ?_ | refine blk_alloc ?_ _)); exact BK372.out)) : gb384 ≠ gb372)); have n11_ := Aside0.mk ((by rw [hg]; exact Nat.ne_of_lt (blk_lt (g := gb378) (o := .cells #[.int .i64 t375, .int .i64 t376] 30 (0, 0)) (by (with_reducible repeat (first | refine blk_drewN ?_ _ | refine blk_drew ?_ | refine blk_alloc ?_ _)); exact BK378.out)) : gb378 ≠ gb384)); have n12_ := Aside0.mk ((by rw [hg]; exact Nat.ne_of_gt (blk_lt (g := gb378) (o := .cells #[.int .i64 t375, .int .i64 t376] 30 (0, 0)) (by (with_reducible repeat (first | refine blk_drewN ?_ _ | refine blk_drew ?_ | refine blk_alloc ?_ _)); exact BK378.out)) : gb384 ≠ gb378)); clear BK366; clear BK372; clear BK378; clear HB; have BK366 := n0_; have BK372 := n1_; have BK378 := n2_; have HB := n3_; have BK384 := n4_; have GW384 := n5_; have GE384 := n6_; have NB366_384 := n7_; have NB384_366 := n8_; have NB372_384 := n9_; have NB384_372 := n10_; have NB378_384 := n11_; have NB384_378 := n12_; clear n0_ n1_ n2_ n3_ n4_ n5_ n6_ n7_ n8_ n9_ n10_ n11_ n12_; clear hb hbox hg; have hnb46 := NB384_366.out; have hnc46 := NB366_384.out; have hnb47 := NB384_372.out; have hnc47 := NB372_384.out; have hnb48 := NB384_378.out; have hnc48 := NB378_384.out; have hcz49_0 : w45.cell? ⟨gb384, 0, none⟩ = some (.int .i64 0) := (blk_cell BK384.out 0).trans rfl; have hcz49_1 : w45.cell? ⟨gb384, 1, none⟩ = some (.int .i64 0) := (blk_cell BK384.out 1).trans rfl; have hfz49_0 := blk_frozen BK384.out 0; have hfz49_1 := blk_frozen BK384.out 1))
          have n0_ : Aside0 (((w45.setCell ⟨gb384, 0, none⟩ (.int .i64 t381)).setCell ⟨gb384, 1, none⟩ (.int .i64 t382)).heap[gb366]? = some (.cells #[.int .i64 t363, .int .i64 t364] 30 (0, 0))) := ⟨by (with_reducible repeat (first | refine blk_drewN ?_ _ | refine blk_drew ?_ | refine blk_alloc ?_ _)); refine blk_far ?_ NB366_384.out _; (with_reducible repeat (first | refine blk_drewN ?_ _ | refine blk_drew ?_ | refine blk_alloc ?_ _)); refine blk_far ?_ NB366_384.out _; (with_reducible repeat (first | refine blk_drewN ?_ _ | refine blk_drew ?_ | refine blk_alloc ?_ _)); exact BK366.out⟩
          have n1_ : Aside0 (((w45.setCell ⟨gb384, 0, none⟩ (.int .i64 t381)).setCell ⟨gb384, 1, none⟩ (.int .i64 t382)).heap[gb372]? = some (.cells #[.int .i64 t369, .int .i64 t370] 30 (0, 0))) := ⟨by (with_reducible repeat (first | refine blk_drewN ?_ _ | refine blk_drew ?_ | refine blk_alloc ?_ _)); refine blk_far ?_ NB372_384.out _; (with_reducible repeat (first | refine blk_drewN ?_ _ | refine blk_drew ?_ | refine blk_alloc ?_ _)); refine blk_far ?_ NB372_384.out _; (with_reducible repeat (first | refine blk_drewN ?_ _ | refine blk_drew ?_ | refine blk_alloc ?_ _)); exact BK372.out⟩
          have n2_ : Aside0 (((w45.setCell ⟨gb384, 0, none⟩ (.int .i64 t381)).setCell ⟨gb384, 1, none⟩ (.int .i64 t382)).heap[gb378]? = some (.cells #[.int .i64 t375, .int .i64 t376] 30 (0, 0))) := ⟨by (with_reducible repeat (first | refine blk_drewN ?_ _ | refine blk_drew ?_ | refine blk_alloc ?_ _)); refine blk_far ?_ NB378_384.out _; (with_reducible repeat (first | refine blk_drewN ?_ _ | refine blk_drew ?_ | refine blk_alloc ?_ _)); refine blk_far ?_ NB378_384.out _; (with_reducible repeat (first | refine blk_drewN ?_ _ | refine blk_drew ?_ | refine blk_alloc ?_ _)); exact BK378.out⟩
          have n3_ : Aside0 (((w45.setCell ⟨gb384, 0, none⟩ (.int .i64 t381)).setCell ⟨gb384, 1, none⟩ (.int .i64 t382)).heap[gb384]? = some (.cells #[.int .i64 t381, .int .i64 t382] 30 (0, 0))) := ⟨by (with_reducible repeat (first | refine blk_drewN ?_ _ | refine blk_drew ?_ | refine blk_alloc ?_ _)); refine blk_put (cs := #[.int .i64 t381, .int .i64 0]) ?_ 1 _ rfl; (with_reducible repeat (first | refine blk_drewN ?_ _ | refine blk_drew ?_ | refine blk_alloc ?_ _)); refine blk_put (cs := #[.int .i64 0, .int .i64 0]) ?_ 0 _ rfl; (with_reducible repeat (first | refine blk_drewN ?_ _ | refine blk_drew ?_ | refine blk_alloc ?_ _)); exact BK384.out⟩
          have n4_ : Aside0 (Below w.heap.size w ((w45.setCell ⟨gb384, 0, none⟩ (.int .i64 t381)).setCell ⟨gb384, 1, none⟩ (.int .i64 t382))) := ⟨by repeat (first | (with_reducible first | exact HB.out | apply below_alloc | apply pw_below_drewN | apply below_drew1 | refine below_set ?_ GE366.out | refine below_set ?_ GE372.out | refine below_set ?_ GE378.out | refine below_set ?_ GE384.out) | exact HB.out)⟩
          (try clear BK366)
          (try clear BK372)
          (try clear BK378)
          (try clear BK384)
          (try clear HB)
          generalize ((w45.setCell ⟨gb384, 0, none⟩ (.int .i64 t381)).setCell ⟨gb384, 1, none⟩ (.int .i64 t382)) = w50 at n0_ n1_ n2_ n3_ n4_ ⊢
          have BK366 := n0_
          have BK372 := n1_
          have BK378 := n2_
          have BK384 := n3_
          have HB := n4_
          clear n0_ n1_ n2_ n3_ n4_
          have n0_ := Aside0.mk (blk_drew BK366.out)
          have n1_ := Aside0.mk (blk_drew BK372.out)
          have n2_ := Aside0.mk (blk_drew BK378.out)
          have n3_ := Aside0.mk (blk_drew BK384.out)
          have n4_ := Aside0.mk (below_drew1 HB.out)
          clear BK366
          clear BK372
          clear BK378
          clear BK384
          clear HB
          have BK366 := n0_
          have BK372 := n1_
          have BK378 := n2_
          have BK384 := n3_
          have HB := n4_
          clear n0_ n1_ n2_ n3_ n4_
          refine start_ (n := 26) (S := fun w' => w'.cell? ⟨gb366, 0, none⟩ = some (.int .i64 t363) ∧ w'.cell? ⟨gb366, 1, none⟩ = some (.int .i64 t364) ∧ w'.cell? ⟨gb372, 0, none⟩ = some (.int .i64 t369) ∧ w'.cell? ⟨gb372, 1, none⟩ = some (.int .i64 t370) ∧ w'.cell? ⟨gb378, 0, none⟩ = some (.int .i64 t375) ∧ w'.cell? ⟨gb378, 1, none⟩ = some (.int .i64 t376) ∧ w'.cell? ⟨gb384, 0, none⟩ = some (.int .i64 t381) ∧ w'.cell? ⟨gb384, 1, none⟩ = some (.int .i64 t382)) (ds := []) #[false, false, false, false, false, false, false, false, false, false, false, false, false, false, false, false, false, false, false, false, false, false, false, false, false, false] (by kernel_rfl) rfl rfl ⟨(blk_cell BK366.out 0).trans rfl, (blk_cell BK366.out 1).trans rfl, (blk_cell BK372.out 0).trans rfl, (blk_cell BK372.out 1).trans rfl, (blk_cell BK378.out 0).trans rfl, (blk_cell BK378.out 1).trans rfl, (blk_cell BK384.out 0).trans rfl, (blk_cell BK384.out 1).trans rfl⟩ (fun hHeld => ?_); refine with_tabW tipstafflaw10_BrakeKnown.tab5 tipstafflaw10_BrakeKnown.bits5 (fun HT_ HW_ => ?_)
          generalize w50.drew = w51 at BK366 BK372 BK378 BK384 HB hHeld ⊢
          refine pure_ (i := 1) (N := some 34) (v := ?_) (a' := ?_) #[false, true, false, false, false, false, false, false, false, false, false, false, false, false, false, false, false, false, false, false, false, false, false, false, false, false] rfl rfl (any_of HT_.out (by kernel_rfl)) (fun _ _ _ h => h) (Or.inl ⟨by rfl, ?_⟩) ?_ ?_
          rotate_left
          · intro w'
            go_simp
            with_reducible rfl
          rotate_left
          · simp only [Act.put, List.setIfInBounds_toArray, List.set_cons_zero, List.set_cons_succ, i64_w, i32_w]
            rfl
          refine take_ (i := 0) (N := some 33) (v := ?_) (a' := ?_) #[true, true, false, false, false, false, false, false, false, false, false, false, false, false, false, false, false, false, false, false, false, false, false, false, false, false] rfl rfl (take_ofW HT_.out HW_.out (by kernel_rfl)) (fun _ _ _ h => h) (Or.inl ⟨by rfl, ?_⟩) hHeld ?_ ?_
          rotate_left
          · rintro w' ⟨s0, s1, s2, s3, s4, s5, s6, s7⟩
            go_simp
            with_reducible rfl
          rotate_left
          · simp only [Act.put, List.setIfInBounds_toArray, List.set_cons_zero, List.set_cons_succ, i64_w, i32_w]
            rfl
          refine one_ (i := 2) (N := some 35) #[true, true, true, false, false, false, false, false, false, false, false, false, false, false, false, false, false, false, false, false, false, false, false, false, false, false] rfl rfl (one_of HT_.out (by kernel_rfl)) (by decide) (fun K hK => ?_)
          refine goes_ Try.func27 (by kernel_rfl) rfl #[.int .i64 2, .int .i64 0] (by rfl) rfl rfl (by (try simp only [List.map_toArray, List.map_cons, List.map_nil]); first | done | rfl | (simp only [List.length_drop, List.length_take]; rfl)) ?_
          with_reducible refine (tipstafflaw10_at.calls 2 0 t385 t386 _ A9.out).mono ?_
          rintro e w52 ⟨rfl, hb⟩
          refine ⟨_, rfl, ?_⟩
          have n0_ := Aside0.mk (blk_below (g := gb366) (o := .cells #[.int .i64 t363, .int .i64 t364] 30 (0, 0)) (by (with_reducible repeat (first | refine blk_drewN ?_ _ | refine blk_drew ?_ | refine blk_alloc ?_ _)); exact BK366.out) hb)
          have n1_ := Aside0.mk (blk_below (g := gb372) (o := .cells #[.int .i64 t369, .int .i64 t370] 30 (0, 0)) (by (with_reducible repeat (first | refine blk_drewN ?_ _ | refine blk_drew ?_ | refine blk_alloc ?_ _)); exact BK372.out) hb)
          have n2_ := Aside0.mk (blk_below (g := gb378) (o := .cells #[.int .i64 t375, .int .i64 t376] 30 (0, 0)) (by (with_reducible repeat (first | refine blk_drewN ?_ _ | refine blk_drew ?_ | refine blk_alloc ?_ _)); exact BK378.out) hb)
          have n3_ := Aside0.mk (blk_below (g := gb384) (o := .cells #[.int .i64 t381, .int .i64 t382] 30 (0, 0)) (by (with_reducible repeat (first | refine blk_drewN ?_ _ | refine blk_drew ?_ | refine blk_alloc ?_ _)); exact BK384.out) hb)
          have n4_ := Aside0.mk (below_step (by repeat (first | (with_reducible first | exact HB.out | apply below_alloc | apply pw_below_drewN | apply below_drew1 | refine below_set ?_ GE366.out | refine below_set ?_ GE372.out | refine below_set ?_ GE378.out | refine below_set ?_ GE384.out) | exact HB.out)) hb)
          clear BK366
          clear BK372
          clear BK378
          clear BK384
          clear HB
          have BK366 := n0_
          have BK372 := n1_
          have BK378 := n2_
          have BK384 := n3_
          have HB := n4_
          clear n0_ n1_ n2_ n3_ n4_
          (try clear hb)
          (try clear hb2)
          (try clear hk)
          (try clear hi)
          refine hK.out _ _ ⟨(blk_cell BK366.out 0).trans rfl, (blk_cell BK366.out 1).trans rfl, (blk_cell BK372.out 0).trans rfl, (blk_cell BK372.out 1).trans rfl, (blk_cell BK378.out 0).trans rfl, (blk_cell BK378.out 1).trans rfl, (blk_cell BK384.out 0).trans rfl, (blk_cell BK384.out 1).trans rfl⟩ (fun hHeld => ?_)
          clear hK K
          refine norm_ (a' := ?_) ?_ ?_
          rotate_left
          · show Act.put _ (some 35) _ = _
            simp only [Act.put, List.setIfInBounds_toArray, List.set_cons_zero, List.set_cons_succ, i64_w, i32_w]
            rfl
          refine one_ (i := 3) (N := some 36) #[true, true, true, true, false, false, false, false, false, false, false, false, false, false, false, false, false, false, false, false, false, false, false, false, false, false] rfl rfl (one_of HT_.out (by kernel_rfl)) (by decide) (fun K hK => ?_)
          refine goes_ Try.func26 (by kernel_rfl) rfl #[.agg #[.int .i64 t363, .int .i64 t364], .int .i64 t365, .agg #[.int .i64 t385, .int .i64 t386]] (by rfl) rfl rfl (by (try simp only [List.map_toArray, List.map_cons, List.map_nil]); first | done | rfl | (simp only [List.length_drop, List.length_take]; rfl)) ?_
          with_reducible refine (tipstafflaw10_is.calls t363 t364 t365 t385 t386 true _ A10.out).mono ?_
          rintro e w53 ⟨rfl, hb⟩
          refine ⟨_, rfl, ?_⟩
          have n0_ := Aside0.mk (blk_below (g := gb366) (o := .cells #[.int .i64 t363, .int .i64 t364] 30 (0, 0)) (by (with_reducible repeat (first | refine blk_drewN ?_ _ | refine blk_drew ?_ | refine blk_alloc ?_ _)); exact BK366.out) hb)
          have n1_ := Aside0.mk (blk_below (g := gb372) (o := .cells #[.int .i64 t369, .int .i64 t370] 30 (0, 0)) (by (with_reducible repeat (first | refine blk_drewN ?_ _ | refine blk_drew ?_ | refine blk_alloc ?_ _)); exact BK372.out) hb)
          have n2_ := Aside0.mk (blk_below (g := gb378) (o := .cells #[.int .i64 t375, .int .i64 t376] 30 (0, 0)) (by (with_reducible repeat (first | refine blk_drewN ?_ _ | refine blk_drew ?_ | refine blk_alloc ?_ _)); exact BK378.out) hb)
          have n3_ := Aside0.mk (blk_below (g := gb384) (o := .cells #[.int .i64 t381, .int .i64 t382] 30 (0, 0)) (by (with_reducible repeat (first | refine blk_drewN ?_ _ | refine blk_drew ?_ | refine blk_alloc ?_ _)); exact BK384.out) hb)
          have n4_ := Aside0.mk (below_step (by repeat (first | (with_reducible first | exact HB.out | apply below_alloc | apply pw_below_drewN | apply below_drew1 | refine below_set ?_ GE366.out | refine below_set ?_ GE372.out | refine below_set ?_ GE378.out | refine below_set ?_ GE384.out) | exact HB.out)) hb)
          clear BK366
          clear BK372
          clear BK378
          clear BK384
          clear HB
          have BK366 := n0_
          have BK372 := n1_
          have BK378 := n2_
          have BK384 := n3_
          have HB := n4_
          clear n0_ n1_ n2_ n3_ n4_
          (try clear hb)
          (try clear hb2)
          (try clear hk)
          (try clear hi)
          refine hK.out _ _ ⟨(blk_cell BK366.out 0).trans rfl, (blk_cell BK366.out 1).trans rfl, (blk_cell BK372.out 0).trans rfl, (blk_cell BK372.out 1).trans rfl, (blk_cell BK378.out 0).trans rfl, (blk_cell BK378.out 1).trans rfl, (blk_cell BK384.out 0).trans rfl, (blk_cell BK384.out 1).trans rfl⟩ (fun hHeld => ?_)
          clear hK K
          refine norm_ (a' := ?_) ?_ ?_
          rotate_left
          · show Act.put _ (some 36) _ = _
            simp only [Act.put, List.setIfInBounds_toArray, List.set_cons_zero, List.set_cons_succ, i64_w, i32_w]
            rfl
          refine pure_ (i := 4) (N := some 37) (v := ?_) (a' := ?_) #[true, true, true, true, true, false, false, false, false, false, false, false, false, false, false, false, false, false, false, false, false, false, false, false, false, false] rfl rfl (any_of HT_.out (by kernel_rfl)) (fun _ _ _ h => h) (Or.inl ⟨by rfl, ?_⟩) ?_ ?_
          rotate_left
          · intro w'
            go_simp
            with_reducible rfl
          rotate_left
          · simp only [Act.put, List.setIfInBounds_toArray, List.set_cons_zero, List.set_cons_succ, i64_w, i32_w]
            rfl
          refine pure_ (i := 5) (N := some 38) (v := ?_) (a' := ?_) #[true, true, true, true, true, true, false, false, false, false, false, false, false, false, false, false, false, false, false, false, false, false, false, false, false, false] rfl rfl (any_of HT_.out (by kernel_rfl)) (fun _ _ _ h => h) (Or.inl ⟨by rfl, ?_⟩) ?_ ?_
          rotate_left
          · intro w'
            go_simp
            with_reducible rfl
          rotate_left
          · simp only [Act.put, List.setIfInBounds_toArray, List.set_cons_zero, List.set_cons_succ, i64_w, i32_w]
            rfl
          refine pure_ (i := 7) (N := some 40) (v := ?_) (a' := ?_) #[true, true, true, true, true, true, false, true, false, false, false, false, false, false, false, false, false, false, false, false, false, false, false, false, false, false] rfl rfl (any_of HT_.out (by kernel_rfl)) (fun _ _ _ h => h) (Or.inl ⟨by rfl, ?_⟩) ?_ ?_
          rotate_left
          · intro w'
            go_simp
            with_reducible rfl
          rotate_left
          · simp only [Act.put, List.setIfInBounds_toArray, List.set_cons_zero, List.set_cons_succ, i64_w, i32_w]
            rfl
          refine take_ (i := 6) (N := some 39) (v := ?_) (a' := ?_) #[true, true, true, true, true, true, true, true, false, false, false, false, false, false, false, false, false, false, false, false, false, false, false, false, false, false] rfl rfl (take_ofW HT_.out HW_.out (by kernel_rfl)) (fun _ _ _ h => h) (Or.inl ⟨by rfl, ?_⟩) hHeld ?_ ?_
          rotate_left
          · rintro w' ⟨s0, s1, s2, s3, s4, s5, s6, s7⟩
            go_simp
            with_reducible rfl
          rotate_left
          · simp only [Act.put, List.setIfInBounds_toArray, List.set_cons_zero, List.set_cons_succ, i64_w, i32_w]
            rfl
          refine one_ (i := 8) (N := some 41) #[true, true, true, true, true, true, true, true, true, false, false, false, false, false, false, false, false, false, false, false, false, false, false, false, false, false] rfl rfl (one_of HT_.out (by kernel_rfl)) (by decide) (fun K hK => ?_)
          refine goes_ Try.func27 (by kernel_rfl) rfl #[.int .i64 3, .int .i64 2] (by rfl) rfl rfl (by (try simp only [List.map_toArray, List.map_cons, List.map_nil]); first | done | rfl | (simp only [List.length_drop, List.length_take]; rfl)) ?_
          with_reducible refine (tipstafflaw10_at.calls 3 2 t388 t389 _ A12.out).mono ?_
          rintro e w54 ⟨rfl, hb⟩
          refine ⟨_, rfl, ?_⟩
          have n0_ := Aside0.mk (blk_below (g := gb366) (o := .cells #[.int .i64 t363, .int .i64 t364] 30 (0, 0)) (by (with_reducible repeat (first | refine blk_drewN ?_ _ | refine blk_drew ?_ | refine blk_alloc ?_ _)); exact BK366.out) hb)
          have n1_ := Aside0.mk (blk_below (g := gb372) (o := .cells #[.int .i64 t369, .int .i64 t370] 30 (0, 0)) (by (with_reducible repeat (first | refine blk_drewN ?_ _ | refine blk_drew ?_ | refine blk_alloc ?_ _)); exact BK372.out) hb)
          have n2_ := Aside0.mk (blk_below (g := gb378) (o := .cells #[.int .i64 t375, .int .i64 t376] 30 (0, 0)) (by (with_reducible repeat (first | refine blk_drewN ?_ _ | refine blk_drew ?_ | refine blk_alloc ?_ _)); exact BK378.out) hb)
          have n3_ := Aside0.mk (blk_below (g := gb384) (o := .cells #[.int .i64 t381, .int .i64 t382] 30 (0, 0)) (by (with_reducible repeat (first | refine blk_drewN ?_ _ | refine blk_drew ?_ | refine blk_alloc ?_ _)); exact BK384.out) hb)
          have n4_ := Aside0.mk (below_step (by repeat (first | (with_reducible first | exact HB.out | apply below_alloc | apply pw_below_drewN | apply below_drew1 | refine below_set ?_ GE366.out | refine below_set ?_ GE372.out | refine below_set ?_ GE378.out | refine below_set ?_ GE384.out) | exact HB.out)) hb)
          clear BK366
          clear BK372
          clear BK378
          clear BK384
          clear HB
          have BK366 := n0_
          have BK372 := n1_
          have BK378 := n2_
          have BK384 := n3_
          have HB := n4_
          clear n0_ n1_ n2_ n3_ n4_
          (try clear hb)
          (try clear hb2)
          (try clear hk)
          (try clear hi)
          refine hK.out _ _ ⟨(blk_cell BK366.out 0).trans rfl, (blk_cell BK366.out 1).trans rfl, (blk_cell BK372.out 0).trans rfl, (blk_cell BK372.out 1).trans rfl, (blk_cell BK378.out 0).trans rfl, (blk_cell BK378.out 1).trans rfl, (blk_cell BK384.out 0).trans rfl, (blk_cell BK384.out 1).trans rfl⟩ (fun hHeld => ?_)
          clear hK K
          refine norm_ (a' := ?_) ?_ ?_
          rotate_left
          · show Act.put _ (some 41) _ = _
            simp only [Act.put, List.setIfInBounds_toArray, List.set_cons_zero, List.set_cons_succ, i64_w, i32_w]
            rfl
          refine one_ (i := 9) (N := some 42) #[true, true, true, true, true, true, true, true, true, true, false, false, false, false, false, false, false, false, false, false, false, false, false, false, false, false] rfl rfl (one_of HT_.out (by kernel_rfl)) (by decide) (fun K hK => ?_)
          refine goes_ Try.func26 (by kernel_rfl) rfl #[.agg #[.int .i64 t369, .int .i64 t370], .int .i64 t371, .agg #[.int .i64 t388, .int .i64 t389]] (by rfl) rfl rfl (by (try simp only [List.map_toArray, List.map_cons, List.map_nil]); first | done | rfl | (simp only [List.length_drop, List.length_take]; rfl)) ?_
          with_reducible refine (tipstafflaw10_is.calls t369 t370 t371 t388 t389 true _ A13.out).mono ?_
          rintro e w55 ⟨rfl, hb⟩
          refine ⟨_, rfl, ?_⟩
          have n0_ := Aside0.mk (blk_below (g := gb366) (o := .cells #[.int .i64 t363, .int .i64 t364] 30 (0, 0)) (by (with_reducible repeat (first | refine blk_drewN ?_ _ | refine blk_drew ?_ | refine blk_alloc ?_ _)); exact BK366.out) hb)
          have n1_ := Aside0.mk (blk_below (g := gb372) (o := .cells #[.int .i64 t369, .int .i64 t370] 30 (0, 0)) (by (with_reducible repeat (first | refine blk_drewN ?_ _ | refine blk_drew ?_ | refine blk_alloc ?_ _)); exact BK372.out) hb)
          have n2_ := Aside0.mk (blk_below (g := gb378) (o := .cells #[.int .i64 t375, .int .i64 t376] 30 (0, 0)) (by (with_reducible repeat (first | refine blk_drewN ?_ _ | refine blk_drew ?_ | refine blk_alloc ?_ _)); exact BK378.out) hb)
          have n3_ := Aside0.mk (blk_below (g := gb384) (o := .cells #[.int .i64 t381, .int .i64 t382] 30 (0, 0)) (by (with_reducible repeat (first | refine blk_drewN ?_ _ | refine blk_drew ?_ | refine blk_alloc ?_ _)); exact BK384.out) hb)
          have n4_ := Aside0.mk (below_step (by repeat (first | (with_reducible first | exact HB.out | apply below_alloc | apply pw_below_drewN | apply below_drew1 | refine below_set ?_ GE366.out | refine below_set ?_ GE372.out | refine below_set ?_ GE378.out | refine below_set ?_ GE384.out) | exact HB.out)) hb)
          clear BK366
          clear BK372
          clear BK378
          clear BK384
          clear HB
          have BK366 := n0_
          have BK372 := n1_
          have BK378 := n2_
          have BK384 := n3_
          have HB := n4_
          clear n0_ n1_ n2_ n3_ n4_
          (try clear hb)
          (try clear hb2)
          (try clear hk)
          (try clear hi)
          refine hK.out _ _ ⟨(blk_cell BK366.out 0).trans rfl, (blk_cell BK366.out 1).trans rfl, (blk_cell BK372.out 0).trans rfl, (blk_cell BK372.out 1).trans rfl, (blk_cell BK378.out 0).trans rfl, (blk_cell BK378.out 1).trans rfl, (blk_cell BK384.out 0).trans rfl, (blk_cell BK384.out 1).trans rfl⟩ (fun hHeld => ?_)
          clear hK K
          refine norm_ (a' := ?_) ?_ ?_
          rotate_left
          · show Act.put _ (some 42) _ = _
            simp only [Act.put, List.setIfInBounds_toArray, List.set_cons_zero, List.set_cons_succ, i64_w, i32_w]
            rfl
          refine pure_ (i := 10) (N := some 43) (v := ?_) (a' := ?_) #[true, true, true, true, true, true, true, true, true, true, true, false, false, false, false, false, false, false, false, false, false, false, false, false, false, false] rfl rfl (any_of HT_.out (by kernel_rfl)) (fun _ _ _ h => h) (Or.inl ⟨by rfl, ?_⟩) ?_ ?_
          rotate_left
          · intro w'
            go_simp
            with_reducible rfl
          rotate_left
          · simp only [Act.put, List.setIfInBounds_toArray, List.set_cons_zero, List.set_cons_succ, i64_w, i32_w]
            rfl
          refine pure_ (i := 11) (N := some 44) (v := ?_) (a' := ?_) #[true, true, true, true, true, true, true, true, true, true, true, true, false, false, false, false, false, false, false, false, false, false, false, false, false, false] rfl rfl (any_of HT_.out (by kernel_rfl)) (fun _ _ _ h => h) (Or.inl ⟨by rfl, ?_⟩) ?_ ?_
          rotate_left
          · intro w'
            go_simp
            with_reducible rfl
          rotate_left
          · simp only [Act.put, List.setIfInBounds_toArray, List.set_cons_zero, List.set_cons_succ, i64_w, i32_w]
            rfl
          refine pure_ (i := 12) (N := some 45) (v := ?_) (a' := ?_) #[true, true, true, true, true, true, true, true, true, true, true, true, true, false, false, false, false, false, false, false, false, false, false, false, false, false] rfl rfl (any_of HT_.out (by kernel_rfl)) (fun _ _ _ h => h) (Or.inl ⟨by rfl, ?_⟩) ?_ ?_
          rotate_left
          · intro w'
            go_simp
            with_reducible rfl
          rotate_left
          · simp only [Act.put, List.setIfInBounds_toArray, List.set_cons_zero, List.set_cons_succ, i64_w, i32_w]
            rfl
          refine pure_ (i := 14) (N := some 47) (v := ?_) (a' := ?_) #[true, true, true, true, true, true, true, true, true, true, true, true, true, false, true, false, false, false, false, false, false, false, false, false, false, false] rfl rfl (any_of HT_.out (by kernel_rfl)) (fun _ _ _ h => h) (Or.inl ⟨by rfl, ?_⟩) ?_ ?_
          rotate_left
          · intro w'
            go_simp
            with_reducible rfl
          rotate_left
          · simp only [Act.put, List.setIfInBounds_toArray, List.set_cons_zero, List.set_cons_succ, i64_w, i32_w]
            rfl
          refine take_ (i := 13) (N := some 46) (v := ?_) (a' := ?_) #[true, true, true, true, true, true, true, true, true, true, true, true, true, true, true, false, false, false, false, false, false, false, false, false, false, false] rfl rfl (take_ofW HT_.out HW_.out (by kernel_rfl)) (fun _ _ _ h => h) (Or.inl ⟨by rfl, ?_⟩) hHeld ?_ ?_
          rotate_left
          · rintro w' ⟨s0, s1, s2, s3, s4, s5, s6, s7⟩
            go_simp
            with_reducible rfl
          rotate_left
          · simp only [Act.put, List.setIfInBounds_toArray, List.set_cons_zero, List.set_cons_succ, i64_w, i32_w]
            rfl
          refine one_ (i := 15) (N := some 48) #[true, true, true, true, true, true, true, true, true, true, true, true, true, true, true, true, false, false, false, false, false, false, false, false, false, false] rfl rfl (one_of HT_.out (by kernel_rfl)) (by decide) (fun K hK => ?_)
          refine goes_ Try.func27 (by kernel_rfl) rfl #[.int .i64 0, .int .i64 0] (by rfl) rfl rfl (by (try simp only [List.map_toArray, List.map_cons, List.map_nil]); first | done | rfl | (simp only [List.length_drop, List.length_take]; rfl)) ?_
          with_reducible refine (tipstafflaw10_at.calls 0 0 t391 t392 _ A15.out).mono ?_
          rintro e w56 ⟨rfl, hb⟩
          refine ⟨_, rfl, ?_⟩
          have n0_ := Aside0.mk (blk_below (g := gb366) (o := .cells #[.int .i64 t363, .int .i64 t364] 30 (0, 0)) (by (with_reducible repeat (first | refine blk_drewN ?_ _ | refine blk_drew ?_ | refine blk_alloc ?_ _)); exact BK366.out) hb)
          have n1_ := Aside0.mk (blk_below (g := gb372) (o := .cells #[.int .i64 t369, .int .i64 t370] 30 (0, 0)) (by (with_reducible repeat (first | refine blk_drewN ?_ _ | refine blk_drew ?_ | refine blk_alloc ?_ _)); exact BK372.out) hb)
          have n2_ := Aside0.mk (blk_below (g := gb378) (o := .cells #[.int .i64 t375, .int .i64 t376] 30 (0, 0)) (by (with_reducible repeat (first | refine blk_drewN ?_ _ | refine blk_drew ?_ | refine blk_alloc ?_ _)); exact BK378.out) hb)
          have n3_ := Aside0.mk (blk_below (g := gb384) (o := .cells #[.int .i64 t381, .int .i64 t382] 30 (0, 0)) (by (with_reducible repeat (first | refine blk_drewN ?_ _ | refine blk_drew ?_ | refine blk_alloc ?_ _)); exact BK384.out) hb)
          have n4_ := Aside0.mk (below_step (by repeat (first | (with_reducible first | exact HB.out | apply below_alloc | apply pw_below_drewN | apply below_drew1 | refine below_set ?_ GE366.out | refine below_set ?_ GE372.out | refine below_set ?_ GE378.out | refine below_set ?_ GE384.out) | exact HB.out)) hb)
          clear BK366
          clear BK372
          clear BK378
          clear BK384
          clear HB
          have BK366 := n0_
          have BK372 := n1_
          have BK378 := n2_
          have BK384 := n3_
          have HB := n4_
          clear n0_ n1_ n2_ n3_ n4_
          (try clear hb)
          (try clear hb2)
          (try clear hk)
          (try clear hi)
          refine hK.out _ _ ⟨(blk_cell BK366.out 0).trans rfl, (blk_cell BK366.out 1).trans rfl, (blk_cell BK372.out 0).trans rfl, (blk_cell BK372.out 1).trans rfl, (blk_cell BK378.out 0).trans rfl, (blk_cell BK378.out 1).trans rfl, (blk_cell BK384.out 0).trans rfl, (blk_cell BK384.out 1).trans rfl⟩ (fun hHeld => ?_)
          clear hK K
          refine norm_ (a' := ?_) ?_ ?_
          rotate_left
          · show Act.put _ (some 48) _ = _
            simp only [Act.put, List.setIfInBounds_toArray, List.set_cons_zero, List.set_cons_succ, i64_w, i32_w]
            rfl
          refine one_ (i := 16) (N := some 49) #[true, true, true, true, true, true, true, true, true, true, true, true, true, true, true, true, true, false, false, false, false, false, false, false, false, false] rfl rfl (one_of HT_.out (by kernel_rfl)) (by decide) (fun K hK => ?_)
          refine goes_ Try.func26 (by kernel_rfl) rfl #[.agg #[.int .i64 t375, .int .i64 t376], .int .i64 t377, .agg #[.int .i64 t391, .int .i64 t392]] (by rfl) rfl rfl (by (try simp only [List.map_toArray, List.map_cons, List.map_nil]); first | done | rfl | (simp only [List.length_drop, List.length_take]; rfl)) ?_
          with_reducible refine (tipstafflaw10_is.calls t375 t376 t377 t391 t392 true _ A16.out).mono ?_
          rintro e w57 ⟨rfl, hb⟩
          refine ⟨_, rfl, ?_⟩
          have n0_ := Aside0.mk (blk_below (g := gb366) (o := .cells #[.int .i64 t363, .int .i64 t364] 30 (0, 0)) (by (with_reducible repeat (first | refine blk_drewN ?_ _ | refine blk_drew ?_ | refine blk_alloc ?_ _)); exact BK366.out) hb)
          have n1_ := Aside0.mk (blk_below (g := gb372) (o := .cells #[.int .i64 t369, .int .i64 t370] 30 (0, 0)) (by (with_reducible repeat (first | refine blk_drewN ?_ _ | refine blk_drew ?_ | refine blk_alloc ?_ _)); exact BK372.out) hb)
          have n2_ := Aside0.mk (blk_below (g := gb378) (o := .cells #[.int .i64 t375, .int .i64 t376] 30 (0, 0)) (by (with_reducible repeat (first | refine blk_drewN ?_ _ | refine blk_drew ?_ | refine blk_alloc ?_ _)); exact BK378.out) hb)
          have n3_ := Aside0.mk (blk_below (g := gb384) (o := .cells #[.int .i64 t381, .int .i64 t382] 30 (0, 0)) (by (with_reducible repeat (first | refine blk_drewN ?_ _ | refine blk_drew ?_ | refine blk_alloc ?_ _)); exact BK384.out) hb)
          have n4_ := Aside0.mk (below_step (by repeat (first | (with_reducible first | exact HB.out | apply below_alloc | apply pw_below_drewN | apply below_drew1 | refine below_set ?_ GE366.out | refine below_set ?_ GE372.out | refine below_set ?_ GE378.out | refine below_set ?_ GE384.out) | exact HB.out)) hb)
          clear BK366
          clear BK372
          clear BK378
          clear BK384
          clear HB
          have BK366 := n0_
          have BK372 := n1_
          have BK378 := n2_
          have BK384 := n3_
          have HB := n4_
          clear n0_ n1_ n2_ n3_ n4_
          (try clear hb)
          (try clear hb2)
          (try clear hk)
          (try clear hi)
          refine hK.out _ _ ⟨(blk_cell BK366.out 0).trans rfl, (blk_cell BK366.out 1).trans rfl, (blk_cell BK372.out 0).trans rfl, (blk_cell BK372.out 1).trans rfl, (blk_cell BK378.out 0).trans rfl, (blk_cell BK378.out 1).trans rfl, (blk_cell BK384.out 0).trans rfl, (blk_cell BK384.out 1).trans rfl⟩ (fun hHeld => ?_)
          clear hK K
          refine norm_ (a' := ?_) ?_ ?_
          rotate_left
          · show Act.put _ (some 49) _ = _
            simp only [Act.put, List.setIfInBounds_toArray, List.set_cons_zero, List.set_cons_succ, i64_w, i32_w]
            rfl
          refine pure_ (i := 17) (N := some 50) (v := ?_) (a' := ?_) #[true, true, true, true, true, true, true, true, true, true, true, true, true, true, true, true, true, true, false, false, false, false, false, false, false, false] rfl rfl (any_of HT_.out (by kernel_rfl)) (fun _ _ _ h => h) (Or.inl ⟨by rfl, ?_⟩) ?_ ?_
          rotate_left
          · intro w'
            go_simp
            with_reducible rfl
          rotate_left
          · simp only [Act.put, List.setIfInBounds_toArray, List.set_cons_zero, List.set_cons_succ, i64_w, i32_w]
            rfl
          refine pure_ (i := 18) (N := some 51) (v := ?_) (a' := ?_) #[true, true, true, true, true, true, true, true, true, true, true, true, true, true, true, true, true, true, true, false, false, false, false, false, false, false] rfl rfl (any_of HT_.out (by kernel_rfl)) (fun _ _ _ h => h) (Or.inl ⟨by rfl, ?_⟩) ?_ ?_
          rotate_left
          · intro w'
            go_simp
            with_reducible rfl
          rotate_left
          · simp only [Act.put, List.setIfInBounds_toArray, List.set_cons_zero, List.set_cons_succ, i64_w, i32_w]
            rfl
          refine pure_ (i := 19) (N := some 52) (v := ?_) (a' := ?_) #[true, true, true, true, true, true, true, true, true, true, true, true, true, true, true, true, true, true, true, true, false, false, false, false, false, false] rfl rfl (any_of HT_.out (by kernel_rfl)) (fun _ _ _ h => h) (Or.inl ⟨by rfl, ?_⟩) ?_ ?_
          rotate_left
          · intro w'
            go_simp
            with_reducible rfl
          rotate_left
          · simp only [Act.put, List.setIfInBounds_toArray, List.set_cons_zero, List.set_cons_succ, i64_w, i32_w]
            rfl
          refine pure_ (i := 21) (N := some 54) (v := ?_) (a' := ?_) #[true, true, true, true, true, true, true, true, true, true, true, true, true, true, true, true, true, true, true, true, false, true, false, false, false, false] rfl rfl (any_of HT_.out (by kernel_rfl)) (fun _ _ _ h => h) (Or.inl ⟨by rfl, ?_⟩) ?_ ?_
          rotate_left
          · intro w'
            go_simp
            with_reducible rfl
          rotate_left
          · simp only [Act.put, List.setIfInBounds_toArray, List.set_cons_zero, List.set_cons_succ, i64_w, i32_w]
            rfl
          refine take_ (i := 20) (N := some 53) (v := ?_) (a' := ?_) #[true, true, true, true, true, true, true, true, true, true, true, true, true, true, true, true, true, true, true, true, true, true, false, false, false, false] rfl rfl (take_ofW HT_.out HW_.out (by kernel_rfl)) (fun _ _ _ h => h) (Or.inl ⟨by rfl, ?_⟩) hHeld ?_ ?_
          rotate_left
          · rintro w' ⟨s0, s1, s2, s3, s4, s5, s6, s7⟩
            go_simp
            with_reducible rfl
          rotate_left
          · simp only [Act.put, List.setIfInBounds_toArray, List.set_cons_zero, List.set_cons_succ, i64_w, i32_w]
            rfl
          refine one_ (i := 22) (N := some 55) #[true, true, true, true, true, true, true, true, true, true, true, true, true, true, true, true, true, true, true, true, true, true, true, false, false, false] rfl rfl (one_of HT_.out (by kernel_rfl)) (by decide) (fun K hK => ?_)
          refine goes_ Try.func27 (by kernel_rfl) rfl #[.int .i64 2, .int .i64 0] (by rfl) rfl rfl (by (try simp only [List.map_toArray, List.map_cons, List.map_nil]); first | done | rfl | (simp only [List.length_drop, List.length_take]; rfl)) ?_
          with_reducible refine (tipstafflaw10_at.calls 2 0 t394 t395 _ A18.out).mono ?_
          rintro e w58 ⟨rfl, hb⟩
          refine ⟨_, rfl, ?_⟩
          have n0_ := Aside0.mk (blk_below (g := gb366) (o := .cells #[.int .i64 t363, .int .i64 t364] 30 (0, 0)) (by (with_reducible repeat (first | refine blk_drewN ?_ _ | refine blk_drew ?_ | refine blk_alloc ?_ _)); exact BK366.out) hb)
          have n1_ := Aside0.mk (blk_below (g := gb372) (o := .cells #[.int .i64 t369, .int .i64 t370] 30 (0, 0)) (by (with_reducible repeat (first | refine blk_drewN ?_ _ | refine blk_drew ?_ | refine blk_alloc ?_ _)); exact BK372.out) hb)
          have n2_ := Aside0.mk (blk_below (g := gb378) (o := .cells #[.int .i64 t375, .int .i64 t376] 30 (0, 0)) (by (with_reducible repeat (first | refine blk_drewN ?_ _ | refine blk_drew ?_ | refine blk_alloc ?_ _)); exact BK378.out) hb)
          have n3_ := Aside0.mk (blk_below (g := gb384) (o := .cells #[.int .i64 t381, .int .i64 t382] 30 (0, 0)) (by (with_reducible repeat (first | refine blk_drewN ?_ _ | refine blk_drew ?_ | refine blk_alloc ?_ _)); exact BK384.out) hb)
          have n4_ := Aside0.mk (below_step (by repeat (first | (with_reducible first | exact HB.out | apply below_alloc | apply pw_below_drewN | apply below_drew1 | refine below_set ?_ GE366.out | refine below_set ?_ GE372.out | refine below_set ?_ GE378.out | refine below_set ?_ GE384.out) | exact HB.out)) hb)
          clear BK366
          clear BK372
          clear BK378
          clear BK384
          clear HB
          have BK366 := n0_
          have BK372 := n1_
          have BK378 := n2_
          have BK384 := n3_
          have HB := n4_
          clear n0_ n1_ n2_ n3_ n4_
          (try clear hb)
          (try clear hb2)
          (try clear hk)
          (try clear hi)
          refine hK.out _ _ ⟨(blk_cell BK366.out 0).trans rfl, (blk_cell BK366.out 1).trans rfl, (blk_cell BK372.out 0).trans rfl, (blk_cell BK372.out 1).trans rfl, (blk_cell BK378.out 0).trans rfl, (blk_cell BK378.out 1).trans rfl, (blk_cell BK384.out 0).trans rfl, (blk_cell BK384.out 1).trans rfl⟩ (fun hHeld => ?_)
          clear hK K
          refine norm_ (a' := ?_) ?_ ?_
          rotate_left
          · show Act.put _ (some 55) _ = _
            simp only [Act.put, List.setIfInBounds_toArray, List.set_cons_zero, List.set_cons_succ, i64_w, i32_w]
            rfl
          refine one_ (i := 23) (N := some 56) #[true, true, true, true, true, true, true, true, true, true, true, true, true, true, true, true, true, true, true, true, true, true, true, true, false, false] rfl rfl (one_of HT_.out (by kernel_rfl)) (by decide) (fun K hK => ?_)
          refine goes_ Try.func26 (by kernel_rfl) rfl #[.agg #[.int .i64 t381, .int .i64 t382], .int .i64 t383, .agg #[.int .i64 t394, .int .i64 t395]] (by rfl) rfl rfl (by (try simp only [List.map_toArray, List.map_cons, List.map_nil]); first | done | rfl | (simp only [List.length_drop, List.length_take]; rfl)) ?_
          with_reducible refine (tipstafflaw10_is.calls t381 t382 t383 t394 t395 true _ A19.out).mono ?_
          rintro e w59 ⟨rfl, hb⟩
          refine ⟨_, rfl, ?_⟩
          have n0_ := Aside0.mk (blk_below (g := gb366) (o := .cells #[.int .i64 t363, .int .i64 t364] 30 (0, 0)) (by (with_reducible repeat (first | refine blk_drewN ?_ _ | refine blk_drew ?_ | refine blk_alloc ?_ _)); exact BK366.out) hb)
          have n1_ := Aside0.mk (blk_below (g := gb372) (o := .cells #[.int .i64 t369, .int .i64 t370] 30 (0, 0)) (by (with_reducible repeat (first | refine blk_drewN ?_ _ | refine blk_drew ?_ | refine blk_alloc ?_ _)); exact BK372.out) hb)
          have n2_ := Aside0.mk (blk_below (g := gb378) (o := .cells #[.int .i64 t375, .int .i64 t376] 30 (0, 0)) (by (with_reducible repeat (first | refine blk_drewN ?_ _ | refine blk_drew ?_ | refine blk_alloc ?_ _)); exact BK378.out) hb)
          have n3_ := Aside0.mk (blk_below (g := gb384) (o := .cells #[.int .i64 t381, .int .i64 t382] 30 (0, 0)) (by (with_reducible repeat (first | refine blk_drewN ?_ _ | refine blk_drew ?_ | refine blk_alloc ?_ _)); exact BK384.out) hb)
          have n4_ := Aside0.mk (below_step (by repeat (first | (with_reducible first | exact HB.out | apply below_alloc | apply pw_below_drewN | apply below_drew1 | refine below_set ?_ GE366.out | refine below_set ?_ GE372.out | refine below_set ?_ GE378.out | refine below_set ?_ GE384.out) | exact HB.out)) hb)
          clear BK366
          clear BK372
          clear BK378
          clear BK384
          clear HB
          have BK366 := n0_
          have BK372 := n1_
          have BK378 := n2_
          have BK384 := n3_
          have HB := n4_
          clear n0_ n1_ n2_ n3_ n4_
          (try clear hb)
          (try clear hb2)
          (try clear hk)
          (try clear hi)
          refine hK.out _ _ ⟨(blk_cell BK366.out 0).trans rfl, (blk_cell BK366.out 1).trans rfl, (blk_cell BK372.out 0).trans rfl, (blk_cell BK372.out 1).trans rfl, (blk_cell BK378.out 0).trans rfl, (blk_cell BK378.out 1).trans rfl, (blk_cell BK384.out 0).trans rfl, (blk_cell BK384.out 1).trans rfl⟩ (fun hHeld => ?_)
          clear hK K
          refine norm_ (a' := ?_) ?_ ?_
          rotate_left
          · show Act.put _ (some 56) _ = _
            simp only [Act.put, List.setIfInBounds_toArray, List.set_cons_zero, List.set_cons_succ, i64_w, i32_w]
            rfl
          refine pure_ (i := 24) (N := some 57) (v := ?_) (a' := ?_) #[true, true, true, true, true, true, true, true, true, true, true, true, true, true, true, true, true, true, true, true, true, true, true, true, true, false] rfl rfl (any_of HT_.out (by kernel_rfl)) (fun _ _ _ h => h) (Or.inl ⟨by rfl, ?_⟩) ?_ ?_
          rotate_left
          · intro w'
            go_simp
            with_reducible rfl
          rotate_left
          · simp only [Act.put, List.setIfInBounds_toArray, List.set_cons_zero, List.set_cons_succ, i64_w, i32_w]
            rfl
          refine pure_ (i := 25) (N := some 58) (v := ?_) (a' := ?_) #[true, true, true, true, true, true, true, true, true, true, true, true, true, true, true, true, true, true, true, true, true, true, true, true, true, true] rfl rfl (any_of HT_.out (by kernel_rfl)) (fun _ _ _ h => h) (Or.inl ⟨by rfl, ?_⟩) ?_ ?_
          rotate_left
          · intro w'
            go_simp
            with_reducible rfl
          rotate_left
          · simp only [Act.put, List.setIfInBounds_toArray, List.set_cons_zero, List.set_cons_succ, i64_w, i32_w]
            rfl
          refine done_ (done_of HT_.out (by kernel_rfl)) ?_
          go_upto_region 10 with (first | ((with_reducible refine gate_callee (f := 27) rfl ?_); refine goesL_ (some 60) rfl rfl Try.func27 (by kernel_rfl) rfl #[.int .i64 2, .int .i64 0] rfl (by (try simp only [List.map_toArray, List.map_cons, List.map_nil]); first | done | rfl | (simp only [List.length_drop, List.length_take]; rfl)) ?_; (with_reducible refine (tipstafflaw10_at.calls 2 0 t397 t398 _ A21.out).mono ?_); rintro e w60 ⟨rfl, hb⟩; refine ⟨_, rfl, ?_⟩; have n0_ := Aside0.mk (blk_below (g := gb366) (o := .cells #[.int .i64 t363, .int .i64 t364] 30 (0, 0)) (by (with_reducible repeat (first | refine blk_drewN ?_ _ | refine blk_drew ?_ | refine blk_alloc ?_ _)); exact BK366.out) hb); have n1_ := Aside0.mk (blk_below (g := gb372) (o := .cells #[.int .i64 t369, .int .i64 t370] 30 (0, 0)) (by (with_reducible repeat (first | refine blk_drewN ?_ _ | refine blk_drew ?_ | refine blk_alloc ?_ _)); exact BK372.out) hb); have n2_ := Aside0.mk (blk_below (g := gb378) (o := .cells #[.int .i64 t375, .int .i64 t376] 30 (0, 0)) (by (with_reducible repeat (first | refine blk_drewN ?_ _ | refine blk_drew ?_ | refine blk_alloc ?_ _)); exact BK378.out) hb); have n3_ := Aside0.mk (blk_below (g := gb384) (o := .cells #[.int .i64 t381, .int .i64 t382] 30 (0, 0)) (by (with_reducible repeat (first | refine blk_drewN ?_ _ | refine blk_drew ?_ | refine blk_alloc ?_ _)); exact BK384.out) hb); have n4_ := Aside0.mk (below_step (by repeat (first | (with_reducible first | exact HB.out | apply below_alloc | apply pw_below_drewN | apply below_drew1 | refine below_set ?_ GE366.out | refine below_set ?_ GE372.out | refine below_set ?_ GE378.out | refine below_set ?_ GE384.out) | exact HB.out)) hb); clear BK366; clear BK372; clear BK378; clear BK384; clear HB; have BK366 := n0_; have BK372 := n1_; have BK378 := n2_; have BK384 := n3_; have HB := n4_; clear n0_ n1_ n2_ n3_ n4_; (try clear hb); (try clear hb2); (try clear hk); (try clear hi)) | ((with_reducible refine gate_callee (f := 14) rfl ?_); refine goesL_ (some 61) rfl rfl Try.func14 (by kernel_rfl) rfl #[.agg #[.int .i64 t397, .int .i64 t398], .int .i64 2] rfl (by (try simp only [List.map_toArray, List.map_cons, List.map_nil]); first | done | rfl | (simp only [List.length_drop, List.length_take]; rfl)) ?_; (with_reducible refine (brake_Release.calls t397 t398 2 t399 t400 t401 _ A22.out).mono ?_); rintro e w61 ⟨rfl, hb⟩; refine ⟨_, rfl, ?_⟩; have n0_ := Aside0.mk (blk_below (g := gb366) (o := .cells #[.int .i64 t363, .int .i64 t364] 30 (0, 0)) (by (with_reducible repeat (first | refine blk_drewN ?_ _ | refine blk_drew ?_ | refine blk_alloc ?_ _)); exact BK366.out) hb); have n1_ := Aside0.mk (blk_below (g := gb372) (o := .cells #[.int .i64 t369, .int .i64 t370] 30 (0, 0)) (by (with_reducible repeat (first | refine blk_drewN ?_ _ | refine blk_drew ?_ | refine blk_alloc ?_ _)); exact BK372.out) hb); have n2_ := Aside0.mk (blk_below (g := gb378) (o := .cells #[.int .i64 t375, .int .i64 t376] 30 (0, 0)) (by (with_reducible repeat (first | refine blk_drewN ?_ _ | refine blk_drew ?_ | refine blk_alloc ?_ _)); exact BK378.out) hb); have n3_ := Aside0.mk (blk_below (g := gb384) (o := .cells #[.int .i64 t381, .int .i64 t382] 30 (0, 0)) (by (with_reducible repeat (first | refine blk_drewN ?_ _ | refine blk_drew ?_ | refine blk_alloc ?_ _)); exact BK384.out) hb); have n4_ := Aside0.mk (below_step (by repeat (first | (with_reducible first | exact HB.out | apply below_alloc | apply pw_below_drewN | apply below_drew1 | refine below_set ?_ GE366.out | refine below_set ?_ GE372.out | refine below_set ?_ GE378.out | refine below_set ?_ GE384.out) | exact HB.out)) hb); clear BK366; clear BK372; clear BK378; clear BK384; clear HB; have BK366 := n0_; have BK372 := n1_; have BK378 := n2_; have BK384 := n3_; have HB := n4_; clear n0_ n1_ n2_ n3_ n4_; (try clear hb); (try clear hb2); (try clear hk); (try clear hi)) | ((with_reducible refine gate_callee (f := 13) rfl ?_); refine goesL_ (some 65) rfl rfl Try.func13 (by kernel_rfl) rfl #[] rfl (by (try simp only [List.map_toArray, List.map_cons, List.map_nil]); first | done | rfl | (simp only [List.length_drop, List.length_take]; rfl)) ?_; (with_reducible refine (brake_New.calls  t402 t403 _ A23.out).mono ?_); rintro e w62 ⟨rfl, hb⟩; refine ⟨_, rfl, ?_⟩; have n0_ := Aside0.mk (blk_below (g := gb366) (o := .cells #[.int .i64 t363, .int .i64 t364] 30 (0, 0)) (by (with_reducible repeat (first | refine blk_drewN ?_ _ | refine blk_drew ?_ | refine blk_alloc ?_ _)); exact BK366.out) hb); have n1_ := Aside0.mk (blk_below (g := gb372) (o := .cells #[.int .i64 t369, .int .i64 t370] 30 (0, 0)) (by (with_reducible repeat (first | refine blk_drewN ?_ _ | refine blk_drew ?_ | refine blk_alloc ?_ _)); exact BK372.out) hb); have n2_ := Aside0.mk (blk_below (g := gb378) (o := .cells #[.int .i64 t375, .int .i64 t376] 30 (0, 0)) (by (with_reducible repeat (first | refine blk_drewN ?_ _ | refine blk_drew ?_ | refine blk_alloc ?_ _)); exact BK378.out) hb); have n3_ := Aside0.mk (blk_below (g := gb384) (o := .cells #[.int .i64 t381, .int .i64 t382] 30 (0, 0)) (by (with_reducible repeat (first | refine blk_drewN ?_ _ | refine blk_drew ?_ | refine blk_alloc ?_ _)); exact BK384.out) hb); have n4_ := Aside0.mk (below_step (by repeat (first | (with_reducible first | exact HB.out | apply below_alloc | apply pw_below_drewN | apply below_drew1 | refine below_set ?_ GE366.out | refine below_set ?_ GE372.out | refine below_set ?_ GE378.out | refine below_set ?_ GE384.out) | exact HB.out)) hb); clear BK366; clear BK372; clear BK378; clear BK384; clear HB; have BK366 := n0_; have BK372 := n1_; have BK378 := n2_; have BK384 := n3_; have HB := n4_; clear n0_ n1_ n2_ n3_ n4_; (try clear hb); (try clear hb2); (try clear hk); (try clear hi)) | ((with_reducible refine gate_callee (f := 15) rfl ?_); refine goesL_ (some 66) rfl rfl Try.func15 (by kernel_rfl) rfl #[.agg #[.int .i64 t402, .int .i64 t403], .int .i64 2] rfl (by (try simp only [List.map_toArray, List.map_cons, List.map_nil]); first | done | rfl | (simp only [List.length_drop, List.length_take]; rfl)) ?_; (with_reducible refine (brake_Apply.calls t402 t403 2 t404 t405 t406 _ A24.out).mono ?_); rintro e w63 ⟨rfl, hb⟩; refine ⟨_, rfl, ?_⟩; have n0_ := Aside0.mk (blk_below (g := gb366) (o := .cells #[.int .i64 t363, .int .i64 t364] 30 (0, 0)) (by (with_reducible repeat (first | refine blk_drewN ?_ _ | refine blk_drew ?_ | refine blk_alloc ?_ _)); exact BK366.out) hb); have n1_ := Aside0.mk (blk_below (g := gb372) (o := .cells #[.int .i64 t369, .int .i64 t370] 30 (0, 0)) (by (with_reducible repeat (first | refine blk_drewN ?_ _ | refine blk_drew ?_ | refine blk_alloc ?_ _)); exact BK372.out) hb); have n2_ := Aside0.mk (blk_below (g := gb378) (o := .cells #[.int .i64 t375, .int .i64 t376] 30 (0, 0)) (by (with_reducible repeat (first | refine blk_drewN ?_ _ | refine blk_drew ?_ | refine blk_alloc ?_ _)); exact BK378.out) hb); have n3_ := Aside0.mk (blk_below (g := gb384) (o := .cells #[.int .i64 t381, .int .i64 t382] 30 (0, 0)) (by (with_reducible repeat (first | refine blk_drewN ?_ _ | refine blk_drew ?_ | refine blk_alloc ?_ _)); exact BK384.out) hb); have n4_ := Aside0.mk (below_step (by repeat (first | (with_reducible first | exact HB.out | apply below_alloc | apply pw_below_drewN | apply below_drew1 | refine below_set ?_ GE366.out | refine below_set ?_ GE372.out | refine below_set ?_ GE378.out | refine below_set ?_ GE384.out) | exact HB.out)) hb); clear BK366; clear BK372; clear BK378; clear BK384; clear HB; have BK366 := n0_; have BK372 := n1_; have BK378 := n2_; have BK384 := n3_; have HB := n4_; clear n0_ n1_ n2_ n3_ n4_; (try clear hb); (try clear hb2); (try clear hk); (try clear hi)) | ((with_reducible refine gate_callee (f := 27) rfl ?_); refine goesL_ (some 70) rfl rfl Try.func27 (by kernel_rfl) rfl #[.int .i64 1, .int .i64 1] rfl (by (try simp only [List.map_toArray, List.map_cons, List.map_nil]); first | done | rfl | (simp only [List.length_drop, List.length_take]; rfl)) ?_; (with_reducible refine (tipstafflaw10_at.calls 1 1 t407 t408 _ A25.out).mono ?_); rintro e w64 ⟨rfl, hb⟩; refine ⟨_, rfl, ?_⟩; have n0_ := Aside0.mk (blk_below (g := gb366) (o := .cells #[.int .i64 t363, .int .i64 t364] 30 (0, 0)) (by (with_reducible repeat (first | refine blk_drewN ?_ _ | refine blk_drew ?_ | refine blk_alloc ?_ _)); exact BK366.out) hb); have n1_ := Aside0.mk (blk_below (g := gb372) (o := .cells #[.int .i64 t369, .int .i64 t370] 30 (0, 0)) (by (with_reducible repeat (first | refine blk_drewN ?_ _ | refine blk_drew ?_ | refine blk_alloc ?_ _)); exact BK372.out) hb); have n2_ := Aside0.mk (blk_below (g := gb378) (o := .cells #[.int .i64 t375, .int .i64 t376] 30 (0, 0)) (by (with_reducible repeat (first | refine blk_drewN ?_ _ | refine blk_drew ?_ | refine blk_alloc ?_ _)); exact BK378.out) hb); have n3_ := Aside0.mk (blk_below (g := gb384) (o := .cells #[.int .i64 t381, .int .i64 t382] 30 (0, 0)) (by (with_reducible repeat (first | refine blk_drewN ?_ _ | refine blk_drew ?_ | refine blk_alloc ?_ _)); exact BK384.out) hb); have n4_ := Aside0.mk (below_step (by repeat (first | (with_reducible first | exact HB.out | apply below_alloc | apply pw_below_drewN | apply below_drew1 | refine below_set ?_ GE366.out | refine below_set ?_ GE372.out | refine below_set ?_ GE378.out | refine below_set ?_ GE384.out) | exact HB.out)) hb); clear BK366; clear BK372; clear BK378; clear BK384; clear HB; have BK366 := n0_; have BK372 := n1_; have BK378 := n2_; have BK384 := n3_; have HB := n4_; clear n0_ n1_ n2_ n3_ n4_; (try clear hb); (try clear hb2); (try clear hk); (try clear hi)) | ((with_reducible refine gate_callee (f := 14) rfl ?_); refine goesL_ (some 71) rfl rfl Try.func14 (by kernel_rfl) rfl #[.agg #[.int .i64 t407, .int .i64 t408], .int .i64 2] rfl (by (try simp only [List.map_toArray, List.map_cons, List.map_nil]); first | done | rfl | (simp only [List.length_drop, List.length_take]; rfl)) ?_; (with_reducible refine (brake_Release.calls t407 t408 2 t409 t410 t411 _ A26.out).mono ?_); rintro e w65 ⟨rfl, hb⟩; refine ⟨_, rfl, ?_⟩; have n0_ := Aside0.mk (blk_below (g := gb366) (o := .cells #[.int .i64 t363, .int .i64 t364] 30 (0, 0)) (by (with_reducible repeat (first | refine blk_drewN ?_ _ | refine blk_drew ?_ | refine blk_alloc ?_ _)); exact BK366.out) hb); have n1_ := Aside0.mk (blk_below (g := gb372) (o := .cells #[.int .i64 t369, .int .i64 t370] 30 (0, 0)) (by (with_reducible repeat (first | refine blk_drewN ?_ _ | refine blk_drew ?_ | refine blk_alloc ?_ _)); exact BK372.out) hb); have n2_ := Aside0.mk (blk_below (g := gb378) (o := .cells #[.int .i64 t375, .int .i64 t376] 30 (0, 0)) (by (with_reducible repeat (first | refine blk_drewN ?_ _ | refine blk_drew ?_ | refine blk_alloc ?_ _)); exact BK378.out) hb); have n3_ := Aside0.mk (blk_below (g := gb384) (o := .cells #[.int .i64 t381, .int .i64 t382] 30 (0, 0)) (by (with_reducible repeat (first | refine blk_drewN ?_ _ | refine blk_drew ?_ | refine blk_alloc ?_ _)); exact BK384.out) hb); have n4_ := Aside0.mk (below_step (by repeat (first | (with_reducible first | exact HB.out | apply below_alloc | apply pw_below_drewN | apply below_drew1 | refine below_set ?_ GE366.out | refine below_set ?_ GE372.out | refine below_set ?_ GE378.out | refine below_set ?_ GE384.out) | exact HB.out)) hb); clear BK366; clear BK372; clear BK378; clear BK384; clear HB; have BK366 := n0_; have BK372 := n1_; have BK378 := n2_; have BK384 := n3_; have HB := n4_; clear n0_ n1_ n2_ n3_ n4_; (try clear hb); (try clear hb2); (try clear hk); (try clear hi)))
          (try simp only [Act.put, List.setIfInBounds_toArray, List.set_cons_zero, List.set_cons_succ])
          go_cut [83] (fun v83 wc => ∃ (kq : Nat) (x83_26 : Bool), v83 = .bool x83_26 ∧ Aside0 (tipstafflaw10_BrakeKnown.j0 kq x83_26 = some r) ∧ Aside0 (kq ≤ k) ∧ Aside0 (wc.heap[gb366]? = some (.cells #[.int .i64 t363, .int .i64 t364] 30 (0, 0))) ∧ Aside0 (wc.heap[gb372]? = some (.cells #[.int .i64 t369, .int .i64 t370] 30 (0, 0))) ∧ Aside0 (wc.heap[gb378]? = some (.cells #[.int .i64 t375, .int .i64 t376] 30 (0, 0))) ∧ Aside0 (wc.heap[gb384]? = some (.cells #[.int .i64 t381, .int .i64 t382] 30 (0, 0))) ∧ Aside0 (Below w.heap.size w wc))
          case first =>
            have H := HC27.out
            clear HC27
            by_cases c66 : t401 = 9
            · rw [if_pos c66] at H
              have c66b0 : (t401 == 9) = true := beq_iff_eq.mpr c66
              have c66b1 : (t401 != 9) = false := bne_eq_false_iff_eq.mpr c66
              clear c66
              (first | rw [c66b0] | (simp only [i64_w, i32_w]; rw [c66b0]) | skip)
              by_cases c67 : t406 = 9
              · rw [if_pos c67] at H
                have c67b0 : (t406 == 9) = true := beq_iff_eq.mpr c67
                have c67b1 : (t406 != 9) = false := bne_eq_false_iff_eq.mpr c67
                clear c67
                have H' := Aside0.mk H
                clear H
                go_wp2
                go_meet
                case rel => exact ⟨_, ((t411 != 9)), (by first | rfl | (simp; done) | (simp [*]; done)), H', ⟨by first | omega | exact Nat.le_refl _⟩, ⟨by (with_reducible repeat (first | refine blk_drewN ?_ _ | refine blk_drew ?_ | refine blk_alloc ?_ _)); exact BK366.out⟩, ⟨by (with_reducible repeat (first | refine blk_drewN ?_ _ | refine blk_drew ?_ | refine blk_alloc ?_ _)); exact BK372.out⟩, ⟨by (with_reducible repeat (first | refine blk_drewN ?_ _ | refine blk_drew ?_ | refine blk_alloc ?_ _)); exact BK378.out⟩, ⟨by (with_reducible repeat (first | refine blk_drewN ?_ _ | refine blk_drew ?_ | refine blk_alloc ?_ _)); exact BK384.out⟩, ⟨by repeat (first | (with_reducible first | exact HB.out | apply below_alloc | apply pw_below_drewN | apply below_drew1 | refine below_set ?_ GE366.out | refine below_set ?_ GE372.out | refine below_set ?_ GE378.out | refine below_set ?_ GE384.out) | exact HB.out)⟩⟩
              · rw [if_neg c67] at H
                have c67b0 : (t406 == 9) = false := beq_eq_false_iff_ne.mpr c67
                have c67b1 : (t406 != 9) = true := bne_iff_ne.mpr c67
                have H' := Aside0.mk H
                clear H
                go_wp2
                go_meet
                case rel => exact ⟨_, (true), (by first | rfl | (simp; done) | (simp [*]; done)), H', ⟨by first | omega | exact Nat.le_refl _⟩, ⟨by (with_reducible repeat (first | refine blk_drewN ?_ _ | refine blk_drew ?_ | refine blk_alloc ?_ _)); exact BK366.out⟩, ⟨by (with_reducible repeat (first | refine blk_drewN ?_ _ | refine blk_drew ?_ | refine blk_alloc ?_ _)); exact BK372.out⟩, ⟨by (with_reducible repeat (first | refine blk_drewN ?_ _ | refine blk_drew ?_ | refine blk_alloc ?_ _)); exact BK378.out⟩, ⟨by (with_reducible repeat (first | refine blk_drewN ?_ _ | refine blk_drew ?_ | refine blk_alloc ?_ _)); exact BK384.out⟩, ⟨by repeat (first | (with_reducible first | exact HB.out | apply below_alloc | apply pw_below_drewN | apply below_drew1 | refine below_set ?_ GE366.out | refine below_set ?_ GE372.out | refine below_set ?_ GE378.out | refine below_set ?_ GE384.out) | exact HB.out)⟩⟩
            · rw [if_neg c66] at H
              have c66b0 : (t401 == 9) = false := beq_eq_false_iff_ne.mpr c66
              have c66b1 : (t401 != 9) = true := bne_iff_ne.mpr c66
              (first | rw [c66b0] | (simp only [i64_w, i32_w]; rw [c66b0]) | skip)
              have H' := Aside0.mk H
              clear H
              go_wp2
              go_meet
              case rel => exact ⟨_, (true), (by first | rfl | (simp; done) | (simp [*]; done)), H', ⟨by first | omega | exact Nat.le_refl _⟩, ⟨by (with_reducible repeat (first | refine blk_drewN ?_ _ | refine blk_drew ?_ | refine blk_alloc ?_ _)); exact BK366.out⟩, ⟨by (with_reducible repeat (first | refine blk_drewN ?_ _ | refine blk_drew ?_ | refine blk_alloc ?_ _)); exact BK372.out⟩, ⟨by (with_reducible repeat (first | refine blk_drewN ?_ _ | refine blk_drew ?_ | refine blk_alloc ?_ _)); exact BK378.out⟩, ⟨by (with_reducible repeat (first | refine blk_drewN ?_ _ | refine blk_drew ?_ | refine blk_alloc ?_ _)); exact BK384.out⟩, ⟨by repeat (first | (with_reducible first | exact HB.out | apply below_alloc | apply pw_below_drewN | apply below_drew1 | refine below_set ?_ GE366.out | refine below_set ?_ GE372.out | refine below_set ?_ GE378.out | refine below_set ?_ GE384.out) | exact HB.out)⟩⟩
          case rest =>
            clear HC27
            try clear c1
            try clear c2
            try clear p2
            try clear c3
            try clear c4
            try clear c6
            try clear c9
            try clear c11
            try clear c13
            try clear c14
            try clear c15
            try clear c17
            try clear c20
            try clear c26
            try clear c27
            try clear c35
            try clear c40
            try clear c41
            try clear c46
            try clear c47
            try clear c48
            try clear c66
            try clear c66b0
            try clear c66b1
            try clear c67
            try clear c67b0
            try clear c67b1
            try clear hcz31_0
            try clear hcz31_1
            try clear hcz36_0
            try clear hcz36_1
            try clear hcz42_0
            try clear hcz42_1
            try clear hcz49_0
            try clear hcz49_1
            try clear hfz31_0
            try clear hfz31_1
            try clear hfz36_0
            try clear hfz36_1
            try clear hfz42_0
            try clear hfz42_1
            try clear hfz49_0
            try clear hfz49_1
            obtain ⟨kq, x83_26, rfl, HA, HJ26, BK366, BK372, BK378, BK384, HB⟩ := hcut
            cases kq with
            | zero => exact absurd HA.out (by simp [tipstafflaw10_BrakeKnown.j0])
            | succ kj26 =>
              have H := HA.out
              clear HA
              simp only [tipstafflaw10_BrakeKnown.j0] at H
              by_cases c68 : x83_26 = true
              · subst c68
                have H1 : (none) = some r := by rw [if_pos rfl] at H; exact H
                clear H
                have H := H1
                clear H1
                exact absurd H (by simp)
              · replace c68 := Bool.eq_false_iff.mpr c68
                subst c68
                have H1 : ((tipstafflaw10_at.f 1 2).bind fun bt412 => ((brake_Run.f bt412.1 bt412.2 2 1).bind fun bt414 => ((tipstafflaw10_at.f 1 2).bind fun bt417 => ((brake_Run.f bt417.1 bt417.2 2 9).bind fun bt419 => ((tipstafflaw10_at.f 1 2).bind fun bt422 => ((brake_Ends.f kj26 bt422.1 bt422.2 2).bind fun bt424 => ((tipstafflaw10_at.f 1 1).bind fun bt428 => ((tipstafflaw10_is.f bt414.1 bt414.2.1 bt414.2.2 bt428.1 bt428.2).bind fun t430 => (if t430 = true then ((tipstafflaw10_at.f 2 0).bind fun bt431 => ((tipstafflaw10_is.f bt419.1 bt419.2.1 bt419.2.2 bt431.1 bt431.2).bind fun t433 => (if t433 = true then ((tipstafflaw10_at.f 2 0).bind fun bt434 => ((tipstafflaw10_is.f bt424.1 bt424.2.1 bt424.2.2.2 bt434.1 bt434.2).bind fun t436 => (if t436 = true then (if bt424.2.2.1 = 2 then ((tipstafflaw10_at.f 1 1).bind fun bt437 => ((brake_Free.f kj26 bt437.1 bt437.2 2).bind fun bt439 => ((tipstafflaw10_at.f 2 0).bind fun bt441 => ((brake_Free.f kj26 bt441.1 bt441.2 2).bind fun bt443 => ((brake_States.f 0 2).bind fun bt445 => (if bt439.1 = true then (none) else (if bt443.1 = true then (if bt439.2 = 0 then (if bt443.2 = 0 then (if bt445.2 = 0 then ((tipstaffkit_SameInts.f kj26 bt445.1 (([2, 2] : List Int))).bind fun t452 => (if t452 = true then ((tipstafflaw10_at.f 1 2).bind fun bt453 => ((brake_Force.f bt453.1 bt453.2).bind fun bt455 => ((tipstafflaw10_at.f 0 0).bind fun bt457 => (if (bt455.1 == bt457.1 && (bt455.2 == bt457.2)) = true then ((tipstafflaw10_at.f 1 3).bind fun bt459 => ((brake_Check.f kj26 bt459.1 bt459.2 2).bind fun t461 => (if t461 = 2 then ((tipstafflaw10_at.f 2 1).bind fun bt462 => ((brake_Check.f kj26 bt462.1 bt462.2 2).bind fun t464 => (if t464 = 2 then ((brake_New.f).bind fun bt465 => ((brake_Check.f kj26 bt465.1 bt465.2 6).bind fun t467 => (if t467 = 2 then ((tipstafflaw10_awake.f kj26).bind fun t468 => (if t468 = true then (some t468) else (none))) else (none)))) else (none)))) else (none)))) else (none))))) else (none))) else (none)) else (none)) else (none)) else (none)))))))) else (none)) else (none)))) else (none)))) else (none)))))))))) = some r := by rw [if_neg (show ¬ (false = true) by decide)] at H; exact H
                clear H
                have H := H1
                clear H1
                replace H := Option.bind_eq_some_iff.mp H
                obtain ⟨⟨t412, t413⟩, A690, H⟩ := H
                replace H : ((brake_Run.f t412 t413 2 1).bind fun bt414 => ((tipstafflaw10_at.f 1 2).bind fun bt417 => ((brake_Run.f bt417.1 bt417.2 2 9).bind fun bt419 => ((tipstafflaw10_at.f 1 2).bind fun bt422 => ((brake_Ends.f kj26 bt422.1 bt422.2 2).bind fun bt424 => ((tipstafflaw10_at.f 1 1).bind fun bt428 => ((tipstafflaw10_is.f bt414.1 bt414.2.1 bt414.2.2 bt428.1 bt428.2).bind fun t430 => (if t430 = true then ((tipstafflaw10_at.f 2 0).bind fun bt431 => ((tipstafflaw10_is.f bt419.1 bt419.2.1 bt419.2.2 bt431.1 bt431.2).bind fun t433 => (if t433 = true then ((tipstafflaw10_at.f 2 0).bind fun bt434 => ((tipstafflaw10_is.f bt424.1 bt424.2.1 bt424.2.2.2 bt434.1 bt434.2).bind fun t436 => (if t436 = true then (if bt424.2.2.1 = 2 then ((tipstafflaw10_at.f 1 1).bind fun bt437 => ((brake_Free.f kj26 bt437.1 bt437.2 2).bind fun bt439 => ((tipstafflaw10_at.f 2 0).bind fun bt441 => ((brake_Free.f kj26 bt441.1 bt441.2 2).bind fun bt443 => ((brake_States.f 0 2).bind fun bt445 => (if bt439.1 = true then (none) else (if bt443.1 = true then (if bt439.2 = 0 then (if bt443.2 = 0 then (if bt445.2 = 0 then ((tipstaffkit_SameInts.f kj26 bt445.1 (([2, 2] : List Int))).bind fun t452 => (if t452 = true then ((tipstafflaw10_at.f 1 2).bind fun bt453 => ((brake_Force.f bt453.1 bt453.2).bind fun bt455 => ((tipstafflaw10_at.f 0 0).bind fun bt457 => (if (bt455.1 == bt457.1 && (bt455.2 == bt457.2)) = true then ((tipstafflaw10_at.f 1 3).bind fun bt459 => ((brake_Check.f kj26 bt459.1 bt459.2 2).bind fun t461 => (if t461 = 2 then ((tipstafflaw10_at.f 2 1).bind fun bt462 => ((brake_Check.f kj26 bt462.1 bt462.2 2).bind fun t464 => (if t464 = 2 then ((brake_New.f).bind fun bt465 => ((brake_Check.f kj26 bt465.1 bt465.2 6).bind fun t467 => (if t467 = 2 then ((tipstafflaw10_awake.f kj26).bind fun t468 => (if t468 = true then (some t468) else (none))) else (none)))) else (none)))) else (none)))) else (none))))) else (none))) else (none)) else (none)) else (none)) else (none)))))))) else (none)) else (none)))) else (none)))) else (none))))))))) = some r := H
                have A69 := Aside0.mk A690
                clear A690
                replace H := Option.bind_eq_some_iff.mp H
                obtain ⟨⟨t414, t415, t416⟩, A700, H⟩ := H
                replace H : ((tipstafflaw10_at.f 1 2).bind fun bt417 => ((brake_Run.f bt417.1 bt417.2 2 9).bind fun bt419 => ((tipstafflaw10_at.f 1 2).bind fun bt422 => ((brake_Ends.f kj26 bt422.1 bt422.2 2).bind fun bt424 => ((tipstafflaw10_at.f 1 1).bind fun bt428 => ((tipstafflaw10_is.f t414 t415 t416 bt428.1 bt428.2).bind fun t430 => (if t430 = true then ((tipstafflaw10_at.f 2 0).bind fun bt431 => ((tipstafflaw10_is.f bt419.1 bt419.2.1 bt419.2.2 bt431.1 bt431.2).bind fun t433 => (if t433 = true then ((tipstafflaw10_at.f 2 0).bind fun bt434 => ((tipstafflaw10_is.f bt424.1 bt424.2.1 bt424.2.2.2 bt434.1 bt434.2).bind fun t436 => (if t436 = true then (if bt424.2.2.1 = 2 then ((tipstafflaw10_at.f 1 1).bind fun bt437 => ((brake_Free.f kj26 bt437.1 bt437.2 2).bind fun bt439 => ((tipstafflaw10_at.f 2 0).bind fun bt441 => ((brake_Free.f kj26 bt441.1 bt441.2 2).bind fun bt443 => ((brake_States.f 0 2).bind fun bt445 => (if bt439.1 = true then (none) else (if bt443.1 = true then (if bt439.2 = 0 then (if bt443.2 = 0 then (if bt445.2 = 0 then ((tipstaffkit_SameInts.f kj26 bt445.1 (([2, 2] : List Int))).bind fun t452 => (if t452 = true then ((tipstafflaw10_at.f 1 2).bind fun bt453 => ((brake_Force.f bt453.1 bt453.2).bind fun bt455 => ((tipstafflaw10_at.f 0 0).bind fun bt457 => (if (bt455.1 == bt457.1 && (bt455.2 == bt457.2)) = true then ((tipstafflaw10_at.f 1 3).bind fun bt459 => ((brake_Check.f kj26 bt459.1 bt459.2 2).bind fun t461 => (if t461 = 2 then ((tipstafflaw10_at.f 2 1).bind fun bt462 => ((brake_Check.f kj26 bt462.1 bt462.2 2).bind fun t464 => (if t464 = 2 then ((brake_New.f).bind fun bt465 => ((brake_Check.f kj26 bt465.1 bt465.2 6).bind fun t467 => (if t467 = 2 then ((tipstafflaw10_awake.f kj26).bind fun t468 => (if t468 = true then (some t468) else (none))) else (none)))) else (none)))) else (none)))) else (none))))) else (none))) else (none)) else (none)) else (none)) else (none)))))))) else (none)) else (none)))) else (none)))) else (none)))))))) = some r := H
                have A70 := Aside0.mk A700
                clear A700
                replace H := Option.bind_eq_some_iff.mp H
                obtain ⟨⟨t417, t418⟩, A710, H⟩ := H
                replace H : ((brake_Run.f t417 t418 2 9).bind fun bt419 => ((tipstafflaw10_at.f 1 2).bind fun bt422 => ((brake_Ends.f kj26 bt422.1 bt422.2 2).bind fun bt424 => ((tipstafflaw10_at.f 1 1).bind fun bt428 => ((tipstafflaw10_is.f t414 t415 t416 bt428.1 bt428.2).bind fun t430 => (if t430 = true then ((tipstafflaw10_at.f 2 0).bind fun bt431 => ((tipstafflaw10_is.f bt419.1 bt419.2.1 bt419.2.2 bt431.1 bt431.2).bind fun t433 => (if t433 = true then ((tipstafflaw10_at.f 2 0).bind fun bt434 => ((tipstafflaw10_is.f bt424.1 bt424.2.1 bt424.2.2.2 bt434.1 bt434.2).bind fun t436 => (if t436 = true then (if bt424.2.2.1 = 2 then ((tipstafflaw10_at.f 1 1).bind fun bt437 => ((brake_Free.f kj26 bt437.1 bt437.2 2).bind fun bt439 => ((tipstafflaw10_at.f 2 0).bind fun bt441 => ((brake_Free.f kj26 bt441.1 bt441.2 2).bind fun bt443 => ((brake_States.f 0 2).bind fun bt445 => (if bt439.1 = true then (none) else (if bt443.1 = true then (if bt439.2 = 0 then (if bt443.2 = 0 then (if bt445.2 = 0 then ((tipstaffkit_SameInts.f kj26 bt445.1 (([2, 2] : List Int))).bind fun t452 => (if t452 = true then ((tipstafflaw10_at.f 1 2).bind fun bt453 => ((brake_Force.f bt453.1 bt453.2).bind fun bt455 => ((tipstafflaw10_at.f 0 0).bind fun bt457 => (if (bt455.1 == bt457.1 && (bt455.2 == bt457.2)) = true then ((tipstafflaw10_at.f 1 3).bind fun bt459 => ((brake_Check.f kj26 bt459.1 bt459.2 2).bind fun t461 => (if t461 = 2 then ((tipstafflaw10_at.f 2 1).bind fun bt462 => ((brake_Check.f kj26 bt462.1 bt462.2 2).bind fun t464 => (if t464 = 2 then ((brake_New.f).bind fun bt465 => ((brake_Check.f kj26 bt465.1 bt465.2 6).bind fun t467 => (if t467 = 2 then ((tipstafflaw10_awake.f kj26).bind fun t468 => (if t468 = true then (some t468) else (none))) else (none)))) else (none)))) else (none)))) else (none))))) else (none))) else (none)) else (none)) else (none)) else (none)))))))) else (none)) else (none)))) else (none)))) else (none))))))) = some r := H
                have A71 := Aside0.mk A710
                clear A710
                replace H := Option.bind_eq_some_iff.mp H
                obtain ⟨⟨t419, t420, t421⟩, A720, H⟩ := H
                replace H : ((tipstafflaw10_at.f 1 2).bind fun bt422 => ((brake_Ends.f kj26 bt422.1 bt422.2 2).bind fun bt424 => ((tipstafflaw10_at.f 1 1).bind fun bt428 => ((tipstafflaw10_is.f t414 t415 t416 bt428.1 bt428.2).bind fun t430 => (if t430 = true then ((tipstafflaw10_at.f 2 0).bind fun bt431 => ((tipstafflaw10_is.f t419 t420 t421 bt431.1 bt431.2).bind fun t433 => (if t433 = true then ((tipstafflaw10_at.f 2 0).bind fun bt434 => ((tipstafflaw10_is.f bt424.1 bt424.2.1 bt424.2.2.2 bt434.1 bt434.2).bind fun t436 => (if t436 = true then (if bt424.2.2.1 = 2 then ((tipstafflaw10_at.f 1 1).bind fun bt437 => ((brake_Free.f kj26 bt437.1 bt437.2 2).bind fun bt439 => ((tipstafflaw10_at.f 2 0).bind fun bt441 => ((brake_Free.f kj26 bt441.1 bt441.2 2).bind fun bt443 => ((brake_States.f 0 2).bind fun bt445 => (if bt439.1 = true then (none) else (if bt443.1 = true then (if bt439.2 = 0 then (if bt443.2 = 0 then (if bt445.2 = 0 then ((tipstaffkit_SameInts.f kj26 bt445.1 (([2, 2] : List Int))).bind fun t452 => (if t452 = true then ((tipstafflaw10_at.f 1 2).bind fun bt453 => ((brake_Force.f bt453.1 bt453.2).bind fun bt455 => ((tipstafflaw10_at.f 0 0).bind fun bt457 => (if (bt455.1 == bt457.1 && (bt455.2 == bt457.2)) = true then ((tipstafflaw10_at.f 1 3).bind fun bt459 => ((brake_Check.f kj26 bt459.1 bt459.2 2).bind fun t461 => (if t461 = 2 then ((tipstafflaw10_at.f 2 1).bind fun bt462 => ((brake_Check.f kj26 bt462.1 bt462.2 2).bind fun t464 => (if t464 = 2 then ((brake_New.f).bind fun bt465 => ((brake_Check.f kj26 bt465.1 bt465.2 6).bind fun t467 => (if t467 = 2 then ((tipstafflaw10_awake.f kj26).bind fun t468 => (if t468 = true then (some t468) else (none))) else (none)))) else (none)))) else (none)))) else (none))))) else (none))) else (none)) else (none)) else (none)) else (none)))))))) else (none)) else (none)))) else (none)))) else (none)))))) = some r := H
                have A72 := Aside0.mk A720
                clear A720
                replace H := Option.bind_eq_some_iff.mp H
                obtain ⟨⟨t422, t423⟩, A730, H⟩ := H
                replace H : ((brake_Ends.f kj26 t422 t423 2).bind fun bt424 => ((tipstafflaw10_at.f 1 1).bind fun bt428 => ((tipstafflaw10_is.f t414 t415 t416 bt428.1 bt428.2).bind fun t430 => (if t430 = true then ((tipstafflaw10_at.f 2 0).bind fun bt431 => ((tipstafflaw10_is.f t419 t420 t421 bt431.1 bt431.2).bind fun t433 => (if t433 = true then ((tipstafflaw10_at.f 2 0).bind fun bt434 => ((tipstafflaw10_is.f bt424.1 bt424.2.1 bt424.2.2.2 bt434.1 bt434.2).bind fun t436 => (if t436 = true then (if bt424.2.2.1 = 2 then ((tipstafflaw10_at.f 1 1).bind fun bt437 => ((brake_Free.f kj26 bt437.1 bt437.2 2).bind fun bt439 => ((tipstafflaw10_at.f 2 0).bind fun bt441 => ((brake_Free.f kj26 bt441.1 bt441.2 2).bind fun bt443 => ((brake_States.f 0 2).bind fun bt445 => (if bt439.1 = true then (none) else (if bt443.1 = true then (if bt439.2 = 0 then (if bt443.2 = 0 then (if bt445.2 = 0 then ((tipstaffkit_SameInts.f kj26 bt445.1 (([2, 2] : List Int))).bind fun t452 => (if t452 = true then ((tipstafflaw10_at.f 1 2).bind fun bt453 => ((brake_Force.f bt453.1 bt453.2).bind fun bt455 => ((tipstafflaw10_at.f 0 0).bind fun bt457 => (if (bt455.1 == bt457.1 && (bt455.2 == bt457.2)) = true then ((tipstafflaw10_at.f 1 3).bind fun bt459 => ((brake_Check.f kj26 bt459.1 bt459.2 2).bind fun t461 => (if t461 = 2 then ((tipstafflaw10_at.f 2 1).bind fun bt462 => ((brake_Check.f kj26 bt462.1 bt462.2 2).bind fun t464 => (if t464 = 2 then ((brake_New.f).bind fun bt465 => ((brake_Check.f kj26 bt465.1 bt465.2 6).bind fun t467 => (if t467 = 2 then ((tipstafflaw10_awake.f kj26).bind fun t468 => (if t468 = true then (some t468) else (none))) else (none)))) else (none)))) else (none)))) else (none))))) else (none))) else (none)) else (none)) else (none)) else (none)))))))) else (none)) else (none)))) else (none)))) else (none))))) = some r := H
                have A73 := Aside0.mk A730
                clear A730
                replace H := Option.bind_eq_some_iff.mp H
                obtain ⟨⟨t424, t425, t426, t427⟩, A740, H⟩ := H
                replace H : ((tipstafflaw10_at.f 1 1).bind fun bt428 => ((tipstafflaw10_is.f t414 t415 t416 bt428.1 bt428.2).bind fun t430 => (if t430 = true then ((tipstafflaw10_at.f 2 0).bind fun bt431 => ((tipstafflaw10_is.f t419 t420 t421 bt431.1 bt431.2).bind fun t433 => (if t433 = true then ((tipstafflaw10_at.f 2 0).bind fun bt434 => ((tipstafflaw10_is.f t424 t425 t427 bt434.1 bt434.2).bind fun t436 => (if t436 = true then (if t426 = 2 then ((tipstafflaw10_at.f 1 1).bind fun bt437 => ((brake_Free.f kj26 bt437.1 bt437.2 2).bind fun bt439 => ((tipstafflaw10_at.f 2 0).bind fun bt441 => ((brake_Free.f kj26 bt441.1 bt441.2 2).bind fun bt443 => ((brake_States.f 0 2).bind fun bt445 => (if bt439.1 = true then (none) else (if bt443.1 = true then (if bt439.2 = 0 then (if bt443.2 = 0 then (if bt445.2 = 0 then ((tipstaffkit_SameInts.f kj26 bt445.1 (([2, 2] : List Int))).bind fun t452 => (if t452 = true then ((tipstafflaw10_at.f 1 2).bind fun bt453 => ((brake_Force.f bt453.1 bt453.2).bind fun bt455 => ((tipstafflaw10_at.f 0 0).bind fun bt457 => (if (bt455.1 == bt457.1 && (bt455.2 == bt457.2)) = true then ((tipstafflaw10_at.f 1 3).bind fun bt459 => ((brake_Check.f kj26 bt459.1 bt459.2 2).bind fun t461 => (if t461 = 2 then ((tipstafflaw10_at.f 2 1).bind fun bt462 => ((brake_Check.f kj26 bt462.1 bt462.2 2).bind fun t464 => (if t464 = 2 then ((brake_New.f).bind fun bt465 => ((brake_Check.f kj26 bt465.1 bt465.2 6).bind fun t467 => (if t467 = 2 then ((tipstafflaw10_awake.f kj26).bind fun t468 => (if t468 = true then (some t468) else (none))) else (none)))) else (none)))) else (none)))) else (none))))) else (none))) else (none)) else (none)) else (none)) else (none)))))))) else (none)) else (none)))) else (none)))) else (none)))) = some r := H
                have A74 := Aside0.mk A740
                clear A740
                replace H := Option.bind_eq_some_iff.mp H
                obtain ⟨⟨t428, t429⟩, A750, H⟩ := H
                replace H : ((tipstafflaw10_is.f t414 t415 t416 t428 t429).bind fun t430 => (if t430 = true then ((tipstafflaw10_at.f 2 0).bind fun bt431 => ((tipstafflaw10_is.f t419 t420 t421 bt431.1 bt431.2).bind fun t433 => (if t433 = true then ((tipstafflaw10_at.f 2 0).bind fun bt434 => ((tipstafflaw10_is.f t424 t425 t427 bt434.1 bt434.2).bind fun t436 => (if t436 = true then (if t426 = 2 then ((tipstafflaw10_at.f 1 1).bind fun bt437 => ((brake_Free.f kj26 bt437.1 bt437.2 2).bind fun bt439 => ((tipstafflaw10_at.f 2 0).bind fun bt441 => ((brake_Free.f kj26 bt441.1 bt441.2 2).bind fun bt443 => ((brake_States.f 0 2).bind fun bt445 => (if bt439.1 = true then (none) else (if bt443.1 = true then (if bt439.2 = 0 then (if bt443.2 = 0 then (if bt445.2 = 0 then ((tipstaffkit_SameInts.f kj26 bt445.1 (([2, 2] : List Int))).bind fun t452 => (if t452 = true then ((tipstafflaw10_at.f 1 2).bind fun bt453 => ((brake_Force.f bt453.1 bt453.2).bind fun bt455 => ((tipstafflaw10_at.f 0 0).bind fun bt457 => (if (bt455.1 == bt457.1 && (bt455.2 == bt457.2)) = true then ((tipstafflaw10_at.f 1 3).bind fun bt459 => ((brake_Check.f kj26 bt459.1 bt459.2 2).bind fun t461 => (if t461 = 2 then ((tipstafflaw10_at.f 2 1).bind fun bt462 => ((brake_Check.f kj26 bt462.1 bt462.2 2).bind fun t464 => (if t464 = 2 then ((brake_New.f).bind fun bt465 => ((brake_Check.f kj26 bt465.1 bt465.2 6).bind fun t467 => (if t467 = 2 then ((tipstafflaw10_awake.f kj26).bind fun t468 => (if t468 = true then (some t468) else (none))) else (none)))) else (none)))) else (none)))) else (none))))) else (none))) else (none)) else (none)) else (none)) else (none)))))))) else (none)) else (none)))) else (none)))) else (none))) = some r := H
                have A75 := Aside0.mk A750
                clear A750
                replace H := Option.bind_eq_some_iff.mp H
                obtain ⟨t430, A760, H⟩ := H
                replace H : (if t430 = true then ((tipstafflaw10_at.f 2 0).bind fun bt431 => ((tipstafflaw10_is.f t419 t420 t421 bt431.1 bt431.2).bind fun t433 => (if t433 = true then ((tipstafflaw10_at.f 2 0).bind fun bt434 => ((tipstafflaw10_is.f t424 t425 t427 bt434.1 bt434.2).bind fun t436 => (if t436 = true then (if t426 = 2 then ((tipstafflaw10_at.f 1 1).bind fun bt437 => ((brake_Free.f kj26 bt437.1 bt437.2 2).bind fun bt439 => ((tipstafflaw10_at.f 2 0).bind fun bt441 => ((brake_Free.f kj26 bt441.1 bt441.2 2).bind fun bt443 => ((brake_States.f 0 2).bind fun bt445 => (if bt439.1 = true then (none) else (if bt443.1 = true then (if bt439.2 = 0 then (if bt443.2 = 0 then (if bt445.2 = 0 then ((tipstaffkit_SameInts.f kj26 bt445.1 (([2, 2] : List Int))).bind fun t452 => (if t452 = true then ((tipstafflaw10_at.f 1 2).bind fun bt453 => ((brake_Force.f bt453.1 bt453.2).bind fun bt455 => ((tipstafflaw10_at.f 0 0).bind fun bt457 => (if (bt455.1 == bt457.1 && (bt455.2 == bt457.2)) = true then ((tipstafflaw10_at.f 1 3).bind fun bt459 => ((brake_Check.f kj26 bt459.1 bt459.2 2).bind fun t461 => (if t461 = 2 then ((tipstafflaw10_at.f 2 1).bind fun bt462 => ((brake_Check.f kj26 bt462.1 bt462.2 2).bind fun t464 => (if t464 = 2 then ((brake_New.f).bind fun bt465 => ((brake_Check.f kj26 bt465.1 bt465.2 6).bind fun t467 => (if t467 = 2 then ((tipstafflaw10_awake.f kj26).bind fun t468 => (if t468 = true then (some t468) else (none))) else (none)))) else (none)))) else (none)))) else (none))))) else (none))) else (none)) else (none)) else (none)) else (none)))))))) else (none)) else (none)))) else (none)))) else (none)) = some r := H
                have A76 := Aside0.mk A760
                clear A760
                by_cases c77 : t430 = true
                · subst c77
                  have H1 : ((tipstafflaw10_at.f 2 0).bind fun bt431 => ((tipstafflaw10_is.f t419 t420 t421 bt431.1 bt431.2).bind fun t433 => (if t433 = true then ((tipstafflaw10_at.f 2 0).bind fun bt434 => ((tipstafflaw10_is.f t424 t425 t427 bt434.1 bt434.2).bind fun t436 => (if t436 = true then (if t426 = 2 then ((tipstafflaw10_at.f 1 1).bind fun bt437 => ((brake_Free.f kj26 bt437.1 bt437.2 2).bind fun bt439 => ((tipstafflaw10_at.f 2 0).bind fun bt441 => ((brake_Free.f kj26 bt441.1 bt441.2 2).bind fun bt443 => ((brake_States.f 0 2).bind fun bt445 => (if bt439.1 = true then (none) else (if bt443.1 = true then (if bt439.2 = 0 then (if bt443.2 = 0 then (if bt445.2 = 0 then ((tipstaffkit_SameInts.f kj26 bt445.1 (([2, 2] : List Int))).bind fun t452 => (if t452 = true then ((tipstafflaw10_at.f 1 2).bind fun bt453 => ((brake_Force.f bt453.1 bt453.2).bind fun bt455 => ((tipstafflaw10_at.f 0 0).bind fun bt457 => (if (bt455.1 == bt457.1 && (bt455.2 == bt457.2)) = true then ((tipstafflaw10_at.f 1 3).bind fun bt459 => ((brake_Check.f kj26 bt459.1 bt459.2 2).bind fun t461 => (if t461 = 2 then ((tipstafflaw10_at.f 2 1).bind fun bt462 => ((brake_Check.f kj26 bt462.1 bt462.2 2).bind fun t464 => (if t464 = 2 then ((brake_New.f).bind fun bt465 => ((brake_Check.f kj26 bt465.1 bt465.2 6).bind fun t467 => (if t467 = 2 then ((tipstafflaw10_awake.f kj26).bind fun t468 => (if t468 = true then (some t468) else (none))) else (none)))) else (none)))) else (none)))) else (none))))) else (none))) else (none)) else (none)) else (none)) else (none)))))))) else (none)) else (none)))) else (none)))) = some r := by rw [if_pos rfl] at H; exact H
                  clear H
                  have H := H1
                  clear H1
                  replace H := Option.bind_eq_some_iff.mp H
                  obtain ⟨⟨t431, t432⟩, A780, H⟩ := H
                  replace H : ((tipstafflaw10_is.f t419 t420 t421 t431 t432).bind fun t433 => (if t433 = true then ((tipstafflaw10_at.f 2 0).bind fun bt434 => ((tipstafflaw10_is.f t424 t425 t427 bt434.1 bt434.2).bind fun t436 => (if t436 = true then (if t426 = 2 then ((tipstafflaw10_at.f 1 1).bind fun bt437 => ((brake_Free.f kj26 bt437.1 bt437.2 2).bind fun bt439 => ((tipstafflaw10_at.f 2 0).bind fun bt441 => ((brake_Free.f kj26 bt441.1 bt441.2 2).bind fun bt443 => ((brake_States.f 0 2).bind fun bt445 => (if bt439.1 = true then (none) else (if bt443.1 = true then (if bt439.2 = 0 then (if bt443.2 = 0 then (if bt445.2 = 0 then ((tipstaffkit_SameInts.f kj26 bt445.1 (([2, 2] : List Int))).bind fun t452 => (if t452 = true then ((tipstafflaw10_at.f 1 2).bind fun bt453 => ((brake_Force.f bt453.1 bt453.2).bind fun bt455 => ((tipstafflaw10_at.f 0 0).bind fun bt457 => (if (bt455.1 == bt457.1 && (bt455.2 == bt457.2)) = true then ((tipstafflaw10_at.f 1 3).bind fun bt459 => ((brake_Check.f kj26 bt459.1 bt459.2 2).bind fun t461 => (if t461 = 2 then ((tipstafflaw10_at.f 2 1).bind fun bt462 => ((brake_Check.f kj26 bt462.1 bt462.2 2).bind fun t464 => (if t464 = 2 then ((brake_New.f).bind fun bt465 => ((brake_Check.f kj26 bt465.1 bt465.2 6).bind fun t467 => (if t467 = 2 then ((tipstafflaw10_awake.f kj26).bind fun t468 => (if t468 = true then (some t468) else (none))) else (none)))) else (none)))) else (none)))) else (none))))) else (none))) else (none)) else (none)) else (none)) else (none)))))))) else (none)) else (none)))) else (none))) = some r := H
                  have A78 := Aside0.mk A780
                  clear A780
                  replace H := Option.bind_eq_some_iff.mp H
                  obtain ⟨t433, A790, H⟩ := H
                  replace H : (if t433 = true then ((tipstafflaw10_at.f 2 0).bind fun bt434 => ((tipstafflaw10_is.f t424 t425 t427 bt434.1 bt434.2).bind fun t436 => (if t436 = true then (if t426 = 2 then ((tipstafflaw10_at.f 1 1).bind fun bt437 => ((brake_Free.f kj26 bt437.1 bt437.2 2).bind fun bt439 => ((tipstafflaw10_at.f 2 0).bind fun bt441 => ((brake_Free.f kj26 bt441.1 bt441.2 2).bind fun bt443 => ((brake_States.f 0 2).bind fun bt445 => (if bt439.1 = true then (none) else (if bt443.1 = true then (if bt439.2 = 0 then (if bt443.2 = 0 then (if bt445.2 = 0 then ((tipstaffkit_SameInts.f kj26 bt445.1 (([2, 2] : List Int))).bind fun t452 => (if t452 = true then ((tipstafflaw10_at.f 1 2).bind fun bt453 => ((brake_Force.f bt453.1 bt453.2).bind fun bt455 => ((tipstafflaw10_at.f 0 0).bind fun bt457 => (if (bt455.1 == bt457.1 && (bt455.2 == bt457.2)) = true then ((tipstafflaw10_at.f 1 3).bind fun bt459 => ((brake_Check.f kj26 bt459.1 bt459.2 2).bind fun t461 => (if t461 = 2 then ((tipstafflaw10_at.f 2 1).bind fun bt462 => ((brake_Check.f kj26 bt462.1 bt462.2 2).bind fun t464 => (if t464 = 2 then ((brake_New.f).bind fun bt465 => ((brake_Check.f kj26 bt465.1 bt465.2 6).bind fun t467 => (if t467 = 2 then ((tipstafflaw10_awake.f kj26).bind fun t468 => (if t468 = true then (some t468) else (none))) else (none)))) else (none)))) else (none)))) else (none))))) else (none))) else (none)) else (none)) else (none)) else (none)))))))) else (none)) else (none)))) else (none)) = some r := H
                  have A79 := Aside0.mk A790
                  clear A790
                  by_cases c80 : t433 = true
                  · subst c80
                    have H1 : ((tipstafflaw10_at.f 2 0).bind fun bt434 => ((tipstafflaw10_is.f t424 t425 t427 bt434.1 bt434.2).bind fun t436 => (if t436 = true then (if t426 = 2 then ((tipstafflaw10_at.f 1 1).bind fun bt437 => ((brake_Free.f kj26 bt437.1 bt437.2 2).bind fun bt439 => ((tipstafflaw10_at.f 2 0).bind fun bt441 => ((brake_Free.f kj26 bt441.1 bt441.2 2).bind fun bt443 => ((brake_States.f 0 2).bind fun bt445 => (if bt439.1 = true then (none) else (if bt443.1 = true then (if bt439.2 = 0 then (if bt443.2 = 0 then (if bt445.2 = 0 then ((tipstaffkit_SameInts.f kj26 bt445.1 (([2, 2] : List Int))).bind fun t452 => (if t452 = true then ((tipstafflaw10_at.f 1 2).bind fun bt453 => ((brake_Force.f bt453.1 bt453.2).bind fun bt455 => ((tipstafflaw10_at.f 0 0).bind fun bt457 => (if (bt455.1 == bt457.1 && (bt455.2 == bt457.2)) = true then ((tipstafflaw10_at.f 1 3).bind fun bt459 => ((brake_Check.f kj26 bt459.1 bt459.2 2).bind fun t461 => (if t461 = 2 then ((tipstafflaw10_at.f 2 1).bind fun bt462 => ((brake_Check.f kj26 bt462.1 bt462.2 2).bind fun t464 => (if t464 = 2 then ((brake_New.f).bind fun bt465 => ((brake_Check.f kj26 bt465.1 bt465.2 6).bind fun t467 => (if t467 = 2 then ((tipstafflaw10_awake.f kj26).bind fun t468 => (if t468 = true then (some t468) else (none))) else (none)))) else (none)))) else (none)))) else (none))))) else (none))) else (none)) else (none)) else (none)) else (none)))))))) else (none)) else (none)))) = some r := by rw [if_pos rfl] at H; exact H
                    clear H
                    have H := H1
                    clear H1
                    replace H := Option.bind_eq_some_iff.mp H
                    obtain ⟨⟨t434, t435⟩, A810, H⟩ := H
                    replace H : ((tipstafflaw10_is.f t424 t425 t427 t434 t435).bind fun t436 => (if t436 = true then (if t426 = 2 then ((tipstafflaw10_at.f 1 1).bind fun bt437 => ((brake_Free.f kj26 bt437.1 bt437.2 2).bind fun bt439 => ((tipstafflaw10_at.f 2 0).bind fun bt441 => ((brake_Free.f kj26 bt441.1 bt441.2 2).bind fun bt443 => ((brake_States.f 0 2).bind fun bt445 => (if bt439.1 = true then (none) else (if bt443.1 = true then (if bt439.2 = 0 then (if bt443.2 = 0 then (if bt445.2 = 0 then ((tipstaffkit_SameInts.f kj26 bt445.1 (([2, 2] : List Int))).bind fun t452 => (if t452 = true then ((tipstafflaw10_at.f 1 2).bind fun bt453 => ((brake_Force.f bt453.1 bt453.2).bind fun bt455 => ((tipstafflaw10_at.f 0 0).bind fun bt457 => (if (bt455.1 == bt457.1 && (bt455.2 == bt457.2)) = true then ((tipstafflaw10_at.f 1 3).bind fun bt459 => ((brake_Check.f kj26 bt459.1 bt459.2 2).bind fun t461 => (if t461 = 2 then ((tipstafflaw10_at.f 2 1).bind fun bt462 => ((brake_Check.f kj26 bt462.1 bt462.2 2).bind fun t464 => (if t464 = 2 then ((brake_New.f).bind fun bt465 => ((brake_Check.f kj26 bt465.1 bt465.2 6).bind fun t467 => (if t467 = 2 then ((tipstafflaw10_awake.f kj26).bind fun t468 => (if t468 = true then (some t468) else (none))) else (none)))) else (none)))) else (none)))) else (none))))) else (none))) else (none)) else (none)) else (none)) else (none)))))))) else (none)) else (none))) = some r := H
                    have A81 := Aside0.mk A810
                    clear A810
                    replace H := Option.bind_eq_some_iff.mp H
                    obtain ⟨t436, A820, H⟩ := H
                    replace H : (if t436 = true then (if t426 = 2 then ((tipstafflaw10_at.f 1 1).bind fun bt437 => ((brake_Free.f kj26 bt437.1 bt437.2 2).bind fun bt439 => ((tipstafflaw10_at.f 2 0).bind fun bt441 => ((brake_Free.f kj26 bt441.1 bt441.2 2).bind fun bt443 => ((brake_States.f 0 2).bind fun bt445 => (if bt439.1 = true then (none) else (if bt443.1 = true then (if bt439.2 = 0 then (if bt443.2 = 0 then (if bt445.2 = 0 then ((tipstaffkit_SameInts.f kj26 bt445.1 (([2, 2] : List Int))).bind fun t452 => (if t452 = true then ((tipstafflaw10_at.f 1 2).bind fun bt453 => ((brake_Force.f bt453.1 bt453.2).bind fun bt455 => ((tipstafflaw10_at.f 0 0).bind fun bt457 => (if (bt455.1 == bt457.1 && (bt455.2 == bt457.2)) = true then ((tipstafflaw10_at.f 1 3).bind fun bt459 => ((brake_Check.f kj26 bt459.1 bt459.2 2).bind fun t461 => (if t461 = 2 then ((tipstafflaw10_at.f 2 1).bind fun bt462 => ((brake_Check.f kj26 bt462.1 bt462.2 2).bind fun t464 => (if t464 = 2 then ((brake_New.f).bind fun bt465 => ((brake_Check.f kj26 bt465.1 bt465.2 6).bind fun t467 => (if t467 = 2 then ((tipstafflaw10_awake.f kj26).bind fun t468 => (if t468 = true then (some t468) else (none))) else (none)))) else (none)))) else (none)))) else (none))))) else (none))) else (none)) else (none)) else (none)) else (none)))))))) else (none)) else (none)) = some r := H
                    have A82 := Aside0.mk A820
                    clear A820
                    by_cases c83 : t436 = true
                    · subst c83
                      have H1 : (if t426 = 2 then ((tipstafflaw10_at.f 1 1).bind fun bt437 => ((brake_Free.f kj26 bt437.1 bt437.2 2).bind fun bt439 => ((tipstafflaw10_at.f 2 0).bind fun bt441 => ((brake_Free.f kj26 bt441.1 bt441.2 2).bind fun bt443 => ((brake_States.f 0 2).bind fun bt445 => (if bt439.1 = true then (none) else (if bt443.1 = true then (if bt439.2 = 0 then (if bt443.2 = 0 then (if bt445.2 = 0 then ((tipstaffkit_SameInts.f kj26 bt445.1 (([2, 2] : List Int))).bind fun t452 => (if t452 = true then ((tipstafflaw10_at.f 1 2).bind fun bt453 => ((brake_Force.f bt453.1 bt453.2).bind fun bt455 => ((tipstafflaw10_at.f 0 0).bind fun bt457 => (if (bt455.1 == bt457.1 && (bt455.2 == bt457.2)) = true then ((tipstafflaw10_at.f 1 3).bind fun bt459 => ((brake_Check.f kj26 bt459.1 bt459.2 2).bind fun t461 => (if t461 = 2 then ((tipstafflaw10_at.f 2 1).bind fun bt462 => ((brake_Check.f kj26 bt462.1 bt462.2 2).bind fun t464 => (if t464 = 2 then ((brake_New.f).bind fun bt465 => ((brake_Check.f kj26 bt465.1 bt465.2 6).bind fun t467 => (if t467 = 2 then ((tipstafflaw10_awake.f kj26).bind fun t468 => (if t468 = true then (some t468) else (none))) else (none)))) else (none)))) else (none)))) else (none))))) else (none))) else (none)) else (none)) else (none)) else (none)))))))) else (none)) = some r := by rw [if_pos rfl] at H; exact H
                      clear H
                      have H := H1
                      clear H1
                      by_cases c84 : t426 = 2
                      · rw [if_pos c84] at H
                        have c84b0 : (t426 == 2) = true := beq_iff_eq.mpr c84
                        have c84b1 : (t426 != 2) = false := bne_eq_false_iff_eq.mpr c84
                        clear c84
                        replace H := Option.bind_eq_some_iff.mp H
                        obtain ⟨⟨t437, t438⟩, A850, H⟩ := H
                        replace H : ((brake_Free.f kj26 t437 t438 2).bind fun bt439 => ((tipstafflaw10_at.f 2 0).bind fun bt441 => ((brake_Free.f kj26 bt441.1 bt441.2 2).bind fun bt443 => ((brake_States.f 0 2).bind fun bt445 => (if bt439.1 = true then (none) else (if bt443.1 = true then (if bt439.2 = 0 then (if bt443.2 = 0 then (if bt445.2 = 0 then ((tipstaffkit_SameInts.f kj26 bt445.1 (([2, 2] : List Int))).bind fun t452 => (if t452 = true then ((tipstafflaw10_at.f 1 2).bind fun bt453 => ((brake_Force.f bt453.1 bt453.2).bind fun bt455 => ((tipstafflaw10_at.f 0 0).bind fun bt457 => (if (bt455.1 == bt457.1 && (bt455.2 == bt457.2)) = true then ((tipstafflaw10_at.f 1 3).bind fun bt459 => ((brake_Check.f kj26 bt459.1 bt459.2 2).bind fun t461 => (if t461 = 2 then ((tipstafflaw10_at.f 2 1).bind fun bt462 => ((brake_Check.f kj26 bt462.1 bt462.2 2).bind fun t464 => (if t464 = 2 then ((brake_New.f).bind fun bt465 => ((brake_Check.f kj26 bt465.1 bt465.2 6).bind fun t467 => (if t467 = 2 then ((tipstafflaw10_awake.f kj26).bind fun t468 => (if t468 = true then (some t468) else (none))) else (none)))) else (none)))) else (none)))) else (none))))) else (none))) else (none)) else (none)) else (none)) else (none))))))) = some r := H
                        have A85 := Aside0.mk A850
                        clear A850
                        replace H := Option.bind_eq_some_iff.mp H
                        obtain ⟨⟨t439, t440⟩, A860, H⟩ := H
                        replace H : ((tipstafflaw10_at.f 2 0).bind fun bt441 => ((brake_Free.f kj26 bt441.1 bt441.2 2).bind fun bt443 => ((brake_States.f 0 2).bind fun bt445 => (if t439 = true then (none) else (if bt443.1 = true then (if t440 = 0 then (if bt443.2 = 0 then (if bt445.2 = 0 then ((tipstaffkit_SameInts.f kj26 bt445.1 (([2, 2] : List Int))).bind fun t452 => (if t452 = true then ((tipstafflaw10_at.f 1 2).bind fun bt453 => ((brake_Force.f bt453.1 bt453.2).bind fun bt455 => ((tipstafflaw10_at.f 0 0).bind fun bt457 => (if (bt455.1 == bt457.1 && (bt455.2 == bt457.2)) = true then ((tipstafflaw10_at.f 1 3).bind fun bt459 => ((brake_Check.f kj26 bt459.1 bt459.2 2).bind fun t461 => (if t461 = 2 then ((tipstafflaw10_at.f 2 1).bind fun bt462 => ((brake_Check.f kj26 bt462.1 bt462.2 2).bind fun t464 => (if t464 = 2 then ((brake_New.f).bind fun bt465 => ((brake_Check.f kj26 bt465.1 bt465.2 6).bind fun t467 => (if t467 = 2 then ((tipstafflaw10_awake.f kj26).bind fun t468 => (if t468 = true then (some t468) else (none))) else (none)))) else (none)))) else (none)))) else (none))))) else (none))) else (none)) else (none)) else (none)) else (none)))))) = some r := H
                        have A86 := Aside0.mk A860
                        clear A860
                        replace H := Option.bind_eq_some_iff.mp H
                        obtain ⟨⟨t441, t442⟩, A870, H⟩ := H
                        replace H : ((brake_Free.f kj26 t441 t442 2).bind fun bt443 => ((brake_States.f 0 2).bind fun bt445 => (if t439 = true then (none) else (if bt443.1 = true then (if t440 = 0 then (if bt443.2 = 0 then (if bt445.2 = 0 then ((tipstaffkit_SameInts.f kj26 bt445.1 (([2, 2] : List Int))).bind fun t452 => (if t452 = true then ((tipstafflaw10_at.f 1 2).bind fun bt453 => ((brake_Force.f bt453.1 bt453.2).bind fun bt455 => ((tipstafflaw10_at.f 0 0).bind fun bt457 => (if (bt455.1 == bt457.1 && (bt455.2 == bt457.2)) = true then ((tipstafflaw10_at.f 1 3).bind fun bt459 => ((brake_Check.f kj26 bt459.1 bt459.2 2).bind fun t461 => (if t461 = 2 then ((tipstafflaw10_at.f 2 1).bind fun bt462 => ((brake_Check.f kj26 bt462.1 bt462.2 2).bind fun t464 => (if t464 = 2 then ((brake_New.f).bind fun bt465 => ((brake_Check.f kj26 bt465.1 bt465.2 6).bind fun t467 => (if t467 = 2 then ((tipstafflaw10_awake.f kj26).bind fun t468 => (if t468 = true then (some t468) else (none))) else (none)))) else (none)))) else (none)))) else (none))))) else (none))) else (none)) else (none)) else (none)) else (none))))) = some r := H
                        have A87 := Aside0.mk A870
                        clear A870
                        replace H := Option.bind_eq_some_iff.mp H
                        obtain ⟨⟨t443, t444⟩, A880, H⟩ := H
                        replace H : ((brake_States.f 0 2).bind fun bt445 => (if t439 = true then (none) else (if t443 = true then (if t440 = 0 then (if t444 = 0 then (if bt445.2 = 0 then ((tipstaffkit_SameInts.f kj26 bt445.1 (([2, 2] : List Int))).bind fun t452 => (if t452 = true then ((tipstafflaw10_at.f 1 2).bind fun bt453 => ((brake_Force.f bt453.1 bt453.2).bind fun bt455 => ((tipstafflaw10_at.f 0 0).bind fun bt457 => (if (bt455.1 == bt457.1 && (bt455.2 == bt457.2)) = true then ((tipstafflaw10_at.f 1 3).bind fun bt459 => ((brake_Check.f kj26 bt459.1 bt459.2 2).bind fun t461 => (if t461 = 2 then ((tipstafflaw10_at.f 2 1).bind fun bt462 => ((brake_Check.f kj26 bt462.1 bt462.2 2).bind fun t464 => (if t464 = 2 then ((brake_New.f).bind fun bt465 => ((brake_Check.f kj26 bt465.1 bt465.2 6).bind fun t467 => (if t467 = 2 then ((tipstafflaw10_awake.f kj26).bind fun t468 => (if t468 = true then (some t468) else (none))) else (none)))) else (none)))) else (none)))) else (none))))) else (none))) else (none)) else (none)) else (none)) else (none)))) = some r := H
                        have A88 := Aside0.mk A880
                        clear A880
                        replace H := Option.bind_eq_some_iff.mp H
                        obtain ⟨⟨t445, t446⟩, A890, H⟩ := H
                        replace H : (if t439 = true then (none) else (if t443 = true then (if t440 = 0 then (if t444 = 0 then (if t446 = 0 then ((tipstaffkit_SameInts.f kj26 t445 (([2, 2] : List Int))).bind fun t452 => (if t452 = true then ((tipstafflaw10_at.f 1 2).bind fun bt453 => ((brake_Force.f bt453.1 bt453.2).bind fun bt455 => ((tipstafflaw10_at.f 0 0).bind fun bt457 => (if (bt455.1 == bt457.1 && (bt455.2 == bt457.2)) = true then ((tipstafflaw10_at.f 1 3).bind fun bt459 => ((brake_Check.f kj26 bt459.1 bt459.2 2).bind fun t461 => (if t461 = 2 then ((tipstafflaw10_at.f 2 1).bind fun bt462 => ((brake_Check.f kj26 bt462.1 bt462.2 2).bind fun t464 => (if t464 = 2 then ((brake_New.f).bind fun bt465 => ((brake_Check.f kj26 bt465.1 bt465.2 6).bind fun t467 => (if t467 = 2 then ((tipstafflaw10_awake.f kj26).bind fun t468 => (if t468 = true then (some t468) else (none))) else (none)))) else (none)))) else (none)))) else (none))))) else (none))) else (none)) else (none)) else (none)) else (none))) = some r := H
                        have A89 := Aside0.mk A890
                        clear A890
                        by_cases c90 : t439 = true
                        · subst c90
                          have H1 : (none) = some r := by rw [if_pos rfl] at H; exact H
                          clear H
                          have H := H1
                          clear H1
                          exact absurd H (by simp)
                        · replace c90 := Bool.eq_false_iff.mpr c90
                          subst c90
                          have H1 : (if t443 = true then (if t440 = 0 then (if t444 = 0 then (if t446 = 0 then ((tipstaffkit_SameInts.f kj26 t445 (([2, 2] : List Int))).bind fun t452 => (if t452 = true then ((tipstafflaw10_at.f 1 2).bind fun bt453 => ((brake_Force.f bt453.1 bt453.2).bind fun bt455 => ((tipstafflaw10_at.f 0 0).bind fun bt457 => (if (bt455.1 == bt457.1 && (bt455.2 == bt457.2)) = true then ((tipstafflaw10_at.f 1 3).bind fun bt459 => ((brake_Check.f kj26 bt459.1 bt459.2 2).bind fun t461 => (if t461 = 2 then ((tipstafflaw10_at.f 2 1).bind fun bt462 => ((brake_Check.f kj26 bt462.1 bt462.2 2).bind fun t464 => (if t464 = 2 then ((brake_New.f).bind fun bt465 => ((brake_Check.f kj26 bt465.1 bt465.2 6).bind fun t467 => (if t467 = 2 then ((tipstafflaw10_awake.f kj26).bind fun t468 => (if t468 = true then (some t468) else (none))) else (none)))) else (none)))) else (none)))) else (none))))) else (none))) else (none)) else (none)) else (none)) else (none)) = some r := by rw [if_neg (show ¬ (false = true) by decide)] at H; exact H
                          clear H
                          have H := H1
                          clear H1
                          by_cases c91 : t443 = true
                          · subst c91
                            have H1 : (if t440 = 0 then (if t444 = 0 then (if t446 = 0 then ((tipstaffkit_SameInts.f kj26 t445 (([2, 2] : List Int))).bind fun t452 => (if t452 = true then ((tipstafflaw10_at.f 1 2).bind fun bt453 => ((brake_Force.f bt453.1 bt453.2).bind fun bt455 => ((tipstafflaw10_at.f 0 0).bind fun bt457 => (if (bt455.1 == bt457.1 && (bt455.2 == bt457.2)) = true then ((tipstafflaw10_at.f 1 3).bind fun bt459 => ((brake_Check.f kj26 bt459.1 bt459.2 2).bind fun t461 => (if t461 = 2 then ((tipstafflaw10_at.f 2 1).bind fun bt462 => ((brake_Check.f kj26 bt462.1 bt462.2 2).bind fun t464 => (if t464 = 2 then ((brake_New.f).bind fun bt465 => ((brake_Check.f kj26 bt465.1 bt465.2 6).bind fun t467 => (if t467 = 2 then ((tipstafflaw10_awake.f kj26).bind fun t468 => (if t468 = true then (some t468) else (none))) else (none)))) else (none)))) else (none)))) else (none))))) else (none))) else (none)) else (none)) else (none)) = some r := by rw [if_pos rfl] at H; exact H
                            clear H
                            have H := H1
                            clear H1
                            by_cases c92 : t440 = 0
                            · rw [if_pos c92] at H
                              have c92b0 : (t440 == 0) = true := beq_iff_eq.mpr c92
                              have c92b1 : (t440 != 0) = false := bne_eq_false_iff_eq.mpr c92
                              clear c92
                              by_cases c93 : t444 = 0
                              · rw [if_pos c93] at H
                                have c93b0 : (t444 == 0) = true := beq_iff_eq.mpr c93
                                have c93b1 : (t444 != 0) = false := bne_eq_false_iff_eq.mpr c93
                                clear c93
                                by_cases c94 : t446 = 0
                                · rw [if_pos c94] at H
                                  have c94b0 : (t446 == 0) = true := beq_iff_eq.mpr c94
                                  have c94b1 : (t446 != 0) = false := bne_eq_false_iff_eq.mpr c94
                                  clear c94
                                  obtain ⟨y449, hy449⟩ : ∃ y_ : List Int, y_ = (([2, 2] : List Int)) := ⟨_, rfl⟩
                                  replace H : ((tipstaffkit_SameInts.f kj26 t445 y449).bind fun t452 => (if t452 = true then ((tipstafflaw10_at.f 1 2).bind fun bt453 => ((brake_Force.f bt453.1 bt453.2).bind fun bt455 => ((tipstafflaw10_at.f 0 0).bind fun bt457 => (if (bt455.1 == bt457.1 && (bt455.2 == bt457.2)) = true then ((tipstafflaw10_at.f 1 3).bind fun bt459 => ((brake_Check.f kj26 bt459.1 bt459.2 2).bind fun t461 => (if t461 = 2 then ((tipstafflaw10_at.f 2 1).bind fun bt462 => ((brake_Check.f kj26 bt462.1 bt462.2 2).bind fun t464 => (if t464 = 2 then ((brake_New.f).bind fun bt465 => ((brake_Check.f kj26 bt465.1 bt465.2 6).bind fun t467 => (if t467 = 2 then ((tipstafflaw10_awake.f kj26).bind fun t468 => (if t468 = true then (some t468) else (none))) else (none)))) else (none)))) else (none)))) else (none))))) else (none))) = some r := by first | (rw [hy449]; with_reducible exact H) | (have H2_ := (Option.bind_some _ _).symm.trans H; rw [hy449]; with_reducible exact H2_) | (have H2_ := (Option.bind_some _ _).symm.trans H; with_reducible exact H2_) | with_reducible exact H | (rw [hy449]; exact H) | exact H
                                  have Ny449 := Aside0.mk hy449
                                  clear hy449
                                  replace H := Option.bind_eq_some_iff.mp H
                                  obtain ⟨t452, A950, H⟩ := H
                                  replace H : (if t452 = true then ((tipstafflaw10_at.f 1 2).bind fun bt453 => ((brake_Force.f bt453.1 bt453.2).bind fun bt455 => ((tipstafflaw10_at.f 0 0).bind fun bt457 => (if (bt455.1 == bt457.1 && (bt455.2 == bt457.2)) = true then ((tipstafflaw10_at.f 1 3).bind fun bt459 => ((brake_Check.f kj26 bt459.1 bt459.2 2).bind fun t461 => (if t461 = 2 then ((tipstafflaw10_at.f 2 1).bind fun bt462 => ((brake_Check.f kj26 bt462.1 bt462.2 2).bind fun t464 => (if t464 = 2 then ((brake_New.f).bind fun bt465 => ((brake_Check.f kj26 bt465.1 bt465.2 6).bind fun t467 => (if t467 = 2 then ((tipstafflaw10_awake.f kj26).bind fun t468 => (if t468 = true then (some t468) else (none))) else (none)))) else (none)))) else (none)))) else (none))))) else (none)) = some r := H
                                  have A95 := Aside0.mk A950
                                  clear A950
                                  by_cases c96 : t452 = true
                                  · subst c96
                                    have H1 : ((tipstafflaw10_at.f 1 2).bind fun bt453 => ((brake_Force.f bt453.1 bt453.2).bind fun bt455 => ((tipstafflaw10_at.f 0 0).bind fun bt457 => (if (bt455.1 == bt457.1 && (bt455.2 == bt457.2)) = true then ((tipstafflaw10_at.f 1 3).bind fun bt459 => ((brake_Check.f kj26 bt459.1 bt459.2 2).bind fun t461 => (if t461 = 2 then ((tipstafflaw10_at.f 2 1).bind fun bt462 => ((brake_Check.f kj26 bt462.1 bt462.2 2).bind fun t464 => (if t464 = 2 then ((brake_New.f).bind fun bt465 => ((brake_Check.f kj26 bt465.1 bt465.2 6).bind fun t467 => (if t467 = 2 then ((tipstafflaw10_awake.f kj26).bind fun t468 => (if t468 = true then (some t468) else (none))) else (none)))) else (none)))) else (none)))) else (none))))) = some r := by rw [if_pos rfl] at H; exact H
                                    clear H
                                    have H := H1
                                    clear H1
                                    replace H := Option.bind_eq_some_iff.mp H
                                    obtain ⟨⟨t453, t454⟩, A970, H⟩ := H
                                    replace H : ((brake_Force.f t453 t454).bind fun bt455 => ((tipstafflaw10_at.f 0 0).bind fun bt457 => (if (bt455.1 == bt457.1 && (bt455.2 == bt457.2)) = true then ((tipstafflaw10_at.f 1 3).bind fun bt459 => ((brake_Check.f kj26 bt459.1 bt459.2 2).bind fun t461 => (if t461 = 2 then ((tipstafflaw10_at.f 2 1).bind fun bt462 => ((brake_Check.f kj26 bt462.1 bt462.2 2).bind fun t464 => (if t464 = 2 then ((brake_New.f).bind fun bt465 => ((brake_Check.f kj26 bt465.1 bt465.2 6).bind fun t467 => (if t467 = 2 then ((tipstafflaw10_awake.f kj26).bind fun t468 => (if t468 = true then (some t468) else (none))) else (none)))) else (none)))) else (none)))) else (none)))) = some r := H
                                    have A97 := Aside0.mk A970
                                    clear A970
                                    replace H := Option.bind_eq_some_iff.mp H
                                    obtain ⟨⟨t455, t456⟩, A980, H⟩ := H
                                    replace H : ((tipstafflaw10_at.f 0 0).bind fun bt457 => (if (t455 == bt457.1 && (t456 == bt457.2)) = true then ((tipstafflaw10_at.f 1 3).bind fun bt459 => ((brake_Check.f kj26 bt459.1 bt459.2 2).bind fun t461 => (if t461 = 2 then ((tipstafflaw10_at.f 2 1).bind fun bt462 => ((brake_Check.f kj26 bt462.1 bt462.2 2).bind fun t464 => (if t464 = 2 then ((brake_New.f).bind fun bt465 => ((brake_Check.f kj26 bt465.1 bt465.2 6).bind fun t467 => (if t467 = 2 then ((tipstafflaw10_awake.f kj26).bind fun t468 => (if t468 = true then (some t468) else (none))) else (none)))) else (none)))) else (none)))) else (none))) = some r := H
                                    have A98 := Aside0.mk A980
                                    clear A980
                                    replace H := Option.bind_eq_some_iff.mp H
                                    obtain ⟨⟨t457, t458⟩, A990, H⟩ := H
                                    replace H : (if (t455 == t457 && (t456 == t458)) = true then ((tipstafflaw10_at.f 1 3).bind fun bt459 => ((brake_Check.f kj26 bt459.1 bt459.2 2).bind fun t461 => (if t461 = 2 then ((tipstafflaw10_at.f 2 1).bind fun bt462 => ((brake_Check.f kj26 bt462.1 bt462.2 2).bind fun t464 => (if t464 = 2 then ((brake_New.f).bind fun bt465 => ((brake_Check.f kj26 bt465.1 bt465.2 6).bind fun t467 => (if t467 = 2 then ((tipstafflaw10_awake.f kj26).bind fun t468 => (if t468 = true then (some t468) else (none))) else (none)))) else (none)))) else (none)))) else (none)) = some r := H
                                    have A99 := Aside0.mk A990
                                    clear A990
                                    by_cases c100 : (t455 == t457 && (t456 == t458)) = true
                                    · rw [if_pos c100] at H
                                      have c100b0 : (t455 == t457 && (t456 == t458)) = true := c100
                                      (try (have c100b1 : decide (t455 = t457 && (t456 == t458)) = true := by simpa using c100))
                                      (try (have c100b2 : (t455 == t457 && (t456 == t458)) = true := by simpa using c100))
                                      clear c100
                                      replace H := Option.bind_eq_some_iff.mp H
                                      obtain ⟨⟨t459, t460⟩, A1010, H⟩ := H
                                      replace H : ((brake_Check.f kj26 t459 t460 2).bind fun t461 => (if t461 = 2 then ((tipstafflaw10_at.f 2 1).bind fun bt462 => ((brake_Check.f kj26 bt462.1 bt462.2 2).bind fun t464 => (if t464 = 2 then ((brake_New.f).bind fun bt465 => ((brake_Check.f kj26 bt465.1 bt465.2 6).bind fun t467 => (if t467 = 2 then ((tipstafflaw10_awake.f kj26).bind fun t468 => (if t468 = true then (some t468) else (none))) else (none)))) else (none)))) else (none))) = some r := H
                                      have A101 := Aside0.mk A1010
                                      clear A1010
                                      replace H := Option.bind_eq_some_iff.mp H
                                      obtain ⟨t461, A1020, H⟩ := H
                                      replace H : (if t461 = 2 then ((tipstafflaw10_at.f 2 1).bind fun bt462 => ((brake_Check.f kj26 bt462.1 bt462.2 2).bind fun t464 => (if t464 = 2 then ((brake_New.f).bind fun bt465 => ((brake_Check.f kj26 bt465.1 bt465.2 6).bind fun t467 => (if t467 = 2 then ((tipstafflaw10_awake.f kj26).bind fun t468 => (if t468 = true then (some t468) else (none))) else (none)))) else (none)))) else (none)) = some r := H
                                      have A102 := Aside0.mk A1020
                                      clear A1020
                                      by_cases c103 : t461 = 2
                                      · rw [if_pos c103] at H
                                        have c103b0 : (t461 == 2) = true := beq_iff_eq.mpr c103
                                        have c103b1 : (t461 != 2) = false := bne_eq_false_iff_eq.mpr c103
                                        clear c103
                                        replace H := Option.bind_eq_some_iff.mp H
                                        obtain ⟨⟨t462, t463⟩, A1040, H⟩ := H
                                        replace H : ((brake_Check.f kj26 t462 t463 2).bind fun t464 => (if t464 = 2 then ((brake_New.f).bind fun bt465 => ((brake_Check.f kj26 bt465.1 bt465.2 6).bind fun t467 => (if t467 = 2 then ((tipstafflaw10_awake.f kj26).bind fun t468 => (if t468 = true then (some t468) else (none))) else (none)))) else (none))) = some r := H
                                        have A104 := Aside0.mk A1040
                                        clear A1040
                                        replace H := Option.bind_eq_some_iff.mp H
                                        obtain ⟨t464, A1050, H⟩ := H
                                        replace H : (if t464 = 2 then ((brake_New.f).bind fun bt465 => ((brake_Check.f kj26 bt465.1 bt465.2 6).bind fun t467 => (if t467 = 2 then ((tipstafflaw10_awake.f kj26).bind fun t468 => (if t468 = true then (some t468) else (none))) else (none)))) else (none)) = some r := H
                                        have A105 := Aside0.mk A1050
                                        clear A1050
                                        by_cases c106 : t464 = 2
                                        · rw [if_pos c106] at H
                                          have c106b0 : (t464 == 2) = true := beq_iff_eq.mpr c106
                                          have c106b1 : (t464 != 2) = false := bne_eq_false_iff_eq.mpr c106
                                          clear c106
                                          replace H := Option.bind_eq_some_iff.mp H
                                          obtain ⟨⟨t465, t466⟩, A1070, H⟩ := H
                                          replace H : ((brake_Check.f kj26 t465 t466 6).bind fun t467 => (if t467 = 2 then ((tipstafflaw10_awake.f kj26).bind fun t468 => (if t468 = true then (some t468) else (none))) else (none))) = some r := H
                                          have A107 := Aside0.mk A1070
                                          clear A1070
                                          replace H := Option.bind_eq_some_iff.mp H
                                          obtain ⟨t467, A1080, H⟩ := H
                                          replace H : (if t467 = 2 then ((tipstafflaw10_awake.f kj26).bind fun t468 => (if t468 = true then (some t468) else (none))) else (none)) = some r := H
                                          have A108 := Aside0.mk A1080
                                          clear A1080
                                          by_cases c109 : t467 = 2
                                          · rw [if_pos c109] at H
                                            have c109b0 : (t467 == 2) = true := beq_iff_eq.mpr c109
                                            have c109b1 : (t467 != 2) = false := bne_eq_false_iff_eq.mpr c109
                                            clear c109
                                            replace H := Option.bind_eq_some_iff.mp H
                                            obtain ⟨t468, A1100, H⟩ := H
                                            replace H : (if t468 = true then (some t468) else (none)) = some r := H
                                            have A110 := Aside0.mk A1100
                                            clear A1100
                                            by_cases c111 : t468 = true
                                            · subst c111
                                              have H1 : (some true) = some r := by rw [if_pos rfl] at H; exact H
                                              clear H
                                              have H := H1
                                              clear H1
                                              obtain rfl := Option.some.inj H
                                              try go_wp2_with (first | ((with_reducible refine gate_callee (f := 27) rfl ?_); refine goesL_ (some 85) rfl rfl Try.func27 (by kernel_rfl) rfl #[.int .i64 1, .int .i64 2] rfl (by (try simp only [List.map_toArray, List.map_cons, List.map_nil]); first | done | rfl | (simp only [List.length_drop, List.length_take]; rfl)) ?_; (with_reducible refine (tipstafflaw10_at.calls 1 2 t412 t413 _ A69.out).mono ?_); rintro e w112 ⟨rfl, hb⟩; refine ⟨_, rfl, ?_⟩; have n0_ := Aside0.mk (blk_below (g := gb366) (o := .cells #[.int .i64 t363, .int .i64 t364] 30 (0, 0)) (by (with_reducible repeat (first | refine blk_drewN ?_ _ | refine blk_drew ?_ | refine blk_alloc ?_ _)); exact BK366.out) hb); have n1_ := Aside0.mk (blk_below (g := gb372) (o := .cells #[.int .i64 t369, .int .i64 t370] 30 (0, 0)) (by (with_reducible repeat (first | refine blk_drewN ?_ _ | refine blk_drew ?_ | refine blk_alloc ?_ _)); exact BK372.out) hb); have n2_ := Aside0.mk (blk_below (g := gb378) (o := .cells #[.int .i64 t375, .int .i64 t376] 30 (0, 0)) (by (with_reducible repeat (first | refine blk_drewN ?_ _ | refine blk_drew ?_ | refine blk_alloc ?_ _)); exact BK378.out) hb); have n3_ := Aside0.mk (blk_below (g := gb384) (o := .cells #[.int .i64 t381, .int .i64 t382] 30 (0, 0)) (by (with_reducible repeat (first | refine blk_drewN ?_ _ | refine blk_drew ?_ | refine blk_alloc ?_ _)); exact BK384.out) hb); have n4_ := Aside0.mk (below_step (by repeat (first | (with_reducible first | exact HB.out | apply below_alloc | apply pw_below_drewN | apply below_drew1 | refine below_set ?_ GE366.out | refine below_set ?_ GE372.out | refine below_set ?_ GE378.out | refine below_set ?_ GE384.out) | exact HB.out)) hb); clear BK366; clear BK372; clear BK378; clear BK384; clear HB; have BK366 := n0_; have BK372 := n1_; have BK378 := n2_; have BK384 := n3_; have HB := n4_; clear n0_ n1_ n2_ n3_ n4_; (try clear hb); (try clear hb2); (try clear hk); (try clear hi)) | ((with_reducible refine gate_callee (f := 19) rfl ?_); refine goesL_ (some 86) rfl rfl Try.func19 (by kernel_rfl) rfl #[.agg #[.int .i64 t412, .int .i64 t413], .int .i64 2, .int .i64 1] rfl (by (try simp only [List.map_toArray, List.map_cons, List.map_nil]); first | done | rfl | (simp only [List.length_drop, List.length_take]; rfl)) ?_; (with_reducible refine (brake_Run.calls t412 t413 2 1 t414 t415 t416 _ A70.out).mono ?_); rintro e w113 ⟨rfl, hb⟩; refine ⟨_, rfl, ?_⟩; have n0_ := Aside0.mk (blk_below (g := gb366) (o := .cells #[.int .i64 t363, .int .i64 t364] 30 (0, 0)) (by (with_reducible repeat (first | refine blk_drewN ?_ _ | refine blk_drew ?_ | refine blk_alloc ?_ _)); exact BK366.out) hb); have n1_ := Aside0.mk (blk_below (g := gb372) (o := .cells #[.int .i64 t369, .int .i64 t370] 30 (0, 0)) (by (with_reducible repeat (first | refine blk_drewN ?_ _ | refine blk_drew ?_ | refine blk_alloc ?_ _)); exact BK372.out) hb); have n2_ := Aside0.mk (blk_below (g := gb378) (o := .cells #[.int .i64 t375, .int .i64 t376] 30 (0, 0)) (by (with_reducible repeat (first | refine blk_drewN ?_ _ | refine blk_drew ?_ | refine blk_alloc ?_ _)); exact BK378.out) hb); have n3_ := Aside0.mk (blk_below (g := gb384) (o := .cells #[.int .i64 t381, .int .i64 t382] 30 (0, 0)) (by (with_reducible repeat (first | refine blk_drewN ?_ _ | refine blk_drew ?_ | refine blk_alloc ?_ _)); exact BK384.out) hb); have n4_ := Aside0.mk (below_step (by repeat (first | (with_reducible first | exact HB.out | apply below_alloc | apply pw_below_drewN | apply below_drew1 | refine below_set ?_ GE366.out | refine below_set ?_ GE372.out | refine below_set ?_ GE378.out | refine below_set ?_ GE384.out) | exact HB.out)) hb); clear BK366; clear BK372; clear BK378; clear BK384; clear HB; have BK366 := n0_; have BK372 := n1_; have BK378 := n2_; have BK384 := n3_; have HB := n4_; clear n0_ n1_ n2_ n3_ n4_; (try clear hb); (try clear hb2); (try clear hk); (try clear hi); have hnb114 := NB366_372.out; have hnc114 := NB372_366.out; have hnb115 := NB366_378.out; have hnc115 := NB378_366.out; have hnb116 := NB366_384.out; have hnc116 := NB384_366.out; have hcz117_0 : w113.cell? ⟨gb366, 0, none⟩ = some (.int .i64 t363) := (blk_cell BK366.out 0).trans rfl; have hcz117_1 : w113.cell? ⟨gb366, 1, none⟩ = some (.int .i64 t364) := (blk_cell BK366.out 1).trans rfl; have hfz117_0 := blk_frozen BK366.out 0; have hfz117_1 := blk_frozen BK366.out 1) | ((with_reducible refine gate_callee (f := 27) rfl ?_); refine goesL_ (some 90) rfl rfl Try.func27 (by kernel_rfl) rfl #[.int .i64 1, .int .i64 2] rfl (by (try simp only [List.map_toArray, List.map_cons, List.map_nil]); first | done | rfl | (simp only [List.length_drop, List.length_take]; rfl)) ?_; (with_reducible refine (tipstafflaw10_at.calls 1 2 t417 t418 _ A71.out).mono ?_); rintro e w118 ⟨rfl, hb⟩; refine ⟨_, rfl, ?_⟩; have n0_ := Aside0.mk (blk_below (g := gb366) (o := .cells #[.int .i64 t414, .int .i64 t415] 30 (0, 0)) (by (with_reducible repeat (first | refine blk_drewN ?_ _ | refine blk_drew ?_ | refine blk_alloc ?_ _)); refine blk_put (cs := #[.int .i64 t414, .int .i64 t364]) ?_ 1 _ rfl; (with_reducible repeat (first | refine blk_drewN ?_ _ | refine blk_drew ?_ | refine blk_alloc ?_ _)); refine blk_put (cs := #[.int .i64 t363, .int .i64 t364]) ?_ 0 _ rfl; (with_reducible repeat (first | refine blk_drewN ?_ _ | refine blk_drew ?_ | refine blk_alloc ?_ _)); exact BK366.out) hb); have n1_ := Aside0.mk (blk_below (g := gb372) (o := .cells #[.int .i64 t369, .int .i64 t370] 30 (0, 0)) (by (with_reducible repeat (first | refine blk_drewN ?_ _ | refine blk_drew ?_ | refine blk_alloc ?_ _)); refine blk_far ?_ NB372_366.out _; (with_reducible repeat (first | refine blk_drewN ?_ _ | refine blk_drew ?_ | refine blk_alloc ?_ _)); refine blk_far ?_ NB372_366.out _; (with_reducible repeat (first | refine blk_drewN ?_ _ | refine blk_drew ?_ | refine blk_alloc ?_ _)); exact BK372.out) hb); have n2_ := Aside0.mk (blk_below (g := gb378) (o := .cells #[.int .i64 t375, .int .i64 t376] 30 (0, 0)) (by (with_reducible repeat (first | refine blk_drewN ?_ _ | refine blk_drew ?_ | refine blk_alloc ?_ _)); refine blk_far ?_ NB378_366.out _; (with_reducible repeat (first | refine blk_drewN ?_ _ | refine blk_drew ?_ | refine blk_alloc ?_ _)); refine blk_far ?_ NB378_366.out _; (with_reducible repeat (first | refine blk_drewN ?_ _ | refine blk_drew ?_ | refine blk_alloc ?_ _)); exact BK378.out) hb); have n3_ := Aside0.mk (blk_below (g := gb384) (o := .cells #[.int .i64 t381, .int .i64 t382] 30 (0, 0)) (by (with_reducible repeat (first | refine blk_drewN ?_ _ | refine blk_drew ?_ | refine blk_alloc ?_ _)); refine blk_far ?_ NB384_366.out _; (with_reducible repeat (first | refine blk_drewN ?_ _ | refine blk_drew ?_ | refine blk_alloc ?_ _)); refine blk_far ?_ NB384_366.out _; (with_reducible repeat (first | refine blk_drewN ?_ _ | refine blk_drew ?_ | refine blk_alloc ?_ _)); exact BK384.out) hb); have n4_ := Aside0.mk (below_step (by repeat (first | (with_reducible first | exact HB.out | apply below_alloc | apply pw_below_drewN | apply below_drew1 | refine below_set ?_ GE366.out | refine below_set ?_ GE372.out | refine below_set ?_ GE378.out | refine below_set ?_ GE384.out) | exact HB.out)) hb); clear BK366; clear BK372; clear BK378; clear BK384; clear HB; have BK366 := n0_; have BK372 := n1_; have BK378 := n2_; have BK384 := n3_; have HB := n4_; clear n0_ n1_ n2_ n3_ n4_; (try clear hb); (try clear hb2); (try clear hk); (try clear hi)) | ((with_reducible refine gate_callee (f := 19) rfl ?_); refine goesL_ (some 91) rfl rfl Try.func19 (by kernel_rfl) rfl #[.agg #[.int .i64 t417, .int .i64 t418], .int .i64 2, .int .i64 9] rfl (by (try simp only [List.map_toArray, List.map_cons, List.map_nil]); first | done | rfl | (simp only [List.length_drop, List.length_take]; rfl)) ?_; (with_reducible refine (brake_Run.calls t417 t418 2 9 t419 t420 t421 _ A72.out).mono ?_); rintro e w119 ⟨rfl, hb⟩; refine ⟨_, rfl, ?_⟩; have n0_ := Aside0.mk (blk_below (g := gb366) (o := .cells #[.int .i64 t414, .int .i64 t415] 30 (0, 0)) (by (with_reducible repeat (first | refine blk_drewN ?_ _ | refine blk_drew ?_ | refine blk_alloc ?_ _)); exact BK366.out) hb); have n1_ := Aside0.mk (blk_below (g := gb372) (o := .cells #[.int .i64 t369, .int .i64 t370] 30 (0, 0)) (by (with_reducible repeat (first | refine blk_drewN ?_ _ | refine blk_drew ?_ | refine blk_alloc ?_ _)); exact BK372.out) hb); have n2_ := Aside0.mk (blk_below (g := gb378) (o := .cells #[.int .i64 t375, .int .i64 t376] 30 (0, 0)) (by (with_reducible repeat (first | refine blk_drewN ?_ _ | refine blk_drew ?_ | refine blk_alloc ?_ _)); exact BK378.out) hb); have n3_ := Aside0.mk (blk_below (g := gb384) (o := .cells #[.int .i64 t381, .int .i64 t382] 30 (0, 0)) (by (with_reducible repeat (first | refine blk_drewN ?_ _ | refine blk_drew ?_ | refine blk_alloc ?_ _)); exact BK384.out) hb); have n4_ := Aside0.mk (below_step (by repeat (first | (with_reducible first | exact HB.out | apply below_alloc | apply pw_below_drewN | apply below_drew1 | refine below_set ?_ GE366.out | refine below_set ?_ GE372.out | refine below_set ?_ GE378.out | refine below_set ?_ GE384.out) | exact HB.out)) hb); clear BK366; clear BK372; clear BK378; clear BK384; clear HB; have BK366 := n0_; have BK372 := n1_; have BK378 := n2_; have BK384 := n3_; have HB := n4_; clear n0_ n1_ n2_ n3_ n4_; (try clear hb); (try clear hb2); (try clear hk); (try clear hi); have hnb120 := NB372_378.out; have hnc120 := NB378_372.out; have hnb121 := NB372_384.out; have hnc121 := NB384_372.out; have hcz122_0 : w119.cell? ⟨gb372, 0, none⟩ = some (.int .i64 t369) := (blk_cell BK372.out 0).trans rfl; have hcz122_1 : w119.cell? ⟨gb372, 1, none⟩ = some (.int .i64 t370) := (blk_cell BK372.out 1).trans rfl; have hfz122_0 := blk_frozen BK372.out 0; have hfz122_1 := blk_frozen BK372.out 1) | ((with_reducible refine gate_callee (f := 27) rfl ?_); refine goesL_ (some 95) rfl rfl Try.func27 (by kernel_rfl) rfl #[.int .i64 1, .int .i64 2] rfl (by (try simp only [List.map_toArray, List.map_cons, List.map_nil]); first | done | rfl | (simp only [List.length_drop, List.length_take]; rfl)) ?_; (with_reducible refine (tipstafflaw10_at.calls 1 2 t422 t423 _ A73.out).mono ?_); rintro e w123 ⟨rfl, hb⟩; refine ⟨_, rfl, ?_⟩; have n0_ := Aside0.mk (blk_below (g := gb366) (o := .cells #[.int .i64 t414, .int .i64 t415] 30 (0, 0)) (by (with_reducible repeat (first | refine blk_drewN ?_ _ | refine blk_drew ?_ | refine blk_alloc ?_ _)); refine blk_far ?_ NB366_372.out _; (with_reducible repeat (first | refine blk_drewN ?_ _ | refine blk_drew ?_ | refine blk_alloc ?_ _)); refine blk_far ?_ NB366_372.out _; (with_reducible repeat (first | refine blk_drewN ?_ _ | refine blk_drew ?_ | refine blk_alloc ?_ _)); exact BK366.out) hb); have n1_ := Aside0.mk (blk_below (g := gb372) (o := .cells #[.int .i64 t419, .int .i64 t420] 30 (0, 0)) (by (with_reducible repeat (first | refine blk_drewN ?_ _ | refine blk_drew ?_ | refine blk_alloc ?_ _)); refine blk_put (cs := #[.int .i64 t419, .int .i64 t370]) ?_ 1 _ rfl; (with_reducible repeat (first | refine blk_drewN ?_ _ | refine blk_drew ?_ | refine blk_alloc ?_ _)); refine blk_put (cs := #[.int .i64 t369, .int .i64 t370]) ?_ 0 _ rfl; (with_reducible repeat (first | refine blk_drewN ?_ _ | refine blk_drew ?_ | refine blk_alloc ?_ _)); exact BK372.out) hb); have n2_ := Aside0.mk (blk_below (g := gb378) (o := .cells #[.int .i64 t375, .int .i64 t376] 30 (0, 0)) (by (with_reducible repeat (first | refine blk_drewN ?_ _ | refine blk_drew ?_ | refine blk_alloc ?_ _)); refine blk_far ?_ NB378_372.out _; (with_reducible repeat (first | refine blk_drewN ?_ _ | refine blk_drew ?_ | refine blk_alloc ?_ _)); refine blk_far ?_ NB378_372.out _; (with_reducible repeat (first | refine blk_drewN ?_ _ | refine blk_drew ?_ | refine blk_alloc ?_ _)); exact BK378.out) hb); have n3_ := Aside0.mk (blk_below (g := gb384) (o := .cells #[.int .i64 t381, .int .i64 t382] 30 (0, 0)) (by (with_reducible repeat (first | refine blk_drewN ?_ _ | refine blk_drew ?_ | refine blk_alloc ?_ _)); refine blk_far ?_ NB384_372.out _; (with_reducible repeat (first | refine blk_drewN ?_ _ | refine blk_drew ?_ | refine blk_alloc ?_ _)); refine blk_far ?_ NB384_372.out _; (with_reducible repeat (first | refine blk_drewN ?_ _ | refine blk_drew ?_ | refine blk_alloc ?_ _)); exact BK384.out) hb); have n4_ := Aside0.mk (below_step (by repeat (first | (with_reducible first | exact HB.out | apply below_alloc | apply pw_below_drewN | apply below_drew1 | refine below_set ?_ GE366.out | refine below_set ?_ GE372.out | refine below_set ?_ GE378.out | refine below_set ?_ GE384.out) | exact HB.out)) hb); clear BK366; clear BK372; clear BK378; clear BK384; clear HB; have BK366 := n0_; have BK372 := n1_; have BK378 := n2_; have BK384 := n3_; have HB := n4_; clear n0_ n1_ n2_ n3_ n4_; (try clear hb); (try clear hb2); (try clear hk); (try clear hi)) | ((with_reducible refine gate_callee (f := 21) rfl ?_); refine goesL_ (some 96) rfl rfl Try.func21 (by kernel_rfl) rfl #[.agg #[.int .i64 t422, .int .i64 t423], .int .i64 2] rfl (by (try simp only [List.map_toArray, List.map_cons, List.map_nil]); first | done | rfl | (simp only [List.length_drop, List.length_take]; rfl)) ?_; (with_reducible refine (brake_Ends.calls kj26 t422 t423 2 t424 t425 t426 t427 _ A74.out).mono ?_); rintro e w124 ⟨rfl, hb⟩; refine ⟨_, rfl, ?_⟩; have n0_ := Aside0.mk (blk_below (g := gb366) (o := .cells #[.int .i64 t414, .int .i64 t415] 30 (0, 0)) (by (with_reducible repeat (first | refine blk_drewN ?_ _ | refine blk_drew ?_ | refine blk_alloc ?_ _)); exact BK366.out) hb); have n1_ := Aside0.mk (blk_below (g := gb372) (o := .cells #[.int .i64 t419, .int .i64 t420] 30 (0, 0)) (by (with_reducible repeat (first | refine blk_drewN ?_ _ | refine blk_drew ?_ | refine blk_alloc ?_ _)); exact BK372.out) hb); have n2_ := Aside0.mk (blk_below (g := gb378) (o := .cells #[.int .i64 t375, .int .i64 t376] 30 (0, 0)) (by (with_reducible repeat (first | refine blk_drewN ?_ _ | refine blk_drew ?_ | refine blk_alloc ?_ _)); exact BK378.out) hb); have n3_ := Aside0.mk (blk_below (g := gb384) (o := .cells #[.int .i64 t381, .int .i64 t382] 30 (0, 0)) (by (with_reducible repeat (first | refine blk_drewN ?_ _ | refine blk_drew ?_ | refine blk_alloc ?_ _)); exact BK384.out) hb); have n4_ := Aside0.mk (below_step (by repeat (first | (with_reducible first | exact HB.out | apply below_alloc | apply pw_below_drewN | apply below_drew1 | refine below_set ?_ GE366.out | refine below_set ?_ GE372.out | refine below_set ?_ GE378.out | refine below_set ?_ GE384.out) | exact HB.out)) hb); clear BK366; clear BK372; clear BK378; clear BK384; clear HB; have BK366 := n0_; have BK372 := n1_; have BK378 := n2_; have BK384 := n3_; have HB := n4_; clear n0_ n1_ n2_ n3_ n4_; (try clear hb); (try clear hb2); (try clear hk); (try clear hi); have hnb125 := NB378_384.out; have hnc125 := NB384_378.out; have hcz126_0 : w124.cell? ⟨gb378, 0, none⟩ = some (.int .i64 t375) := (blk_cell BK378.out 0).trans rfl; have hcz126_1 : w124.cell? ⟨gb378, 1, none⟩ = some (.int .i64 t376) := (blk_cell BK378.out 1).trans rfl; have hfz126_0 := blk_frozen BK378.out 0; have hfz126_1 := blk_frozen BK378.out 1))
                                              have n0_ : Aside0 (((w124.setCell ⟨gb378, 0, none⟩ (.int .i64 t424)).setCell ⟨gb378, 1, none⟩ (.int .i64 t425)).heap[gb366]? = some (.cells #[.int .i64 t414, .int .i64 t415] 30 (0, 0))) := ⟨by (with_reducible repeat (first | refine blk_drewN ?_ _ | refine blk_drew ?_ | refine blk_alloc ?_ _)); refine blk_far ?_ NB366_378.out _; (with_reducible repeat (first | refine blk_drewN ?_ _ | refine blk_drew ?_ | refine blk_alloc ?_ _)); refine blk_far ?_ NB366_378.out _; (with_reducible repeat (first | refine blk_drewN ?_ _ | refine blk_drew ?_ | refine blk_alloc ?_ _)); exact BK366.out⟩
                                              have n1_ : Aside0 (((w124.setCell ⟨gb378, 0, none⟩ (.int .i64 t424)).setCell ⟨gb378, 1, none⟩ (.int .i64 t425)).heap[gb372]? = some (.cells #[.int .i64 t419, .int .i64 t420] 30 (0, 0))) := ⟨by (with_reducible repeat (first | refine blk_drewN ?_ _ | refine blk_drew ?_ | refine blk_alloc ?_ _)); refine blk_far ?_ NB372_378.out _; (with_reducible repeat (first | refine blk_drewN ?_ _ | refine blk_drew ?_ | refine blk_alloc ?_ _)); refine blk_far ?_ NB372_378.out _; (with_reducible repeat (first | refine blk_drewN ?_ _ | refine blk_drew ?_ | refine blk_alloc ?_ _)); exact BK372.out⟩
                                              have n2_ : Aside0 (((w124.setCell ⟨gb378, 0, none⟩ (.int .i64 t424)).setCell ⟨gb378, 1, none⟩ (.int .i64 t425)).heap[gb378]? = some (.cells #[.int .i64 t424, .int .i64 t425] 30 (0, 0))) := ⟨by (with_reducible repeat (first | refine blk_drewN ?_ _ | refine blk_drew ?_ | refine blk_alloc ?_ _)); refine blk_put (cs := #[.int .i64 t424, .int .i64 t376]) ?_ 1 _ rfl; (with_reducible repeat (first | refine blk_drewN ?_ _ | refine blk_drew ?_ | refine blk_alloc ?_ _)); refine blk_put (cs := #[.int .i64 t375, .int .i64 t376]) ?_ 0 _ rfl; (with_reducible repeat (first | refine blk_drewN ?_ _ | refine blk_drew ?_ | refine blk_alloc ?_ _)); exact BK378.out⟩
                                              have n3_ : Aside0 (((w124.setCell ⟨gb378, 0, none⟩ (.int .i64 t424)).setCell ⟨gb378, 1, none⟩ (.int .i64 t425)).heap[gb384]? = some (.cells #[.int .i64 t381, .int .i64 t382] 30 (0, 0))) := ⟨by (with_reducible repeat (first | refine blk_drewN ?_ _ | refine blk_drew ?_ | refine blk_alloc ?_ _)); refine blk_far ?_ NB384_378.out _; (with_reducible repeat (first | refine blk_drewN ?_ _ | refine blk_drew ?_ | refine blk_alloc ?_ _)); refine blk_far ?_ NB384_378.out _; (with_reducible repeat (first | refine blk_drewN ?_ _ | refine blk_drew ?_ | refine blk_alloc ?_ _)); exact BK384.out⟩
                                              have n4_ : Aside0 (Below w.heap.size w ((w124.setCell ⟨gb378, 0, none⟩ (.int .i64 t424)).setCell ⟨gb378, 1, none⟩ (.int .i64 t425))) := ⟨by repeat (first | (with_reducible first | exact HB.out | apply below_alloc | apply pw_below_drewN | apply below_drew1 | refine below_set ?_ GE366.out | refine below_set ?_ GE372.out | refine below_set ?_ GE378.out | refine below_set ?_ GE384.out) | exact HB.out)⟩
                                              (try clear BK366)
                                              (try clear BK372)
                                              (try clear BK378)
                                              (try clear BK384)
                                              (try clear HB)
                                              generalize ((w124.setCell ⟨gb378, 0, none⟩ (.int .i64 t424)).setCell ⟨gb378, 1, none⟩ (.int .i64 t425)) = w127 at n0_ n1_ n2_ n3_ n4_ ⊢
                                              have BK366 := n0_
                                              have BK372 := n1_
                                              have BK378 := n2_
                                              have BK384 := n3_
                                              have HB := n4_
                                              clear n0_ n1_ n2_ n3_ n4_
                                              have n0_ := Aside0.mk (blk_drew BK366.out)
                                              have n1_ := Aside0.mk (blk_drew BK372.out)
                                              have n2_ := Aside0.mk (blk_drew BK378.out)
                                              have n3_ := Aside0.mk (blk_drew BK384.out)
                                              have n4_ := Aside0.mk (below_drew1 HB.out)
                                              clear BK366
                                              clear BK372
                                              clear BK378
                                              clear BK384
                                              clear HB
                                              have BK366 := n0_
                                              have BK372 := n1_
                                              have BK378 := n2_
                                              have BK384 := n3_
                                              have HB := n4_
                                              clear n0_ n1_ n2_ n3_ n4_
                                              refine start_ (n := 23) (S := fun w' => w'.cell? ⟨gb366, 0, none⟩ = some (.int .i64 t414) ∧ w'.cell? ⟨gb366, 1, none⟩ = some (.int .i64 t415) ∧ w'.cell? ⟨gb372, 0, none⟩ = some (.int .i64 t419) ∧ w'.cell? ⟨gb372, 1, none⟩ = some (.int .i64 t420) ∧ w'.cell? ⟨gb378, 0, none⟩ = some (.int .i64 t424) ∧ w'.cell? ⟨gb378, 1, none⟩ = some (.int .i64 t425)) (ds := []) #[false, false, false, false, false, false, false, false, false, false, false, false, false, false, false, false, false, false, false, false, false, false, false] (by kernel_rfl) rfl rfl ⟨(blk_cell BK366.out 0).trans rfl, (blk_cell BK366.out 1).trans rfl, (blk_cell BK372.out 0).trans rfl, (blk_cell BK372.out 1).trans rfl, (blk_cell BK378.out 0).trans rfl, (blk_cell BK378.out 1).trans rfl⟩ (fun hHeld => ?_); refine with_tabW tipstafflaw10_BrakeKnown.tab15 tipstafflaw10_BrakeKnown.bits15 (fun HT_ HW_ => ?_)
                                              generalize w127.drew = w128 at BK366 BK372 BK378 BK384 HB hHeld ⊢
                                              refine pure_ (i := 1) (N := some 101) (v := ?_) (a' := ?_) #[false, true, false, false, false, false, false, false, false, false, false, false, false, false, false, false, false, false, false, false, false, false, false] rfl rfl (any_of HT_.out (by kernel_rfl)) (fun _ _ _ h => h) (Or.inl ⟨by rfl, ?_⟩) ?_ ?_
                                              rotate_left
                                              · intro w'
                                                go_simp
                                                with_reducible rfl
                                              rotate_left
                                              · simp only [Act.put, List.setIfInBounds_toArray, List.set_cons_zero, List.set_cons_succ, i64_w, i32_w]
                                                rfl
                                              refine take_ (i := 0) (N := some 100) (v := ?_) (a' := ?_) #[true, true, false, false, false, false, false, false, false, false, false, false, false, false, false, false, false, false, false, false, false, false, false] rfl rfl (take_ofW HT_.out HW_.out (by kernel_rfl)) (fun _ _ _ h => h) (Or.inl ⟨by rfl, ?_⟩) hHeld ?_ ?_
                                              rotate_left
                                              · rintro w' ⟨s0, s1, s2, s3, s4, s5⟩
                                                go_simp
                                                with_reducible rfl
                                              rotate_left
                                              · simp only [Act.put, List.setIfInBounds_toArray, List.set_cons_zero, List.set_cons_succ, i64_w, i32_w]
                                                rfl
                                              refine one_ (i := 2) (N := some 102) #[true, true, true, false, false, false, false, false, false, false, false, false, false, false, false, false, false, false, false, false, false, false, false] rfl rfl (one_of HT_.out (by kernel_rfl)) (by decide) (fun K hK => ?_)
                                              refine goes_ Try.func27 (by kernel_rfl) rfl #[.int .i64 1, .int .i64 1] (by rfl) rfl rfl (by (try simp only [List.map_toArray, List.map_cons, List.map_nil]); first | done | rfl | (simp only [List.length_drop, List.length_take]; rfl)) ?_
                                              with_reducible refine (tipstafflaw10_at.calls 1 1 t428 t429 _ A75.out).mono ?_
                                              rintro e w129 ⟨rfl, hb⟩
                                              refine ⟨_, rfl, ?_⟩
                                              have n0_ := Aside0.mk (blk_below (g := gb366) (o := .cells #[.int .i64 t414, .int .i64 t415] 30 (0, 0)) (by (with_reducible repeat (first | refine blk_drewN ?_ _ | refine blk_drew ?_ | refine blk_alloc ?_ _)); exact BK366.out) hb)
                                              have n1_ := Aside0.mk (blk_below (g := gb372) (o := .cells #[.int .i64 t419, .int .i64 t420] 30 (0, 0)) (by (with_reducible repeat (first | refine blk_drewN ?_ _ | refine blk_drew ?_ | refine blk_alloc ?_ _)); exact BK372.out) hb)
                                              have n2_ := Aside0.mk (blk_below (g := gb378) (o := .cells #[.int .i64 t424, .int .i64 t425] 30 (0, 0)) (by (with_reducible repeat (first | refine blk_drewN ?_ _ | refine blk_drew ?_ | refine blk_alloc ?_ _)); exact BK378.out) hb)
                                              have n3_ := Aside0.mk (blk_below (g := gb384) (o := .cells #[.int .i64 t381, .int .i64 t382] 30 (0, 0)) (by (with_reducible repeat (first | refine blk_drewN ?_ _ | refine blk_drew ?_ | refine blk_alloc ?_ _)); exact BK384.out) hb)
                                              have n4_ := Aside0.mk (below_step (by repeat (first | (with_reducible first | exact HB.out | apply below_alloc | apply pw_below_drewN | apply below_drew1 | refine below_set ?_ GE366.out | refine below_set ?_ GE372.out | refine below_set ?_ GE378.out | refine below_set ?_ GE384.out) | exact HB.out)) hb)
                                              clear BK366
                                              clear BK372
                                              clear BK378
                                              clear BK384
                                              clear HB
                                              have BK366 := n0_
                                              have BK372 := n1_
                                              have BK378 := n2_
                                              have BK384 := n3_
                                              have HB := n4_
                                              clear n0_ n1_ n2_ n3_ n4_
                                              (try clear hb)
                                              (try clear hb2)
                                              (try clear hk)
                                              (try clear hi)
                                              refine hK.out _ _ ⟨(blk_cell BK366.out 0).trans rfl, (blk_cell BK366.out 1).trans rfl, (blk_cell BK372.out 0).trans rfl, (blk_cell BK372.out 1).trans rfl, (blk_cell BK378.out 0).trans rfl, (blk_cell BK378.out 1).trans rfl⟩ (fun hHeld => ?_)
                                              clear hK K
                                              refine norm_ (a' := ?_) ?_ ?_
                                              rotate_left
                                              · show Act.put _ (some 102) _ = _
                                                simp only [Act.put, List.setIfInBounds_toArray, List.set_cons_zero, List.set_cons_succ, i64_w, i32_w]
                                                rfl
                                              refine one_ (i := 3) (N := some 103) #[true, true, true, true, false, false, false, false, false, false, false, false, false, false, false, false, false, false, false, false, false, false, false] rfl rfl (one_of HT_.out (by kernel_rfl)) (by decide) (fun K hK => ?_)
                                              refine goes_ Try.func26 (by kernel_rfl) rfl #[.agg #[.int .i64 t414, .int .i64 t415], .int .i64 t416, .agg #[.int .i64 t428, .int .i64 t429]] (by rfl) rfl rfl (by (try simp only [List.map_toArray, List.map_cons, List.map_nil]); first | done | rfl | (simp only [List.length_drop, List.length_take]; rfl)) ?_
                                              with_reducible refine (tipstafflaw10_is.calls t414 t415 t416 t428 t429 true _ A76.out).mono ?_
                                              rintro e w130 ⟨rfl, hb⟩
                                              refine ⟨_, rfl, ?_⟩
                                              have n0_ := Aside0.mk (blk_below (g := gb366) (o := .cells #[.int .i64 t414, .int .i64 t415] 30 (0, 0)) (by (with_reducible repeat (first | refine blk_drewN ?_ _ | refine blk_drew ?_ | refine blk_alloc ?_ _)); exact BK366.out) hb)
                                              have n1_ := Aside0.mk (blk_below (g := gb372) (o := .cells #[.int .i64 t419, .int .i64 t420] 30 (0, 0)) (by (with_reducible repeat (first | refine blk_drewN ?_ _ | refine blk_drew ?_ | refine blk_alloc ?_ _)); exact BK372.out) hb)
                                              have n2_ := Aside0.mk (blk_below (g := gb378) (o := .cells #[.int .i64 t424, .int .i64 t425] 30 (0, 0)) (by (with_reducible repeat (first | refine blk_drewN ?_ _ | refine blk_drew ?_ | refine blk_alloc ?_ _)); exact BK378.out) hb)
                                              have n3_ := Aside0.mk (blk_below (g := gb384) (o := .cells #[.int .i64 t381, .int .i64 t382] 30 (0, 0)) (by (with_reducible repeat (first | refine blk_drewN ?_ _ | refine blk_drew ?_ | refine blk_alloc ?_ _)); exact BK384.out) hb)
                                              have n4_ := Aside0.mk (below_step (by repeat (first | (with_reducible first | exact HB.out | apply below_alloc | apply pw_below_drewN | apply below_drew1 | refine below_set ?_ GE366.out | refine below_set ?_ GE372.out | refine below_set ?_ GE378.out | refine below_set ?_ GE384.out) | exact HB.out)) hb)
                                              clear BK366
                                              clear BK372
                                              clear BK378
                                              clear BK384
                                              clear HB
                                              have BK366 := n0_
                                              have BK372 := n1_
                                              have BK378 := n2_
                                              have BK384 := n3_
                                              have HB := n4_
                                              clear n0_ n1_ n2_ n3_ n4_
                                              (try clear hb)
                                              (try clear hb2)
                                              (try clear hk)
                                              (try clear hi)
                                              refine hK.out _ _ ⟨(blk_cell BK366.out 0).trans rfl, (blk_cell BK366.out 1).trans rfl, (blk_cell BK372.out 0).trans rfl, (blk_cell BK372.out 1).trans rfl, (blk_cell BK378.out 0).trans rfl, (blk_cell BK378.out 1).trans rfl⟩ (fun hHeld => ?_)
                                              clear hK K
                                              refine norm_ (a' := ?_) ?_ ?_
                                              rotate_left
                                              · show Act.put _ (some 103) _ = _
                                                simp only [Act.put, List.setIfInBounds_toArray, List.set_cons_zero, List.set_cons_succ, i64_w, i32_w]
                                                rfl
                                              refine pure_ (i := 4) (N := some 104) (v := ?_) (a' := ?_) #[true, true, true, true, true, false, false, false, false, false, false, false, false, false, false, false, false, false, false, false, false, false, false] rfl rfl (any_of HT_.out (by kernel_rfl)) (fun _ _ _ h => h) (Or.inl ⟨by rfl, ?_⟩) ?_ ?_
                                              rotate_left
                                              · intro w'
                                                go_simp
                                                with_reducible rfl
                                              rotate_left
                                              · simp only [Act.put, List.setIfInBounds_toArray, List.set_cons_zero, List.set_cons_succ, i64_w, i32_w]
                                                rfl
                                              refine pure_ (i := 5) (N := some 105) (v := ?_) (a' := ?_) #[true, true, true, true, true, true, false, false, false, false, false, false, false, false, false, false, false, false, false, false, false, false, false] rfl rfl (any_of HT_.out (by kernel_rfl)) (fun _ _ _ h => h) (Or.inl ⟨by rfl, ?_⟩) ?_ ?_
                                              rotate_left
                                              · intro w'
                                                go_simp
                                                with_reducible rfl
                                              rotate_left
                                              · simp only [Act.put, List.setIfInBounds_toArray, List.set_cons_zero, List.set_cons_succ, i64_w, i32_w]
                                                rfl
                                              refine pure_ (i := 7) (N := some 107) (v := ?_) (a' := ?_) #[true, true, true, true, true, true, false, true, false, false, false, false, false, false, false, false, false, false, false, false, false, false, false] rfl rfl (any_of HT_.out (by kernel_rfl)) (fun _ _ _ h => h) (Or.inl ⟨by rfl, ?_⟩) ?_ ?_
                                              rotate_left
                                              · intro w'
                                                go_simp
                                                with_reducible rfl
                                              rotate_left
                                              · simp only [Act.put, List.setIfInBounds_toArray, List.set_cons_zero, List.set_cons_succ, i64_w, i32_w]
                                                rfl
                                              refine take_ (i := 6) (N := some 106) (v := ?_) (a' := ?_) #[true, true, true, true, true, true, true, true, false, false, false, false, false, false, false, false, false, false, false, false, false, false, false] rfl rfl (take_ofW HT_.out HW_.out (by kernel_rfl)) (fun _ _ _ h => h) (Or.inl ⟨by rfl, ?_⟩) hHeld ?_ ?_
                                              rotate_left
                                              · rintro w' ⟨s0, s1, s2, s3, s4, s5⟩
                                                go_simp
                                                with_reducible rfl
                                              rotate_left
                                              · simp only [Act.put, List.setIfInBounds_toArray, List.set_cons_zero, List.set_cons_succ, i64_w, i32_w]
                                                rfl
                                              refine one_ (i := 8) (N := some 108) #[true, true, true, true, true, true, true, true, true, false, false, false, false, false, false, false, false, false, false, false, false, false, false] rfl rfl (one_of HT_.out (by kernel_rfl)) (by decide) (fun K hK => ?_)
                                              refine goes_ Try.func27 (by kernel_rfl) rfl #[.int .i64 2, .int .i64 0] (by rfl) rfl rfl (by (try simp only [List.map_toArray, List.map_cons, List.map_nil]); first | done | rfl | (simp only [List.length_drop, List.length_take]; rfl)) ?_
                                              with_reducible refine (tipstafflaw10_at.calls 2 0 t431 t432 _ A78.out).mono ?_
                                              rintro e w131 ⟨rfl, hb⟩
                                              refine ⟨_, rfl, ?_⟩
                                              have n0_ := Aside0.mk (blk_below (g := gb366) (o := .cells #[.int .i64 t414, .int .i64 t415] 30 (0, 0)) (by (with_reducible repeat (first | refine blk_drewN ?_ _ | refine blk_drew ?_ | refine blk_alloc ?_ _)); exact BK366.out) hb)
                                              have n1_ := Aside0.mk (blk_below (g := gb372) (o := .cells #[.int .i64 t419, .int .i64 t420] 30 (0, 0)) (by (with_reducible repeat (first | refine blk_drewN ?_ _ | refine blk_drew ?_ | refine blk_alloc ?_ _)); exact BK372.out) hb)
                                              have n2_ := Aside0.mk (blk_below (g := gb378) (o := .cells #[.int .i64 t424, .int .i64 t425] 30 (0, 0)) (by (with_reducible repeat (first | refine blk_drewN ?_ _ | refine blk_drew ?_ | refine blk_alloc ?_ _)); exact BK378.out) hb)
                                              have n3_ := Aside0.mk (blk_below (g := gb384) (o := .cells #[.int .i64 t381, .int .i64 t382] 30 (0, 0)) (by (with_reducible repeat (first | refine blk_drewN ?_ _ | refine blk_drew ?_ | refine blk_alloc ?_ _)); exact BK384.out) hb)
                                              have n4_ := Aside0.mk (below_step (by repeat (first | (with_reducible first | exact HB.out | apply below_alloc | apply pw_below_drewN | apply below_drew1 | refine below_set ?_ GE366.out | refine below_set ?_ GE372.out | refine below_set ?_ GE378.out | refine below_set ?_ GE384.out) | exact HB.out)) hb)
                                              clear BK366
                                              clear BK372
                                              clear BK378
                                              clear BK384
                                              clear HB
                                              have BK366 := n0_
                                              have BK372 := n1_
                                              have BK378 := n2_
                                              have BK384 := n3_
                                              have HB := n4_
                                              clear n0_ n1_ n2_ n3_ n4_
                                              (try clear hb)
                                              (try clear hb2)
                                              (try clear hk)
                                              (try clear hi)
                                              refine hK.out _ _ ⟨(blk_cell BK366.out 0).trans rfl, (blk_cell BK366.out 1).trans rfl, (blk_cell BK372.out 0).trans rfl, (blk_cell BK372.out 1).trans rfl, (blk_cell BK378.out 0).trans rfl, (blk_cell BK378.out 1).trans rfl⟩ (fun hHeld => ?_)
                                              clear hK K
                                              refine norm_ (a' := ?_) ?_ ?_
                                              rotate_left
                                              · show Act.put _ (some 108) _ = _
                                                simp only [Act.put, List.setIfInBounds_toArray, List.set_cons_zero, List.set_cons_succ, i64_w, i32_w]
                                                rfl
                                              refine one_ (i := 9) (N := some 109) #[true, true, true, true, true, true, true, true, true, true, false, false, false, false, false, false, false, false, false, false, false, false, false] rfl rfl (one_of HT_.out (by kernel_rfl)) (by decide) (fun K hK => ?_)
                                              refine goes_ Try.func26 (by kernel_rfl) rfl #[.agg #[.int .i64 t419, .int .i64 t420], .int .i64 t421, .agg #[.int .i64 t431, .int .i64 t432]] (by rfl) rfl rfl (by (try simp only [List.map_toArray, List.map_cons, List.map_nil]); first | done | rfl | (simp only [List.length_drop, List.length_take]; rfl)) ?_
                                              with_reducible refine (tipstafflaw10_is.calls t419 t420 t421 t431 t432 true _ A79.out).mono ?_
                                              rintro e w132 ⟨rfl, hb⟩
                                              refine ⟨_, rfl, ?_⟩
                                              have n0_ := Aside0.mk (blk_below (g := gb366) (o := .cells #[.int .i64 t414, .int .i64 t415] 30 (0, 0)) (by (with_reducible repeat (first | refine blk_drewN ?_ _ | refine blk_drew ?_ | refine blk_alloc ?_ _)); exact BK366.out) hb)
                                              have n1_ := Aside0.mk (blk_below (g := gb372) (o := .cells #[.int .i64 t419, .int .i64 t420] 30 (0, 0)) (by (with_reducible repeat (first | refine blk_drewN ?_ _ | refine blk_drew ?_ | refine blk_alloc ?_ _)); exact BK372.out) hb)
                                              have n2_ := Aside0.mk (blk_below (g := gb378) (o := .cells #[.int .i64 t424, .int .i64 t425] 30 (0, 0)) (by (with_reducible repeat (first | refine blk_drewN ?_ _ | refine blk_drew ?_ | refine blk_alloc ?_ _)); exact BK378.out) hb)
                                              have n3_ := Aside0.mk (blk_below (g := gb384) (o := .cells #[.int .i64 t381, .int .i64 t382] 30 (0, 0)) (by (with_reducible repeat (first | refine blk_drewN ?_ _ | refine blk_drew ?_ | refine blk_alloc ?_ _)); exact BK384.out) hb)
                                              have n4_ := Aside0.mk (below_step (by repeat (first | (with_reducible first | exact HB.out | apply below_alloc | apply pw_below_drewN | apply below_drew1 | refine below_set ?_ GE366.out | refine below_set ?_ GE372.out | refine below_set ?_ GE378.out | refine below_set ?_ GE384.out) | exact HB.out)) hb)
                                              clear BK366
                                              clear BK372
                                              clear BK378
                                              clear BK384
                                              clear HB
                                              have BK366 := n0_
                                              have BK372 := n1_
                                              have BK378 := n2_
                                              have BK384 := n3_
                                              have HB := n4_
                                              clear n0_ n1_ n2_ n3_ n4_
                                              (try clear hb)
                                              (try clear hb2)
                                              (try clear hk)
                                              (try clear hi)
                                              refine hK.out _ _ ⟨(blk_cell BK366.out 0).trans rfl, (blk_cell BK366.out 1).trans rfl, (blk_cell BK372.out 0).trans rfl, (blk_cell BK372.out 1).trans rfl, (blk_cell BK378.out 0).trans rfl, (blk_cell BK378.out 1).trans rfl⟩ (fun hHeld => ?_)
                                              clear hK K
                                              refine norm_ (a' := ?_) ?_ ?_
                                              rotate_left
                                              · show Act.put _ (some 109) _ = _
                                                simp only [Act.put, List.setIfInBounds_toArray, List.set_cons_zero, List.set_cons_succ, i64_w, i32_w]
                                                rfl
                                              refine pure_ (i := 10) (N := some 110) (v := ?_) (a' := ?_) #[true, true, true, true, true, true, true, true, true, true, true, false, false, false, false, false, false, false, false, false, false, false, false] rfl rfl (any_of HT_.out (by kernel_rfl)) (fun _ _ _ h => h) (Or.inl ⟨by rfl, ?_⟩) ?_ ?_
                                              rotate_left
                                              · intro w'
                                                go_simp
                                                with_reducible rfl
                                              rotate_left
                                              · simp only [Act.put, List.setIfInBounds_toArray, List.set_cons_zero, List.set_cons_succ, i64_w, i32_w]
                                                rfl
                                              refine pure_ (i := 11) (N := some 111) (v := ?_) (a' := ?_) #[true, true, true, true, true, true, true, true, true, true, true, true, false, false, false, false, false, false, false, false, false, false, false] rfl rfl (any_of HT_.out (by kernel_rfl)) (fun _ _ _ h => h) (Or.inl ⟨by rfl, ?_⟩) ?_ ?_
                                              rotate_left
                                              · intro w'
                                                go_simp
                                                with_reducible rfl
                                              rotate_left
                                              · simp only [Act.put, List.setIfInBounds_toArray, List.set_cons_zero, List.set_cons_succ, i64_w, i32_w]
                                                rfl
                                              refine pure_ (i := 12) (N := some 112) (v := ?_) (a' := ?_) #[true, true, true, true, true, true, true, true, true, true, true, true, true, false, false, false, false, false, false, false, false, false, false] rfl rfl (any_of HT_.out (by kernel_rfl)) (fun _ _ _ h => h) (Or.inl ⟨by rfl, ?_⟩) ?_ ?_
                                              rotate_left
                                              · intro w'
                                                go_simp
                                                with_reducible rfl
                                              rotate_left
                                              · simp only [Act.put, List.setIfInBounds_toArray, List.set_cons_zero, List.set_cons_succ, i64_w, i32_w]
                                                rfl
                                              refine pure_ (i := 14) (N := some 114) (v := ?_) (a' := ?_) #[true, true, true, true, true, true, true, true, true, true, true, true, true, false, true, false, false, false, false, false, false, false, false] rfl rfl (any_of HT_.out (by kernel_rfl)) (fun _ _ _ h => h) (Or.inl ⟨by rfl, ?_⟩) ?_ ?_
                                              rotate_left
                                              · intro w'
                                                go_simp
                                                with_reducible rfl
                                              rotate_left
                                              · simp only [Act.put, List.setIfInBounds_toArray, List.set_cons_zero, List.set_cons_succ, i64_w, i32_w]
                                                rfl
                                              refine take_ (i := 13) (N := some 113) (v := ?_) (a' := ?_) #[true, true, true, true, true, true, true, true, true, true, true, true, true, true, true, false, false, false, false, false, false, false, false] rfl rfl (take_ofW HT_.out HW_.out (by kernel_rfl)) (fun _ _ _ h => h) (Or.inl ⟨by rfl, ?_⟩) hHeld ?_ ?_
                                              rotate_left
                                              · rintro w' ⟨s0, s1, s2, s3, s4, s5⟩
                                                go_simp
                                                with_reducible rfl
                                              rotate_left
                                              · simp only [Act.put, List.setIfInBounds_toArray, List.set_cons_zero, List.set_cons_succ, i64_w, i32_w]
                                                rfl
                                              refine one_ (i := 15) (N := some 115) #[true, true, true, true, true, true, true, true, true, true, true, true, true, true, true, true, false, false, false, false, false, false, false] rfl rfl (one_of HT_.out (by kernel_rfl)) (by decide) (fun K hK => ?_)
                                              refine goes_ Try.func27 (by kernel_rfl) rfl #[.int .i64 2, .int .i64 0] (by rfl) rfl rfl (by (try simp only [List.map_toArray, List.map_cons, List.map_nil]); first | done | rfl | (simp only [List.length_drop, List.length_take]; rfl)) ?_
                                              with_reducible refine (tipstafflaw10_at.calls 2 0 t434 t435 _ A81.out).mono ?_
                                              rintro e w133 ⟨rfl, hb⟩
                                              refine ⟨_, rfl, ?_⟩
                                              have n0_ := Aside0.mk (blk_below (g := gb366) (o := .cells #[.int .i64 t414, .int .i64 t415] 30 (0, 0)) (by (with_reducible repeat (first | refine blk_drewN ?_ _ | refine blk_drew ?_ | refine blk_alloc ?_ _)); exact BK366.out) hb)
                                              have n1_ := Aside0.mk (blk_below (g := gb372) (o := .cells #[.int .i64 t419, .int .i64 t420] 30 (0, 0)) (by (with_reducible repeat (first | refine blk_drewN ?_ _ | refine blk_drew ?_ | refine blk_alloc ?_ _)); exact BK372.out) hb)
                                              have n2_ := Aside0.mk (blk_below (g := gb378) (o := .cells #[.int .i64 t424, .int .i64 t425] 30 (0, 0)) (by (with_reducible repeat (first | refine blk_drewN ?_ _ | refine blk_drew ?_ | refine blk_alloc ?_ _)); exact BK378.out) hb)
                                              have n3_ := Aside0.mk (blk_below (g := gb384) (o := .cells #[.int .i64 t381, .int .i64 t382] 30 (0, 0)) (by (with_reducible repeat (first | refine blk_drewN ?_ _ | refine blk_drew ?_ | refine blk_alloc ?_ _)); exact BK384.out) hb)
                                              have n4_ := Aside0.mk (below_step (by repeat (first | (with_reducible first | exact HB.out | apply below_alloc | apply pw_below_drewN | apply below_drew1 | refine below_set ?_ GE366.out | refine below_set ?_ GE372.out | refine below_set ?_ GE378.out | refine below_set ?_ GE384.out) | exact HB.out)) hb)
                                              clear BK366
                                              clear BK372
                                              clear BK378
                                              clear BK384
                                              clear HB
                                              have BK366 := n0_
                                              have BK372 := n1_
                                              have BK378 := n2_
                                              have BK384 := n3_
                                              have HB := n4_
                                              clear n0_ n1_ n2_ n3_ n4_
                                              (try clear hb)
                                              (try clear hb2)
                                              (try clear hk)
                                              (try clear hi)
                                              refine hK.out _ _ ⟨(blk_cell BK366.out 0).trans rfl, (blk_cell BK366.out 1).trans rfl, (blk_cell BK372.out 0).trans rfl, (blk_cell BK372.out 1).trans rfl, (blk_cell BK378.out 0).trans rfl, (blk_cell BK378.out 1).trans rfl⟩ (fun hHeld => ?_)
                                              clear hK K
                                              refine norm_ (a' := ?_) ?_ ?_
                                              rotate_left
                                              · show Act.put _ (some 115) _ = _
                                                simp only [Act.put, List.setIfInBounds_toArray, List.set_cons_zero, List.set_cons_succ, i64_w, i32_w]
                                                rfl
                                              refine one_ (i := 16) (N := some 116) #[true, true, true, true, true, true, true, true, true, true, true, true, true, true, true, true, true, false, false, false, false, false, false] rfl rfl (one_of HT_.out (by kernel_rfl)) (by decide) (fun K hK => ?_)
                                              refine goes_ Try.func26 (by kernel_rfl) rfl #[.agg #[.int .i64 t424, .int .i64 t425], .int .i64 t427, .agg #[.int .i64 t434, .int .i64 t435]] (by rfl) rfl rfl (by (try simp only [List.map_toArray, List.map_cons, List.map_nil]); first | done | rfl | (simp only [List.length_drop, List.length_take]; rfl)) ?_
                                              with_reducible refine (tipstafflaw10_is.calls t424 t425 t427 t434 t435 true _ A82.out).mono ?_
                                              rintro e w134 ⟨rfl, hb⟩
                                              refine ⟨_, rfl, ?_⟩
                                              have n0_ := Aside0.mk (blk_below (g := gb366) (o := .cells #[.int .i64 t414, .int .i64 t415] 30 (0, 0)) (by (with_reducible repeat (first | refine blk_drewN ?_ _ | refine blk_drew ?_ | refine blk_alloc ?_ _)); exact BK366.out) hb)
                                              have n1_ := Aside0.mk (blk_below (g := gb372) (o := .cells #[.int .i64 t419, .int .i64 t420] 30 (0, 0)) (by (with_reducible repeat (first | refine blk_drewN ?_ _ | refine blk_drew ?_ | refine blk_alloc ?_ _)); exact BK372.out) hb)
                                              have n2_ := Aside0.mk (blk_below (g := gb378) (o := .cells #[.int .i64 t424, .int .i64 t425] 30 (0, 0)) (by (with_reducible repeat (first | refine blk_drewN ?_ _ | refine blk_drew ?_ | refine blk_alloc ?_ _)); exact BK378.out) hb)
                                              have n3_ := Aside0.mk (blk_below (g := gb384) (o := .cells #[.int .i64 t381, .int .i64 t382] 30 (0, 0)) (by (with_reducible repeat (first | refine blk_drewN ?_ _ | refine blk_drew ?_ | refine blk_alloc ?_ _)); exact BK384.out) hb)
                                              have n4_ := Aside0.mk (below_step (by repeat (first | (with_reducible first | exact HB.out | apply below_alloc | apply pw_below_drewN | apply below_drew1 | refine below_set ?_ GE366.out | refine below_set ?_ GE372.out | refine below_set ?_ GE378.out | refine below_set ?_ GE384.out) | exact HB.out)) hb)
                                              clear BK366
                                              clear BK372
                                              clear BK378
                                              clear BK384
                                              clear HB
                                              have BK366 := n0_
                                              have BK372 := n1_
                                              have BK378 := n2_
                                              have BK384 := n3_
                                              have HB := n4_
                                              clear n0_ n1_ n2_ n3_ n4_
                                              (try clear hb)
                                              (try clear hb2)
                                              (try clear hk)
                                              (try clear hi)
                                              refine hK.out _ _ ⟨(blk_cell BK366.out 0).trans rfl, (blk_cell BK366.out 1).trans rfl, (blk_cell BK372.out 0).trans rfl, (blk_cell BK372.out 1).trans rfl, (blk_cell BK378.out 0).trans rfl, (blk_cell BK378.out 1).trans rfl⟩ (fun hHeld => ?_)
                                              clear hK K
                                              refine norm_ (a' := ?_) ?_ ?_
                                              rotate_left
                                              · show Act.put _ (some 116) _ = _
                                                simp only [Act.put, List.setIfInBounds_toArray, List.set_cons_zero, List.set_cons_succ, i64_w, i32_w]
                                                rfl
                                              refine pure_ (i := 17) (N := some 117) (v := ?_) (a' := ?_) #[true, true, true, true, true, true, true, true, true, true, true, true, true, true, true, true, true, true, false, false, false, false, false] rfl rfl (any_of HT_.out (by kernel_rfl)) (fun _ _ _ h => h) (Or.inl ⟨by rfl, ?_⟩) ?_ ?_
                                              rotate_left
                                              · intro w'
                                                go_simp
                                                with_reducible rfl
                                              rotate_left
                                              · simp only [Act.put, List.setIfInBounds_toArray, List.set_cons_zero, List.set_cons_succ, i64_w, i32_w]
                                                rfl
                                              refine pure_ (i := 18) (N := some 118) (v := ?_) (a' := ?_) #[true, true, true, true, true, true, true, true, true, true, true, true, true, true, true, true, true, true, true, false, false, false, false] rfl rfl (any_of HT_.out (by kernel_rfl)) (fun _ _ _ h => h) (Or.inl ⟨by rfl, ?_⟩) ?_ ?_
                                              rotate_left
                                              · intro w'
                                                go_simp
                                                with_reducible rfl
                                              rotate_left
                                              · simp only [Act.put, List.setIfInBounds_toArray, List.set_cons_zero, List.set_cons_succ, i64_w, i32_w]
                                                rfl
                                              refine pure_ (i := 19) (N := some 119) (v := ?_) (a' := ?_) #[true, true, true, true, true, true, true, true, true, true, true, true, true, true, true, true, true, true, true, true, false, false, false] rfl rfl (any_of HT_.out (by kernel_rfl)) (fun _ _ _ h => h) (Or.inl ⟨by rfl, ?_⟩) ?_ ?_
                                              rotate_left
                                              · intro w'
                                                go_simp
                                                with_reducible rfl
                                              rotate_left
                                              · simp only [Act.put, List.setIfInBounds_toArray, List.set_cons_zero, List.set_cons_succ, i64_w, i32_w]
                                                rfl
                                              refine pure_ (i := 20) (N := some 120) (v := ?_) (a' := ?_) #[true, true, true, true, true, true, true, true, true, true, true, true, true, true, true, true, true, true, true, true, true, false, false] rfl rfl (any_of HT_.out (by kernel_rfl)) (fun _ _ _ h => h) (Or.inl ⟨by rfl, ?_⟩) ?_ ?_
                                              rotate_left
                                              · intro w'
                                                go_simp
                                                with_reducible rfl
                                              rotate_left
                                              · simp only [Act.put, List.setIfInBounds_toArray, List.set_cons_zero, List.set_cons_succ, i64_w, i32_w]
                                                rfl
                                              refine pure_ (i := 21) (N := some 121) (v := ?_) (a' := ?_) #[true, true, true, true, true, true, true, true, true, true, true, true, true, true, true, true, true, true, true, true, true, true, false] rfl rfl (any_of HT_.out (by kernel_rfl)) (fun _ _ _ h => h) (Or.inl ⟨by rfl, ?_⟩) ?_ ?_
                                              rotate_left
                                              · intro w'
                                                go_simp
                                                with_reducible rfl
                                              rotate_left
                                              · simp only [Act.put, List.setIfInBounds_toArray, List.set_cons_zero, List.set_cons_succ, i64_w, i32_w]
                                                rfl
                                              refine pure_ (i := 22) (N := some 122) (v := ?_) (a' := ?_) #[true, true, true, true, true, true, true, true, true, true, true, true, true, true, true, true, true, true, true, true, true, true, true] rfl rfl (any_of HT_.out (by kernel_rfl)) (fun _ _ _ h => h) (Or.inl ⟨by rfl, ?_⟩) ?_ ?_
                                              rotate_left
                                              · intro w'
                                                go_simp
                                                with_reducible rfl
                                              rotate_left
                                              · simp only [Act.put, List.setIfInBounds_toArray, List.set_cons_zero, List.set_cons_succ, i64_w, i32_w]
                                                rfl
                                              refine done_ (done_of HT_.out (by kernel_rfl)) ?_
                                              try go_wp2_with (first | ((with_reducible refine gate_callee (f := 27) rfl ?_); refine goesL_ (some 124) rfl rfl Try.func27 (by kernel_rfl) rfl #[.int .i64 1, .int .i64 1] rfl (by (try simp only [List.map_toArray, List.map_cons, List.map_nil]); first | done | rfl | (simp only [List.length_drop, List.length_take]; rfl)) ?_; (with_reducible refine (tipstafflaw10_at.calls 1 1 t437 t438 _ A85.out).mono ?_); rintro e w135 ⟨rfl, hb⟩; refine ⟨_, rfl, ?_⟩; have n0_ := Aside0.mk (blk_below (g := gb366) (o := .cells #[.int .i64 t414, .int .i64 t415] 30 (0, 0)) (by (with_reducible repeat (first | refine blk_drewN ?_ _ | refine blk_drew ?_ | refine blk_alloc ?_ _)); exact BK366.out) hb); have n1_ := Aside0.mk (blk_below (g := gb372) (o := .cells #[.int .i64 t419, .int .i64 t420] 30 (0, 0)) (by (with_reducible repeat (first | refine blk_drewN ?_ _ | refine blk_drew ?_ | refine blk_alloc ?_ _)); exact BK372.out) hb); have n2_ := Aside0.mk (blk_below (g := gb378) (o := .cells #[.int .i64 t424, .int .i64 t425] 30 (0, 0)) (by (with_reducible repeat (first | refine blk_drewN ?_ _ | refine blk_drew ?_ | refine blk_alloc ?_ _)); exact BK378.out) hb); have n3_ := Aside0.mk (blk_below (g := gb384) (o := .cells #[.int .i64 t381, .int .i64 t382] 30 (0, 0)) (by (with_reducible repeat (first | refine blk_drewN ?_ _ | refine blk_drew ?_ | refine blk_alloc ?_ _)); exact BK384.out) hb); have n4_ := Aside0.mk (below_step (by repeat (first | (with_reducible first | exact HB.out | apply below_alloc | apply pw_below_drewN | apply below_drew1 | refine below_set ?_ GE366.out | refine below_set ?_ GE372.out | refine below_set ?_ GE378.out | refine below_set ?_ GE384.out) | exact HB.out)) hb); clear BK366; clear BK372; clear BK378; clear BK384; clear HB; have BK366 := n0_; have BK372 := n1_; have BK378 := n2_; have BK384 := n3_; have HB := n4_; clear n0_ n1_ n2_ n3_ n4_; (try clear hb); (try clear hb2); (try clear hk); (try clear hi)) | ((with_reducible refine gate_callee (f := 25) rfl ?_); refine goesL_ (some 125) rfl rfl Try.func25 (by kernel_rfl) rfl #[.agg #[.int .i64 t437, .int .i64 t438], .int .i64 2] rfl (by (try simp only [List.map_toArray, List.map_cons, List.map_nil]); first | done | rfl | (simp only [List.length_drop, List.length_take]; rfl)) ?_; (with_reducible refine (brake_Free.calls kj26 t437 t438 2 false t440 _ A86.out).mono ?_); rintro e w136 ⟨rfl, hb⟩; refine ⟨_, rfl, ?_⟩; have n0_ := Aside0.mk (blk_below (g := gb366) (o := .cells #[.int .i64 t414, .int .i64 t415] 30 (0, 0)) (by (with_reducible repeat (first | refine blk_drewN ?_ _ | refine blk_drew ?_ | refine blk_alloc ?_ _)); exact BK366.out) hb); have n1_ := Aside0.mk (blk_below (g := gb372) (o := .cells #[.int .i64 t419, .int .i64 t420] 30 (0, 0)) (by (with_reducible repeat (first | refine blk_drewN ?_ _ | refine blk_drew ?_ | refine blk_alloc ?_ _)); exact BK372.out) hb); have n2_ := Aside0.mk (blk_below (g := gb378) (o := .cells #[.int .i64 t424, .int .i64 t425] 30 (0, 0)) (by (with_reducible repeat (first | refine blk_drewN ?_ _ | refine blk_drew ?_ | refine blk_alloc ?_ _)); exact BK378.out) hb); have n3_ := Aside0.mk (blk_below (g := gb384) (o := .cells #[.int .i64 t381, .int .i64 t382] 30 (0, 0)) (by (with_reducible repeat (first | refine blk_drewN ?_ _ | refine blk_drew ?_ | refine blk_alloc ?_ _)); exact BK384.out) hb); have n4_ := Aside0.mk (below_step (by repeat (first | (with_reducible first | exact HB.out | apply below_alloc | apply pw_below_drewN | apply below_drew1 | refine below_set ?_ GE366.out | refine below_set ?_ GE372.out | refine below_set ?_ GE378.out | refine below_set ?_ GE384.out) | exact HB.out)) hb); clear BK366; clear BK372; clear BK378; clear BK384; clear HB; have BK366 := n0_; have BK372 := n1_; have BK378 := n2_; have BK384 := n3_; have HB := n4_; clear n0_ n1_ n2_ n3_ n4_; (try clear hb); (try clear hb2); (try clear hk); (try clear hi)) | ((with_reducible refine gate_callee (f := 27) rfl ?_); refine goesL_ (some 129) rfl rfl Try.func27 (by kernel_rfl) rfl #[.int .i64 2, .int .i64 0] rfl (by (try simp only [List.map_toArray, List.map_cons, List.map_nil]); first | done | rfl | (simp only [List.length_drop, List.length_take]; rfl)) ?_; (with_reducible refine (tipstafflaw10_at.calls 2 0 t441 t442 _ A87.out).mono ?_); rintro e w137 ⟨rfl, hb⟩; refine ⟨_, rfl, ?_⟩; have n0_ := Aside0.mk (blk_below (g := gb366) (o := .cells #[.int .i64 t414, .int .i64 t415] 30 (0, 0)) (by (with_reducible repeat (first | refine blk_drewN ?_ _ | refine blk_drew ?_ | refine blk_alloc ?_ _)); exact BK366.out) hb); have n1_ := Aside0.mk (blk_below (g := gb372) (o := .cells #[.int .i64 t419, .int .i64 t420] 30 (0, 0)) (by (with_reducible repeat (first | refine blk_drewN ?_ _ | refine blk_drew ?_ | refine blk_alloc ?_ _)); exact BK372.out) hb); have n2_ := Aside0.mk (blk_below (g := gb378) (o := .cells #[.int .i64 t424, .int .i64 t425] 30 (0, 0)) (by (with_reducible repeat (first | refine blk_drewN ?_ _ | refine blk_drew ?_ | refine blk_alloc ?_ _)); exact BK378.out) hb); have n3_ := Aside0.mk (blk_below (g := gb384) (o := .cells #[.int .i64 t381, .int .i64 t382] 30 (0, 0)) (by (with_reducible repeat (first | refine blk_drewN ?_ _ | refine blk_drew ?_ | refine blk_alloc ?_ _)); exact BK384.out) hb); have n4_ := Aside0.mk (below_step (by repeat (first | (with_reducible first | exact HB.out | apply below_alloc | apply pw_below_drewN | apply below_drew1 | refine below_set ?_ GE366.out | refine below_set ?_ GE372.out | refine below_set ?_ GE378.out | refine below_set ?_ GE384.out) | exact HB.out)) hb); clear BK366; clear BK372; clear BK378; clear BK384; clear HB; have BK366 := n0_; have BK372 := n1_; have BK378 := n2_; have BK384 := n3_; have HB := n4_; clear n0_ n1_ n2_ n3_ n4_; (try clear hb); (try clear hb2); (try clear hk); (try clear hi)) | ((with_reducible refine gate_callee (f := 25) rfl ?_); refine goesL_ (some 130) rfl rfl Try.func25 (by kernel_rfl) rfl #[.agg #[.int .i64 t441, .int .i64 t442], .int .i64 2] rfl (by (try simp only [List.map_toArray, List.map_cons, List.map_nil]); first | done | rfl | (simp only [List.length_drop, List.length_take]; rfl)) ?_; (with_reducible refine (brake_Free.calls kj26 t441 t442 2 true t444 _ A88.out).mono ?_); rintro e w138 ⟨rfl, hb⟩; refine ⟨_, rfl, ?_⟩; have n0_ := Aside0.mk (blk_below (g := gb366) (o := .cells #[.int .i64 t414, .int .i64 t415] 30 (0, 0)) (by (with_reducible repeat (first | refine blk_drewN ?_ _ | refine blk_drew ?_ | refine blk_alloc ?_ _)); exact BK366.out) hb); have n1_ := Aside0.mk (blk_below (g := gb372) (o := .cells #[.int .i64 t419, .int .i64 t420] 30 (0, 0)) (by (with_reducible repeat (first | refine blk_drewN ?_ _ | refine blk_drew ?_ | refine blk_alloc ?_ _)); exact BK372.out) hb); have n2_ := Aside0.mk (blk_below (g := gb378) (o := .cells #[.int .i64 t424, .int .i64 t425] 30 (0, 0)) (by (with_reducible repeat (first | refine blk_drewN ?_ _ | refine blk_drew ?_ | refine blk_alloc ?_ _)); exact BK378.out) hb); have n3_ := Aside0.mk (blk_below (g := gb384) (o := .cells #[.int .i64 t381, .int .i64 t382] 30 (0, 0)) (by (with_reducible repeat (first | refine blk_drewN ?_ _ | refine blk_drew ?_ | refine blk_alloc ?_ _)); exact BK384.out) hb); have n4_ := Aside0.mk (below_step (by repeat (first | (with_reducible first | exact HB.out | apply below_alloc | apply pw_below_drewN | apply below_drew1 | refine below_set ?_ GE366.out | refine below_set ?_ GE372.out | refine below_set ?_ GE378.out | refine below_set ?_ GE384.out) | exact HB.out)) hb); clear BK366; clear BK372; clear BK378; clear BK384; clear HB; have BK366 := n0_; have BK372 := n1_; have BK378 := n2_; have BK384 := n3_; have HB := n4_; clear n0_ n1_ n2_ n3_ n4_; (try clear hb); (try clear hb2); (try clear hk); (try clear hi)) | ((with_reducible refine gate_callee (f := 11) rfl ?_); refine goesL_ (some 134) rfl rfl Try.func11 (by kernel_rfl) rfl #[.int .i64 0, .int .i64 2] rfl (by (try simp only [List.map_toArray, List.map_cons, List.map_nil]); first | done | rfl | (simp only [List.length_drop, List.length_take]; rfl)) ?_; (with_reducible refine (brake_States.calls 0 2 t445 t446 _ A89.out).mono ?_); rintro e w139 ⟨v447, rfl, ho0, hb⟩; refine ⟨_, rfl, ?_⟩; have n0_ := Aside0.mk (Kd.R_lower ho0 (below_size (by repeat (first | (with_reducible first | exact HB.out | apply below_alloc | apply pw_below_drewN | apply below_drew1 | refine below_set ?_ GE366.out | refine below_set ?_ GE372.out | refine below_set ?_ GE378.out | refine below_set ?_ GE384.out) | exact HB.out)))); have n1_ := Aside0.mk (blk_below (g := gb366) (o := .cells #[.int .i64 t414, .int .i64 t415] 30 (0, 0)) (by (with_reducible repeat (first | refine blk_drewN ?_ _ | refine blk_drew ?_ | refine blk_alloc ?_ _)); exact BK366.out) hb); have n2_ := Aside0.mk (blk_below (g := gb372) (o := .cells #[.int .i64 t419, .int .i64 t420] 30 (0, 0)) (by (with_reducible repeat (first | refine blk_drewN ?_ _ | refine blk_drew ?_ | refine blk_alloc ?_ _)); exact BK372.out) hb); have n3_ := Aside0.mk (blk_below (g := gb378) (o := .cells #[.int .i64 t424, .int .i64 t425] 30 (0, 0)) (by (with_reducible repeat (first | refine blk_drewN ?_ _ | refine blk_drew ?_ | refine blk_alloc ?_ _)); exact BK378.out) hb); have n4_ := Aside0.mk (blk_below (g := gb384) (o := .cells #[.int .i64 t381, .int .i64 t382] 30 (0, 0)) (by (with_reducible repeat (first | refine blk_drewN ?_ _ | refine blk_drew ?_ | refine blk_alloc ?_ _)); exact BK384.out) hb); have n5_ := Aside0.mk (below_step (by repeat (first | (with_reducible first | exact HB.out | apply below_alloc | apply pw_below_drewN | apply below_drew1 | refine below_set ?_ GE366.out | refine below_set ?_ GE372.out | refine below_set ?_ GE378.out | refine below_set ?_ GE384.out) | exact HB.out)) hb); clear BK366; clear BK372; clear BK378; clear BK384; clear HB; have HO448 := n0_; have BK366 := n1_; have BK372 := n2_; have BK378 := n3_; have BK384 := n4_; have HB := n5_; clear n0_ n1_ n2_ n3_ n4_ n5_; (try clear hb); (try clear hb2); (try clear hk); (try clear hi); (try clear ho0)) | ((with_reducible refine gate_dst (N := 156) rfl ?_); (try (refine gate_guard (by rfl) ?_; dsimp only)); refine Kd.R_lit (Kd.int .i64) _ 3 ?hg (N := 156) ?hd (xs := ([2, 2] : List Int)) (inner := [.int .i64 2, .int .i64 2]) (ok := fun _ => True) (okp := fun _ => True) ?hr ?hp (fun _ hk => hk) trivial (Below.refl _ _) (Nat.le_refl _) (by simp) ?_; (case hd => rfl); (case hg => rfl); (case hr => first | (go_simp; done) | (go_simp; rfl)); (case hp => exact (Reps.one (show Kd.M (Kd.int .i64) _ _ _ 2 [.int .i64 2] from rfl) (Reps.one (show Kd.M (Kd.int .i64) _ _ _ 2 [.int .i64 2] from rfl) (Reps.none _ _)))); intro v450 w140 ho141 hb hg_ hnew_; clear hg_ hnew_; (first | rw [← Ny449.out] at ho141 | (simp only [Int.reduceToNat] at ho141; rw [← Ny449.out] at ho141)); have n0_ := Aside0.mk (Kd.R_elder' (by (with_reducible repeat (first | apply Kd.R_alloc | apply Kd.R_drewN | apply Kd.R_drew)); exact HO448.out) (Kd.R_base ho141) hb); have n1_ := Aside0.mk (Kd.R_lower (Kd.R_new' ho141 (Kd.R_lt (by (with_reducible repeat (first | apply Kd.R_alloc | apply Kd.R_drewN | apply Kd.R_drew)); exact HO448.out))) (below_size (by repeat (first | (with_reducible first | exact HB.out | apply below_alloc | apply pw_below_drewN | apply below_drew1 | refine below_set ?_ GE366.out | refine below_set ?_ GE372.out | refine below_set ?_ GE378.out | refine below_set ?_ GE384.out) | exact HB.out)))); have n2_ := Aside0.mk (blk_below (g := gb366) (o := .cells #[.int .i64 t414, .int .i64 t415] 30 (0, 0)) (by (with_reducible repeat (first | refine blk_drewN ?_ _ | refine blk_drew ?_ | refine blk_alloc ?_ _)); exact BK366.out) hb); have n3_ := Aside0.mk (blk_below (g := gb372) (o := .cells #[.int .i64 t419, .int .i64 t420] 30 (0, 0)) (by (with_reducible repeat (first | refine blk_drewN ?_ _ | refine blk_drew ?_ | refine blk_alloc ?_ _)); exact BK372.out) hb); have n4_ := Aside0.mk (blk_below (g := gb378) (o := .cells #[.int .i64 t424, .int .i64 t425] 30 (0, 0)) (by (with_reducible repeat (first | refine blk_drewN ?_ _ | refine blk_drew ?_ | refine blk_alloc ?_ _)); exact BK378.out) hb); have n5_ := Aside0.mk (blk_below (g := gb384) (o := .cells #[.int .i64 t381, .int .i64 t382] 30 (0, 0)) (by (with_reducible repeat (first | refine blk_drewN ?_ _ | refine blk_drew ?_ | refine blk_alloc ?_ _)); exact BK384.out) hb); have n6_ := Aside0.mk (below_step (by repeat (first | (with_reducible first | exact HB.out | apply below_alloc | apply pw_below_drewN | apply below_drew1 | refine below_set ?_ GE366.out | refine below_set ?_ GE372.out | refine below_set ?_ GE378.out | refine below_set ?_ GE384.out) | exact HB.out)) hb); clear HO448; clear BK366; clear BK372; clear BK378; clear BK384; clear HB; have HO448 := n0_; have HO451 := n1_; have BK366 := n2_; have BK372 := n3_; have BK378 := n4_; have BK384 := n5_; have HB := n6_; clear n0_ n1_ n2_ n3_ n4_ n5_ n6_; clear hb ho141; obtain ⟨Ao142, co142, eo142⟩ := Kd.R_slice HO448.out; subst eo142; obtain ⟨Ao143, co143, eo143⟩ := Kd.R_slice HO451.out; subst eo143) | (go_at_call 24; (with_reducible refine (tipstaffkit_SameInts.calls kj26 _ _ t445 _ _ y449 true _ ?side1 ?side2 ?side3 ?side4 A95.out).mono ?_); (case side1 => repeat (first | exact (Kd.R_reads' HO448.out).2.2 | (with_reducible refine Kd.C_alloc ?_ _) | (with_reducible refine Kd.C_drewN ?_ _) | (with_reducible refine Kd.C_drew ?_))); (case side2 => exact (Kd.R_reads' HO448.out).2.1); (case side3 => repeat (first | exact (Kd.R_reads' HO451.out).2.2 | (with_reducible refine Kd.C_alloc ?_ _) | (with_reducible refine Kd.C_drewN ?_ _) | (with_reducible refine Kd.C_drew ?_))); (case side4 => exact (Kd.R_reads' HO451.out).2.1); rintro e w' ⟨rfl, ⟨nd, rfl⟩⟩) | (go_at_call 27; (with_reducible refine (tipstafflaw10_at.calls 1 2 t453 t454 _ A97.out).mono ?_); rintro e w144 ⟨rfl, hb⟩; have n0_ := Aside0.mk (Kd.R_below (by (with_reducible repeat (first | apply Kd.R_alloc | apply Kd.R_drewN | apply Kd.R_drew)); exact HO448.out) hb); have n1_ := Aside0.mk (Kd.R_below (by (with_reducible repeat (first | apply Kd.R_alloc | apply Kd.R_drewN | apply Kd.R_drew)); exact HO451.out) hb); have n2_ := Aside0.mk (blk_below (g := gb366) (o := .cells #[.int .i64 t414, .int .i64 t415] 30 (0, 0)) (by (with_reducible repeat (first | refine blk_drewN ?_ _ | refine blk_drew ?_ | refine blk_alloc ?_ _)); exact BK366.out) hb); have n3_ := Aside0.mk (blk_below (g := gb372) (o := .cells #[.int .i64 t419, .int .i64 t420] 30 (0, 0)) (by (with_reducible repeat (first | refine blk_drewN ?_ _ | refine blk_drew ?_ | refine blk_alloc ?_ _)); exact BK372.out) hb); have n4_ := Aside0.mk (blk_below (g := gb378) (o := .cells #[.int .i64 t424, .int .i64 t425] 30 (0, 0)) (by (with_reducible repeat (first | refine blk_drewN ?_ _ | refine blk_drew ?_ | refine blk_alloc ?_ _)); exact BK378.out) hb); have n5_ := Aside0.mk (blk_below (g := gb384) (o := .cells #[.int .i64 t381, .int .i64 t382] 30 (0, 0)) (by (with_reducible repeat (first | refine blk_drewN ?_ _ | refine blk_drew ?_ | refine blk_alloc ?_ _)); exact BK384.out) hb); have n6_ := Aside0.mk (below_step (by repeat (first | (with_reducible first | exact HB.out | apply below_alloc | apply pw_below_drewN | apply below_drew1 | refine below_set ?_ GE366.out | refine below_set ?_ GE372.out | refine below_set ?_ GE378.out | refine below_set ?_ GE384.out) | exact HB.out)) hb); clear HO448; clear HO451; clear BK366; clear BK372; clear BK378; clear BK384; clear HB; have HO448 := n0_; have HO451 := n1_; have BK366 := n2_; have BK372 := n3_; have BK378 := n4_; have BK384 := n5_; have HB := n6_; clear n0_ n1_ n2_ n3_ n4_ n5_ n6_; (try clear hb); (try clear hb2); (try clear hk); (try clear hi)) | (go_at_call 16; (with_reducible refine (brake_Force.calls t453 t454 t455 t456 _ A98.out).mono ?_); rintro e w145 ⟨rfl, hb⟩; have n0_ := Aside0.mk (Kd.R_below (by (with_reducible repeat (first | apply Kd.R_alloc | apply Kd.R_drewN | apply Kd.R_drew)); exact HO448.out) hb); have n1_ := Aside0.mk (Kd.R_below (by (with_reducible repeat (first | apply Kd.R_alloc | apply Kd.R_drewN | apply Kd.R_drew)); exact HO451.out) hb); have n2_ := Aside0.mk (blk_below (g := gb366) (o := .cells #[.int .i64 t414, .int .i64 t415] 30 (0, 0)) (by (with_reducible repeat (first | refine blk_drewN ?_ _ | refine blk_drew ?_ | refine blk_alloc ?_ _)); exact BK366.out) hb); have n3_ := Aside0.mk (blk_below (g := gb372) (o := .cells #[.int .i64 t419, .int .i64 t420] 30 (0, 0)) (by (with_reducible repeat (first | refine blk_drewN ?_ _ | refine blk_drew ?_ | refine blk_alloc ?_ _)); exact BK372.out) hb); have n4_ := Aside0.mk (blk_below (g := gb378) (o := .cells #[.int .i64 t424, .int .i64 t425] 30 (0, 0)) (by (with_reducible repeat (first | refine blk_drewN ?_ _ | refine blk_drew ?_ | refine blk_alloc ?_ _)); exact BK378.out) hb); have n5_ := Aside0.mk (blk_below (g := gb384) (o := .cells #[.int .i64 t381, .int .i64 t382] 30 (0, 0)) (by (with_reducible repeat (first | refine blk_drewN ?_ _ | refine blk_drew ?_ | refine blk_alloc ?_ _)); exact BK384.out) hb); have n6_ := Aside0.mk (below_step (by repeat (first | (with_reducible first | exact HB.out | apply below_alloc | apply pw_below_drewN | apply below_drew1 | refine below_set ?_ GE366.out | refine below_set ?_ GE372.out | refine below_set ?_ GE378.out | refine below_set ?_ GE384.out) | exact HB.out)) hb); clear HO448; clear HO451; clear BK366; clear BK372; clear BK378; clear BK384; clear HB; have HO448 := n0_; have HO451 := n1_; have BK366 := n2_; have BK372 := n3_; have BK378 := n4_; have BK384 := n5_; have HB := n6_; clear n0_ n1_ n2_ n3_ n4_ n5_ n6_; (try clear hb); (try clear hb2); (try clear hk); (try clear hi)) | (go_at_call 27; (with_reducible refine (tipstafflaw10_at.calls 0 0 t457 t458 _ A99.out).mono ?_); rintro e w146 ⟨rfl, hb⟩; have n0_ := Aside0.mk (Kd.R_below (by (with_reducible repeat (first | apply Kd.R_alloc | apply Kd.R_drewN | apply Kd.R_drew)); exact HO448.out) hb); have n1_ := Aside0.mk (Kd.R_below (by (with_reducible repeat (first | apply Kd.R_alloc | apply Kd.R_drewN | apply Kd.R_drew)); exact HO451.out) hb); have n2_ := Aside0.mk (blk_below (g := gb366) (o := .cells #[.int .i64 t414, .int .i64 t415] 30 (0, 0)) (by (with_reducible repeat (first | refine blk_drewN ?_ _ | refine blk_drew ?_ | refine blk_alloc ?_ _)); exact BK366.out) hb); have n3_ := Aside0.mk (blk_below (g := gb372) (o := .cells #[.int .i64 t419, .int .i64 t420] 30 (0, 0)) (by (with_reducible repeat (first | refine blk_drewN ?_ _ | refine blk_drew ?_ | refine blk_alloc ?_ _)); exact BK372.out) hb); have n4_ := Aside0.mk (blk_below (g := gb378) (o := .cells #[.int .i64 t424, .int .i64 t425] 30 (0, 0)) (by (with_reducible repeat (first | refine blk_drewN ?_ _ | refine blk_drew ?_ | refine blk_alloc ?_ _)); exact BK378.out) hb); have n5_ := Aside0.mk (blk_below (g := gb384) (o := .cells #[.int .i64 t381, .int .i64 t382] 30 (0, 0)) (by (with_reducible repeat (first | refine blk_drewN ?_ _ | refine blk_drew ?_ | refine blk_alloc ?_ _)); exact BK384.out) hb); have n6_ := Aside0.mk (below_step (by repeat (first | (with_reducible first | exact HB.out | apply below_alloc | apply pw_below_drewN | apply below_drew1 | refine below_set ?_ GE366.out | refine below_set ?_ GE372.out | refine below_set ?_ GE378.out | refine below_set ?_ GE384.out) | exact HB.out)) hb); clear HO448; clear HO451; clear BK366; clear BK372; clear BK378; clear BK384; clear HB; have HO448 := n0_; have HO451 := n1_; have BK366 := n2_; have BK372 := n3_; have BK378 := n4_; have BK384 := n5_; have HB := n6_; clear n0_ n1_ n2_ n3_ n4_ n5_ n6_; (try clear hb); (try clear hb2); (try clear hk); (try clear hi)) | (go_at_call 27; (with_reducible refine (tipstafflaw10_at.calls 1 3 t459 t460 _ A101.out).mono ?_); rintro e w147 ⟨rfl, hb⟩; have n0_ := Aside0.mk (Kd.R_below (by (with_reducible repeat (first | apply Kd.R_alloc | apply Kd.R_drewN | apply Kd.R_drew)); exact HO448.out) hb); have n1_ := Aside0.mk (Kd.R_below (by (with_reducible repeat (first | apply Kd.R_alloc | apply Kd.R_drewN | apply Kd.R_drew)); exact HO451.out) hb); have n2_ := Aside0.mk (blk_below (g := gb366) (o := .cells #[.int .i64 t414, .int .i64 t415] 30 (0, 0)) (by (with_reducible repeat (first | refine blk_drewN ?_ _ | refine blk_drew ?_ | refine blk_alloc ?_ _)); exact BK366.out) hb); have n3_ := Aside0.mk (blk_below (g := gb372) (o := .cells #[.int .i64 t419, .int .i64 t420] 30 (0, 0)) (by (with_reducible repeat (first | refine blk_drewN ?_ _ | refine blk_drew ?_ | refine blk_alloc ?_ _)); exact BK372.out) hb); have n4_ := Aside0.mk (blk_below (g := gb378) (o := .cells #[.int .i64 t424, .int .i64 t425] 30 (0, 0)) (by (with_reducible repeat (first | refine blk_drewN ?_ _ | refine blk_drew ?_ | refine blk_alloc ?_ _)); exact BK378.out) hb); have n5_ := Aside0.mk (blk_below (g := gb384) (o := .cells #[.int .i64 t381, .int .i64 t382] 30 (0, 0)) (by (with_reducible repeat (first | refine blk_drewN ?_ _ | refine blk_drew ?_ | refine blk_alloc ?_ _)); exact BK384.out) hb); have n6_ := Aside0.mk (below_step (by repeat (first | (with_reducible first | exact HB.out | apply below_alloc | apply pw_below_drewN | apply below_drew1 | refine below_set ?_ GE366.out | refine below_set ?_ GE372.out | refine below_set ?_ GE378.out | refine below_set ?_ GE384.out) | exact HB.out)) hb); clear HO448; clear HO451; clear BK366; clear BK372; clear BK378; clear BK384; clear HB; have HO448 := n0_; have HO451 := n1_; have BK366 := n2_; have BK372 := n3_; have BK378 := n4_; have BK384 := n5_; have HB := n6_; clear n0_ n1_ n2_ n3_ n4_ n5_ n6_; (try clear hb); (try clear hb2); (try clear hk); (try clear hi)) | (go_at_call 18; (with_reducible refine (brake_Check.calls kj26 t459 t460 2 t461 _ A102.out).mono ?_); rintro e w148 ⟨rfl, hb⟩; have n0_ := Aside0.mk (Kd.R_below (by (with_reducible repeat (first | apply Kd.R_alloc | apply Kd.R_drewN | apply Kd.R_drew)); exact HO448.out) hb); have n1_ := Aside0.mk (Kd.R_below (by (with_reducible repeat (first | apply Kd.R_alloc | apply Kd.R_drewN | apply Kd.R_drew)); exact HO451.out) hb); have n2_ := Aside0.mk (blk_below (g := gb366) (o := .cells #[.int .i64 t414, .int .i64 t415] 30 (0, 0)) (by (with_reducible repeat (first | refine blk_drewN ?_ _ | refine blk_drew ?_ | refine blk_alloc ?_ _)); exact BK366.out) hb); have n3_ := Aside0.mk (blk_below (g := gb372) (o := .cells #[.int .i64 t419, .int .i64 t420] 30 (0, 0)) (by (with_reducible repeat (first | refine blk_drewN ?_ _ | refine blk_drew ?_ | refine blk_alloc ?_ _)); exact BK372.out) hb); have n4_ := Aside0.mk (blk_below (g := gb378) (o := .cells #[.int .i64 t424, .int .i64 t425] 30 (0, 0)) (by (with_reducible repeat (first | refine blk_drewN ?_ _ | refine blk_drew ?_ | refine blk_alloc ?_ _)); exact BK378.out) hb); have n5_ := Aside0.mk (blk_below (g := gb384) (o := .cells #[.int .i64 t381, .int .i64 t382] 30 (0, 0)) (by (with_reducible repeat (first | refine blk_drewN ?_ _ | refine blk_drew ?_ | refine blk_alloc ?_ _)); exact BK384.out) hb); have n6_ := Aside0.mk (below_step (by repeat (first | (with_reducible first | exact HB.out | apply below_alloc | apply pw_below_drewN | apply below_drew1 | refine below_set ?_ GE366.out | refine below_set ?_ GE372.out | refine below_set ?_ GE378.out | refine below_set ?_ GE384.out) | exact HB.out)) hb); clear HO448; clear HO451; clear BK366; clear BK372; clear BK378; clear BK384; clear HB; have HO448 := n0_; have HO451 := n1_; have BK366 := n2_; have BK372 := n3_; have BK378 := n4_; have BK384 := n5_; have HB := n6_; clear n0_ n1_ n2_ n3_ n4_ n5_ n6_; (try clear hb); (try clear hb2); (try clear hk); (try clear hi)) | (go_at_call 27; (with_reducible refine (tipstafflaw10_at.calls 2 1 t462 t463 _ A104.out).mono ?_); rintro e w149 ⟨rfl, hb⟩; have n0_ := Aside0.mk (Kd.R_below (by (with_reducible repeat (first | apply Kd.R_alloc | apply Kd.R_drewN | apply Kd.R_drew)); exact HO448.out) hb); have n1_ := Aside0.mk (Kd.R_below (by (with_reducible repeat (first | apply Kd.R_alloc | apply Kd.R_drewN | apply Kd.R_drew)); exact HO451.out) hb); have n2_ := Aside0.mk (blk_below (g := gb366) (o := .cells #[.int .i64 t414, .int .i64 t415] 30 (0, 0)) (by (with_reducible repeat (first | refine blk_drewN ?_ _ | refine blk_drew ?_ | refine blk_alloc ?_ _)); exact BK366.out) hb); have n3_ := Aside0.mk (blk_below (g := gb372) (o := .cells #[.int .i64 t419, .int .i64 t420] 30 (0, 0)) (by (with_reducible repeat (first | refine blk_drewN ?_ _ | refine blk_drew ?_ | refine blk_alloc ?_ _)); exact BK372.out) hb); have n4_ := Aside0.mk (blk_below (g := gb378) (o := .cells #[.int .i64 t424, .int .i64 t425] 30 (0, 0)) (by (with_reducible repeat (first | refine blk_drewN ?_ _ | refine blk_drew ?_ | refine blk_alloc ?_ _)); exact BK378.out) hb); have n5_ := Aside0.mk (blk_below (g := gb384) (o := .cells #[.int .i64 t381, .int .i64 t382] 30 (0, 0)) (by (with_reducible repeat (first | refine blk_drewN ?_ _ | refine blk_drew ?_ | refine blk_alloc ?_ _)); exact BK384.out) hb); have n6_ := Aside0.mk (below_step (by repeat (first | (with_reducible first | exact HB.out | apply below_alloc | apply pw_below_drewN | apply below_drew1 | refine below_set ?_ GE366.out | refine below_set ?_ GE372.out | refine below_set ?_ GE378.out | refine below_set ?_ GE384.out) | exact HB.out)) hb); clear HO448; clear HO451; clear BK366; clear BK372; clear BK378; clear BK384; clear HB; have HO448 := n0_; have HO451 := n1_; have BK366 := n2_; have BK372 := n3_; have BK378 := n4_; have BK384 := n5_; have HB := n6_; clear n0_ n1_ n2_ n3_ n4_ n5_ n6_; (try clear hb); (try clear hb2); (try clear hk); (try clear hi)) | (go_at_call 18; (with_reducible refine (brake_Check.calls kj26 t462 t463 2 t464 _ A105.out).mono ?_); rintro e w150 ⟨rfl, hb⟩; have n0_ := Aside0.mk (Kd.R_below (by (with_reducible repeat (first | apply Kd.R_alloc | apply Kd.R_drewN | apply Kd.R_drew)); exact HO448.out) hb); have n1_ := Aside0.mk (Kd.R_below (by (with_reducible repeat (first | apply Kd.R_alloc | apply Kd.R_drewN | apply Kd.R_drew)); exact HO451.out) hb); have n2_ := Aside0.mk (blk_below (g := gb366) (o := .cells #[.int .i64 t414, .int .i64 t415] 30 (0, 0)) (by (with_reducible repeat (first | refine blk_drewN ?_ _ | refine blk_drew ?_ | refine blk_alloc ?_ _)); exact BK366.out) hb); have n3_ := Aside0.mk (blk_below (g := gb372) (o := .cells #[.int .i64 t419, .int .i64 t420] 30 (0, 0)) (by (with_reducible repeat (first | refine blk_drewN ?_ _ | refine blk_drew ?_ | refine blk_alloc ?_ _)); exact BK372.out) hb); have n4_ := Aside0.mk (blk_below (g := gb378) (o := .cells #[.int .i64 t424, .int .i64 t425] 30 (0, 0)) (by (with_reducible repeat (first | refine blk_drewN ?_ _ | refine blk_drew ?_ | refine blk_alloc ?_ _)); exact BK378.out) hb); have n5_ := Aside0.mk (blk_below (g := gb384) (o := .cells #[.int .i64 t381, .int .i64 t382] 30 (0, 0)) (by (with_reducible repeat (first | refine blk_drewN ?_ _ | refine blk_drew ?_ | refine blk_alloc ?_ _)); exact BK384.out) hb); have n6_ := Aside0.mk (below_step (by repeat (first | (with_reducible first | exact HB.out | apply below_alloc | apply pw_below_drewN | apply below_drew1 | refine below_set ?_ GE366.out | refine below_set ?_ GE372.out | refine below_set ?_ GE378.out | refine below_set ?_ GE384.out) | exact HB.out)) hb); clear HO448; clear HO451; clear BK366; clear BK372; clear BK378; clear BK384; clear HB; have HO448 := n0_; have HO451 := n1_; have BK366 := n2_; have BK372 := n3_; have BK378 := n4_; have BK384 := n5_; have HB := n6_; clear n0_ n1_ n2_ n3_ n4_ n5_ n6_; (try clear hb); (try clear hb2); (try clear hk); (try clear hi)) | (go_at_call 13; (with_reducible refine (brake_New.calls  t465 t466 _ A107.out).mono ?_); rintro e w151 ⟨rfl, hb⟩; have n0_ := Aside0.mk (Kd.R_below (by (with_reducible repeat (first | apply Kd.R_alloc | apply Kd.R_drewN | apply Kd.R_drew)); exact HO448.out) hb); have n1_ := Aside0.mk (Kd.R_below (by (with_reducible repeat (first | apply Kd.R_alloc | apply Kd.R_drewN | apply Kd.R_drew)); exact HO451.out) hb); have n2_ := Aside0.mk (blk_below (g := gb366) (o := .cells #[.int .i64 t414, .int .i64 t415] 30 (0, 0)) (by (with_reducible repeat (first | refine blk_drewN ?_ _ | refine blk_drew ?_ | refine blk_alloc ?_ _)); exact BK366.out) hb); have n3_ := Aside0.mk (blk_below (g := gb372) (o := .cells #[.int .i64 t419, .int .i64 t420] 30 (0, 0)) (by (with_reducible repeat (first | refine blk_drewN ?_ _ | refine blk_drew ?_ | refine blk_alloc ?_ _)); exact BK372.out) hb); have n4_ := Aside0.mk (blk_below (g := gb378) (o := .cells #[.int .i64 t424, .int .i64 t425] 30 (0, 0)) (by (with_reducible repeat (first | refine blk_drewN ?_ _ | refine blk_drew ?_ | refine blk_alloc ?_ _)); exact BK378.out) hb); have n5_ := Aside0.mk (blk_below (g := gb384) (o := .cells #[.int .i64 t381, .int .i64 t382] 30 (0, 0)) (by (with_reducible repeat (first | refine blk_drewN ?_ _ | refine blk_drew ?_ | refine blk_alloc ?_ _)); exact BK384.out) hb); have n6_ := Aside0.mk (below_step (by repeat (first | (with_reducible first | exact HB.out | apply below_alloc | apply pw_below_drewN | apply below_drew1 | refine below_set ?_ GE366.out | refine below_set ?_ GE372.out | refine below_set ?_ GE378.out | refine below_set ?_ GE384.out) | exact HB.out)) hb); clear HO448; clear HO451; clear BK366; clear BK372; clear BK378; clear BK384; clear HB; have HO448 := n0_; have HO451 := n1_; have BK366 := n2_; have BK372 := n3_; have BK378 := n4_; have BK384 := n5_; have HB := n6_; clear n0_ n1_ n2_ n3_ n4_ n5_ n6_; (try clear hb); (try clear hb2); (try clear hk); (try clear hi)) | (go_at_call 18; (with_reducible refine (brake_Check.calls kj26 t465 t466 6 t467 _ A108.out).mono ?_); rintro e w152 ⟨rfl, hb⟩; have n0_ := Aside0.mk (Kd.R_below (by (with_reducible repeat (first | apply Kd.R_alloc | apply Kd.R_drewN | apply Kd.R_drew)); exact HO448.out) hb); have n1_ := Aside0.mk (Kd.R_below (by (with_reducible repeat (first | apply Kd.R_alloc | apply Kd.R_drewN | apply Kd.R_drew)); exact HO451.out) hb); have n2_ := Aside0.mk (blk_below (g := gb366) (o := .cells #[.int .i64 t414, .int .i64 t415] 30 (0, 0)) (by (with_reducible repeat (first | refine blk_drewN ?_ _ | refine blk_drew ?_ | refine blk_alloc ?_ _)); exact BK366.out) hb); have n3_ := Aside0.mk (blk_below (g := gb372) (o := .cells #[.int .i64 t419, .int .i64 t420] 30 (0, 0)) (by (with_reducible repeat (first | refine blk_drewN ?_ _ | refine blk_drew ?_ | refine blk_alloc ?_ _)); exact BK372.out) hb); have n4_ := Aside0.mk (blk_below (g := gb378) (o := .cells #[.int .i64 t424, .int .i64 t425] 30 (0, 0)) (by (with_reducible repeat (first | refine blk_drewN ?_ _ | refine blk_drew ?_ | refine blk_alloc ?_ _)); exact BK378.out) hb); have n5_ := Aside0.mk (blk_below (g := gb384) (o := .cells #[.int .i64 t381, .int .i64 t382] 30 (0, 0)) (by (with_reducible repeat (first | refine blk_drewN ?_ _ | refine blk_drew ?_ | refine blk_alloc ?_ _)); exact BK384.out) hb); have n6_ := Aside0.mk (below_step (by repeat (first | (with_reducible first | exact HB.out | apply below_alloc | apply pw_below_drewN | apply below_drew1 | refine below_set ?_ GE366.out | refine below_set ?_ GE372.out | refine below_set ?_ GE378.out | refine below_set ?_ GE384.out) | exact HB.out)) hb); clear HO448; clear HO451; clear BK366; clear BK372; clear BK378; clear BK384; clear HB; have HO448 := n0_; have HO451 := n1_; have BK366 := n2_; have BK372 := n3_; have BK378 := n4_; have BK384 := n5_; have HB := n6_; clear n0_ n1_ n2_ n3_ n4_ n5_ n6_; (try clear hb); (try clear hb2); (try clear hk); (try clear hi)) | (go_at_call 12; (with_reducible refine (tipstafflaw10_awake.calls kj26  true _ A110.out).mono ?_); rintro e w153 ⟨rfl, hb⟩; have n0_ := Aside0.mk (Kd.R_below (by (with_reducible repeat (first | apply Kd.R_alloc | apply Kd.R_drewN | apply Kd.R_drew)); exact HO448.out) hb); have n1_ := Aside0.mk (Kd.R_below (by (with_reducible repeat (first | apply Kd.R_alloc | apply Kd.R_drewN | apply Kd.R_drew)); exact HO451.out) hb); have n2_ := Aside0.mk (blk_below (g := gb366) (o := .cells #[.int .i64 t414, .int .i64 t415] 30 (0, 0)) (by (with_reducible repeat (first | refine blk_drewN ?_ _ | refine blk_drew ?_ | refine blk_alloc ?_ _)); exact BK366.out) hb); have n3_ := Aside0.mk (blk_below (g := gb372) (o := .cells #[.int .i64 t419, .int .i64 t420] 30 (0, 0)) (by (with_reducible repeat (first | refine blk_drewN ?_ _ | refine blk_drew ?_ | refine blk_alloc ?_ _)); exact BK372.out) hb); have n4_ := Aside0.mk (blk_below (g := gb378) (o := .cells #[.int .i64 t424, .int .i64 t425] 30 (0, 0)) (by (with_reducible repeat (first | refine blk_drewN ?_ _ | refine blk_drew ?_ | refine blk_alloc ?_ _)); exact BK378.out) hb); have n5_ := Aside0.mk (blk_below (g := gb384) (o := .cells #[.int .i64 t381, .int .i64 t382] 30 (0, 0)) (by (with_reducible repeat (first | refine blk_drewN ?_ _ | refine blk_drew ?_ | refine blk_alloc ?_ _)); exact BK384.out) hb); have n6_ := Aside0.mk (below_step (by repeat (first | (with_reducible first | exact HB.out | apply below_alloc | apply pw_below_drewN | apply below_drew1 | refine below_set ?_ GE366.out | refine below_set ?_ GE372.out | refine below_set ?_ GE378.out | refine below_set ?_ GE384.out) | exact HB.out)) hb); clear HO448; clear HO451; clear BK366; clear BK372; clear BK378; clear BK384; clear HB; have HO448 := n0_; have HO451 := n1_; have BK366 := n2_; have BK372 := n3_; have BK378 := n4_; have BK384 := n5_; have HB := n6_; clear n0_ n1_ n2_ n3_ n4_ n5_ n6_; (try clear hb); (try clear hb2); (try clear hk); (try clear hi)))
                                              go_ret
                                              exact ⟨by first | rfl | (simp [errW_none, errW_some] <;> rfl) | (simp [*, errW_none, errW_some] <;> rfl), by repeat (first | (with_reducible first | exact HB.out | apply below_alloc | apply pw_below_drewN | apply below_drew1 | refine below_set ?_ GE366.out | refine below_set ?_ GE372.out | refine below_set ?_ GE378.out | refine below_set ?_ GE384.out) | exact HB.out)⟩
                                            · replace c111 := Bool.eq_false_iff.mpr c111
                                              subst c111
                                              have H1 : (none) = some r := by rw [if_neg (show ¬ (false = true) by decide)] at H; exact H
                                              clear H
                                              have H := H1
                                              clear H1
                                              exact absurd H (by simp)
                                          · rw [if_neg c109] at H
                                            exact absurd H (by simp)
                                        · rw [if_neg c106] at H
                                          exact absurd H (by simp)
                                      · rw [if_neg c103] at H
                                        exact absurd H (by simp)
                                    · rw [if_neg c100] at H
                                      exact absurd H (by simp)
                                  · replace c96 := Bool.eq_false_iff.mpr c96
                                    subst c96
                                    have H1 : (none) = some r := by rw [if_neg (show ¬ (false = true) by decide)] at H; exact H
                                    clear H
                                    have H := H1
                                    clear H1
                                    exact absurd H (by simp)
                                · rw [if_neg c94] at H
                                  exact absurd H (by simp)
                              · rw [if_neg c93] at H
                                exact absurd H (by simp)
                            · rw [if_neg c92] at H
                              exact absurd H (by simp)
                          · replace c91 := Bool.eq_false_iff.mpr c91
                            subst c91
                            have H1 : (none) = some r := by rw [if_neg (show ¬ (false = true) by decide)] at H; exact H
                            clear H
                            have H := H1
                            clear H1
                            exact absurd H (by simp)
                      · rw [if_neg c84] at H
                        exact absurd H (by simp)
                    · replace c83 := Bool.eq_false_iff.mpr c83
                      subst c83
                      have H1 : (none) = some r := by rw [if_neg (show ¬ (false = true) by decide)] at H; exact H
                      clear H
                      have H := H1
                      clear H1
                      exact absurd H (by simp)
                  · replace c80 := Bool.eq_false_iff.mpr c80
                    subst c80
                    have H1 : (none) = some r := by rw [if_neg (show ¬ (false = true) by decide)] at H; exact H
                    clear H
                    have H := H1
                    clear H1
                    exact absurd H (by simp)
                · replace c77 := Bool.eq_false_iff.mpr c77
                  subst c77
                  have H1 : (none) = some r := by rw [if_neg (show ¬ (false = true) by decide)] at H; exact H
                  clear H
                  have H := H1
                  clear H1
                  exact absurd H (by simp)
        · replace c20 := Bool.eq_false_iff.mpr c20
          subst c20
          have H1 : (none) = some r := by rw [if_neg (show ¬ (false = true) by decide)] at H; exact H
          clear H
          have H := H1
          clear H1
          exact absurd H (by simp)
      · replace c17 := Bool.eq_false_iff.mpr c17
        subst c17
        have H1 : (none) = some r := by rw [if_neg (show ¬ (false = true) by decide)] at H; exact H
        clear H
        have H := H1
        clear H1
        exact absurd H (by simp)
    · replace c14 := Bool.eq_false_iff.mpr c14
      subst c14
      have H1 : (none) = some r := by rw [if_neg (show ¬ (false = true) by decide)] at H; exact H
      clear H
      have H := H1
      clear H1
      exact absurd H (by simp)
  · replace c11 := Bool.eq_false_iff.mpr c11
    subst c11
    have H1 : (none) = some r := by rw [if_neg (show ¬ (false = true) by decide)] at H; exact H
    clear H
    have H := H1
    clear H1
    exact absurd H (by simp)

/-- THE ONE PURE STATEMENT of tipstafflaw10_BrakeKnown: yours. -/
def tipstafflaw10_BrakeKnown.Pure : Prop := ∃ k, tipstafflaw10_BrakeKnown.f k  = some true
theorem tipstafflaw10_BrakeKnown.walk (P : tipstafflaw10_BrakeKnown.Pure)  (w : World)  :
    Calls Try.prog 9 #[] w fun e w' => e = .returned (.bool true) ∧ Below w.heap.size w w' := by
  obtain ⟨k, h⟩ := P  
  refine (tipstafflaw10_BrakeKnown.calls k  true w h).mono ?_
  rintro e w' ⟨rfl, hd⟩
  exact ⟨rfl, hd⟩

end Go.Proofs.Ytfibbdbpclkbgaa.P
