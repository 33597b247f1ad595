-- Printed by wip/myprint.py of this repo (over the kit's printer). Not trusted: Lean checks it.
import Derived.Test.YtckaofgkepcibaaP0
import Derived.Test.YtckaofgkepcibaaE33
import Derived.Test.YtckaofgkepcibaaMa
import Derived.Test.YtckaofgkepcibaaMb
import Derived.Test.YtckaofgkepcibaaP0tipstafflaw15
import Derived.Test.YtckaofgkepcibaaP1profile
import Derived.Test.YtckaofgkepcibaaP2move
import Derived.Test.YtckaofgkepcibaaP3tipstafflaw15
namespace Go.Proofs.Ytckaofgkepcibaa.P
open Go.RowKit Go.Proofs.YtckaofgkepcibaaW.PrintWords Go.Proofs.YtckaofgkepcibaaW.PrintLast Go.Proofs.YtckaofgkepcibaaW.PrintMore
attribute [local go_sem] cell_same1 cell_some1
attribute [local go_sem] max2_int min2_int max_two min_two max_three min_three max_four min_four   -- for this text's walks alone
set_option linter.unusedVariables false
set_option linter.unusedSimpArgs false

attribute [local go_sem high] eqA33
/-! ### q_MoveSuffices: function 4 -/
mutual
def q_MoveSuffices.j0 : Nat → Int → Int → Int → Bool → Int → Int → Int → Int → Int → Int → Int → Int → Int → Int → Option (Bool)
 | 0, _, _, _, _, _, _, _, _, _, _, _, _, _, _ => none
 | k + 1, x8, x9, x13, x80, x294000, x294001, x294002, x310000, x310001, x310002, x310003, x310004, x310005, x310006 => if x80 = true then (none) else (q_MoveSuffices.l0 k x8 x9 x13 0 0 x294000 x294001 x294002 x310000 x310001 x310002 x310003 x310004 x310005 x310006)
def q_MoveSuffices.l0 : Nat → Int → Int → Int → Int → Int → Int → Int → Int → Int → Int → Int → Int → Int → Int → Int → Option (Bool)
 | 0, _, _, _, _, _, _, _, _, _, _, _, _, _, _, _ => none
 | k + 1, x8, x9, x13, x15, x16, x294000, x294001, x294002, x310000, x310001, x310002, x310003, x310004, x310005, x310006 => if x16 < x9 then ((move_Step.f x310000 x310001 x310002 x310003 x310004 x310005 x310006 x294000 x294001).bind fun bt320 => (if bt320.2.2.2.2.2.2.2.2 = 0 then ((move_Check.f bt320.1 bt320.2.1 bt320.2.2.1 bt320.2.2.2.1 bt320.2.2.2.2.1 bt320.2.2.2.2.2.1 bt320.2.2.2.2.2.2.1 x294000 x294001).bind fun t330 => (if t330 = 0 then (if bt320.2.2.2.2.2.2.1 = (wrap64 (x16 + 1)) then (q_MoveSuffices.j2 k x8 x9 x13 x15 x16 bt320.2.2.2.2.2.2.2.1 (bt320.2.2.2.2.2.1 != x9) x294000 x294001 x294002 bt320.1 bt320.2.1 bt320.2.2.1 bt320.2.2.2.1 bt320.2.2.2.2.1 bt320.2.2.2.2.2.1 bt320.2.2.2.2.2.2.1) else (q_MoveSuffices.j2 k x8 x9 x13 x15 x16 bt320.2.2.2.2.2.2.2.1 true x294000 x294001 x294002 bt320.1 bt320.2.1 bt320.2.2.1 bt320.2.2.2.1 bt320.2.2.2.2.1 bt320.2.2.2.2.2.1 bt320.2.2.2.2.2.2.1)) else (q_MoveSuffices.j2 k x8 x9 x13 x15 x16 bt320.2.2.2.2.2.2.2.1 true x294000 x294001 x294002 bt320.1 bt320.2.1 bt320.2.2.1 bt320.2.2.2.1 bt320.2.2.2.2.1 bt320.2.2.2.2.2.1 bt320.2.2.2.2.2.2.1))) else (q_MoveSuffices.j2 k x8 x9 x13 x15 x16 bt320.2.2.2.2.2.2.2.1 true x294000 x294001 x294002 bt320.1 bt320.2.1 bt320.2.2.1 bt320.2.2.2.1 bt320.2.2.2.2.1 bt320.2.2.2.2.2.1 bt320.2.2.2.2.2.2.1))) else ((move_Over.f x310000 x310001 x310002 x310003 x310004 x310005 x310006 x294000 x294001).bind fun bt312 => (if bt312.2 = 0 then (if bt312.1 = true then ((q_at.f x8).bind fun bt314 => (if (x310000 == bt314.1 && (x310001 == bt314.2.1 && (x310002 == bt314.2.2.1 && (x310003 == bt314.2.2.2.1 && (x310004 == bt314.2.2.2.2))))) = true then (if x15 = x13 then ((q_awake.f k).bind fun t319 => (if t319 = true then (some true) else (none))) else (none)) else (none))) else (none)) else (none)))
def q_MoveSuffices.j2 : Nat → Int → Int → Int → Int → Int → Bool → Bool → Int → Int → Int → Int → Int → Int → Int → Int → Int → Int → Option (Bool)
 | 0, _, _, _, _, _, _, _, _, _, _, _, _, _, _, _, _, _ => none
 | k + 1, x8, x9, x13, x15, x16, x18, x119, x294000, x294001, x294002, x330000, x330001, x330002, x330003, x330004, x330005, x330006 => if x119 = true then (none) else (if x18 = true then (q_MoveSuffices.l0 k x8 x9 x13 (wrap64 (x15 + 1)) (wrap64 (x16 + 1)) x294000 x294001 x294002 x330000 x330001 x330002 x330003 x330004 x330005 x330006) else (q_MoveSuffices.l0 k x8 x9 x13 x15 (wrap64 (x16 + 1)) x294000 x294001 x294002 x330000 x330001 x330002 x330003 x330004 x330005 x330006))
end
def q_MoveSuffices.f (k : Nat) (l0 : List Int) (a1 : Int) : Option (Bool) := (q_shaft.f k l0 a1).bind fun bt285 => ((move_Ticks.f bt285.1 bt285.2.1 bt285.2.2.1).bind fun bt294 => ((q_at.f bt285.2.2.2.2.1).bind fun bt296 => ((move_Begin.f k bt296.1 bt296.2.1 bt296.2.2.1 bt296.2.2.2.1 bt296.2.2.2.2 bt285.2.2.2.2.2 bt294.1 bt285.2.1 bt285.2.2.1).bind fun bt301 => ((profile_Travel.f (mx (wrap64 (bt285.2.2.2.2.1 - bt285.2.2.2.2.2)) (wrap64 (bt285.2.2.2.2.2 - bt285.2.2.2.2.1))) bt285.2.1).bind fun bt310 => (if bt294.2 = 0 then (if bt301.2.2.2.2.2.2.2 = 0 then (if bt310.2 = 0 then (if bt294.1 < 0 then (q_MoveSuffices.j0 k bt285.2.2.2.2.2 bt294.1 bt310.1 true bt285.2.1 bt285.2.2.1 bt285.2.2.2.1 bt301.1 bt301.2.1 bt301.2.2.1 bt301.2.2.2.1 bt301.2.2.2.2.1 bt301.2.2.2.2.2.1 bt301.2.2.2.2.2.2.1) else (q_MoveSuffices.j0 k bt285.2.2.2.2.2 bt294.1 bt310.1 (decide (bt294.1 > 2000)) bt285.2.1 bt285.2.2.1 bt285.2.2.2.1 bt301.1 bt301.2.1 bt301.2.2.1 bt301.2.2.2.1 bt301.2.2.2.2.1 bt301.2.2.2.2.2.1 bt301.2.2.2.2.2.2.1)) else (q_MoveSuffices.j0 k bt285.2.2.2.2.2 bt294.1 bt310.1 true bt285.2.1 bt285.2.2.1 bt285.2.2.2.1 bt301.1 bt301.2.1 bt301.2.2.1 bt301.2.2.2.1 bt301.2.2.2.2.1 bt301.2.2.2.2.2.1 bt301.2.2.2.2.2.2.1)) else (q_MoveSuffices.j0 k bt285.2.2.2.2.2 bt294.1 bt310.1 true bt285.2.1 bt285.2.2.1 bt285.2.2.2.1 bt301.1 bt301.2.1 bt301.2.2.1 bt301.2.2.2.1 bt301.2.2.2.2.1 bt301.2.2.2.2.2.1 bt301.2.2.2.2.2.2.1)) else (q_MoveSuffices.j0 k bt285.2.2.2.2.2 bt294.1 bt310.1 true bt285.2.1 bt285.2.2.1 bt285.2.2.2.1 bt301.1 bt301.2.1 bt301.2.2.1 bt301.2.2.2.1 bt301.2.2.2.2.1 bt301.2.2.2.2.2.1 bt301.2.2.2.2.2.2.1))))))
theorem q_MoveSuffices.mono_l : ∀ k, (∀ y0 y1 y2 y3 y4 y5 y6 y7 y8 y9 y10 y11 y12 y13, LeO (q_MoveSuffices.j0 k y0 y1 y2 y3 y4 y5 y6 y7 y8 y9 y10 y11 y12 y13) (q_MoveSuffices.j0 (k + 1) y0 y1 y2 y3 y4 y5 y6 y7 y8 y9 y10 y11 y12 y13)) ∧ (∀ y0 y1 y2 y3 y4 y5 y6 y7 y8 y9 y10 y11 y12 y13 y14, LeO (q_MoveSuffices.l0 k y0 y1 y2 y3 y4 y5 y6 y7 y8 y9 y10 y11 y12 y13 y14) (q_MoveSuffices.l0 (k + 1) y0 y1 y2 y3 y4 y5 y6 y7 y8 y9 y10 y11 y12 y13 y14)) ∧ (∀ y0 y1 y2 y3 y4 y5 y6 y7 y8 y9 y10 y11 y12 y13 y14 y15 y16, LeO (q_MoveSuffices.j2 k y0 y1 y2 y3 y4 y5 y6 y7 y8 y9 y10 y11 y12 y13 y14 y15 y16) (q_MoveSuffices.j2 (k + 1) y0 y1 y2 y3 y4 y5 y6 y7 y8 y9 y10 y11 y12 y13 y14 y15 y16))
 | 0 => ⟨fun _ _ _ _ _ _ _ _ _ _ _ _ _ _ r h => by simp [q_MoveSuffices.j0] at h, fun _ _ _ _ _ _ _ _ _ _ _ _ _ _ _ r h => by simp [q_MoveSuffices.l0] at h, fun _ _ _ _ _ _ _ _ _ _ _ _ _ _ _ _ _ r h => by simp [q_MoveSuffices.j2] at h⟩
 | k + 1 => by
  obtain ⟨ih0, ih1, ih2⟩ := q_MoveSuffices.mono_l k
  refine ⟨?_, ?_, ?_⟩
  ·intro y0 y1 y2 y3 y4 y5 y6 y7 y8 y9 y10 y11 y12 y13
   unfold q_MoveSuffices.j0
   repeat' first
   | (with_reducible exact ih0 _ _ _ _ _ _ _ _ _ _ _ _ _ _)
   | (with_reducible exact ih1 _ _ _ _ _ _ _ _ _ _ _ _ _ _ _)
   | (with_reducible exact ih2 _ _ _ _ _ _ _ _ _ _ _ _ _ _ _ _ _)
   | (with_reducible exact move_Begin.mono _ _ _ _ _ _ _ _ _ _)
   | (with_reducible exact q_awake.mono _)
   | (with_reducible exact q_shaft.mono _ _ _)
   | (with_reducible exact LeO.refl _)
   | (with_reducible exact LeO.none _)
   | (with_reducible refine LeO.ite ?_ ?_)
   | (with_reducible refine LeO.bind ?_ (fun _ => ?_))
   | exact ih0 _ _ _ _ _ _ _ _ _ _ _ _ _ _
   | exact ih1 _ _ _ _ _ _ _ _ _ _ _ _ _ _ _
   | exact ih2 _ _ _ _ _ _ _ _ _ _ _ _ _ _ _ _ _
   | exact move_Begin.mono _ _ _ _ _ _ _ _ _ _
   | exact q_awake.mono _
   | exact q_shaft.mono _ _ _
   | exact LeO.none _
   | refine LeO.ite ?_ ?_
   | refine LeO.bind ?_ (fun _ => ?_)
  ·intro y0 y1 y2 y3 y4 y5 y6 y7 y8 y9 y10 y11 y12 y13 y14
   unfold q_MoveSuffices.l0
   repeat' first
   | (with_reducible exact ih0 _ _ _ _ _ _ _ _ _ _ _ _ _ _)
   | (with_reducible exact ih1 _ _ _ _ _ _ _ _ _ _ _ _ _ _ _)
   | (with_reducible exact ih2 _ _ _ _ _ _ _ _ _ _ _ _ _ _ _ _ _)
   | (with_reducible exact move_Begin.mono _ _ _ _ _ _ _ _ _ _)
   | (with_reducible exact q_awake.mono _)
   | (with_reducible exact q_shaft.mono _ _ _)
   | (with_reducible exact LeO.refl _)
   | (with_reducible exact LeO.none _)
   | (with_reducible refine LeO.ite ?_ ?_)
   | (with_reducible refine LeO.bind ?_ (fun _ => ?_))
   | exact ih0 _ _ _ _ _ _ _ _ _ _ _ _ _ _
   | exact ih1 _ _ _ _ _ _ _ _ _ _ _ _ _ _ _
   | exact ih2 _ _ _ _ _ _ _ _ _ _ _ _ _ _ _ _ _
   | exact move_Begin.mono _ _ _ _ _ _ _ _ _ _
   | exact q_awake.mono _
   | exact q_shaft.mono _ _ _
   | exact LeO.none _
   | refine LeO.ite ?_ ?_
   | refine LeO.bind ?_ (fun _ => ?_)
  ·intro y0 y1 y2 y3 y4 y5 y6 y7 y8 y9 y10 y11 y12 y13 y14 y15 y16
   unfold q_MoveSuffices.j2
   repeat' first
   | (with_reducible exact ih0 _ _ _ _ _ _ _ _ _ _ _ _ _ _)
   | (with_reducible exact ih1 _ _ _ _ _ _ _ _ _ _ _ _ _ _ _)
   | (with_reducible exact ih2 _ _ _ _ _ _ _ _ _ _ _ _ _ _ _ _ _)
   | (with_reducible exact move_Begin.mono _ _ _ _ _ _ _ _ _ _)
   | (with_reducible exact q_awake.mono _)
   | (with_reducible exact q_shaft.mono _ _ _)
   | (with_reducible exact LeO.refl _)
   | (with_reducible exact LeO.none _)
   | (with_reducible refine LeO.ite ?_ ?_)
   | (with_reducible refine LeO.bind ?_ (fun _ => ?_))
   | exact ih0 _ _ _ _ _ _ _ _ _ _ _ _ _ _
   | exact ih1 _ _ _ _ _ _ _ _ _ _ _ _ _ _ _
   | exact ih2 _ _ _ _ _ _ _ _ _ _ _ _ _ _ _ _ _
   | exact move_Begin.mono _ _ _ _ _ _ _ _ _ _
   | exact q_awake.mono _
   | exact q_shaft.mono _ _ _
   | exact LeO.none _
   | refine LeO.ite ?_ ?_
   | refine LeO.bind ?_ (fun _ => ?_)
theorem q_MoveSuffices.mono : ∀ a0 a1 k, LeO (q_MoveSuffices.f k a0 a1) (q_MoveSuffices.f (k + 1) a0 a1) := by
 intro a0 a1 k
 obtain ⟨ih0, ih1, ih2⟩ := q_MoveSuffices.mono_l k
 unfold q_MoveSuffices.f
 repeat' first
   | (with_reducible exact ih0 _ _ _ _ _ _ _ _ _ _ _ _ _ _)
   | (with_reducible exact ih1 _ _ _ _ _ _ _ _ _ _ _ _ _ _ _)
   | (with_reducible exact ih2 _ _ _ _ _ _ _ _ _ _ _ _ _ _ _ _ _)
   | (with_reducible exact move_Begin.mono _ _ _ _ _ _ _ _ _ _)
   | (with_reducible exact q_awake.mono _)
   | (with_reducible exact q_shaft.mono _ _ _)
   | (with_reducible exact LeO.refl _)
   | (with_reducible exact LeO.none _)
   | (with_reducible refine LeO.ite ?_ ?_)
   | (with_reducible refine LeO.bind ?_ (fun _ => ?_))
   | exact ih0 _ _ _ _ _ _ _ _ _ _ _ _ _ _
   | exact ih1 _ _ _ _ _ _ _ _ _ _ _ _ _ _ _
   | exact ih2 _ _ _ _ _ _ _ _ _ _ _ _ _ _ _ _ _
   | exact move_Begin.mono _ _ _ _ _ _ _ _ _ _
   | exact q_awake.mono _
   | exact q_shaft.mono _ _ _
   | exact LeO.none _
   | refine LeO.ite ?_ ?_
   | refine LeO.bind ?_ (fun _ => ?_)
def q_MoveSuffices.T3 : Bool × List (List Nat × List Nat) := (true, [([], []), ([0], [0]), ([], []), ([], []), ([], []), ([4], [4]), ([], []), ([6], [6]), ([1, 2, 3, 5, 7, 1], [1, 2, 3, 5, 7]), ([8], [8]), ([9], [9]), ([9], [9]), ([], []), ([12, 10, 8, 0, 1, 2, 3, 4, 5, 6, 7, 8, 9, 10, 12], [10, 12]), ([11, 13, 0, 1, 2, 3, 4, 5, 6, 7, 8, 9, 10, 11, 12, 13], [11])])
def q_MoveSuffices.B3 : List Nat := [0, 1, 0, 0, 0, 16, 0, 64, 255, 511, 1023, 1023, 0, 6143, 16383]
theorem q_MoveSuffices.tab3 : rtab .any (opsOf Try.f4 3) = q_MoveSuffices.T3 := by kernel_rfl
theorem q_MoveSuffices.bits3 : waitsOk q_MoveSuffices.T3.2 q_MoveSuffices.B3 = true := by kernel_rfl
def q_MoveSuffices.T18 : Bool × List (List Nat × List Nat) := (true, [([], []), ([0], [0]), ([1], [1]), ([2], [2]), ([2, 3], [2, 3]), ([4, 2], [4]), ([5], [5]), ([6, 5], [5, 6]), ([5], [5]), ([8, 5, 5], [5, 8]), ([7, 9, 5], [5, 7, 9]), ([5, 10], [5, 10]), ([11, 9], [11]), ([12], [12]), ([12], [12]), ([13, 14, 12], [12, 13, 14]), ([12, 15], [12, 15]), ([16, 12], [16]), ([17, 17], [17]), ([17, 18], [17, 18]), ([19, 18, 0, 1, 2, 3, 4, 5, 6, 7, 8, 9, 10, 11, 12, 13, 14, 15, 16, 17, 18, 19], [19])])
def q_MoveSuffices.B18 : List Nat := [0, 1, 3, 7, 15, 31, 63, 127, 63, 319, 1023, 2047, 4095, 8191, 8191, 32767, 65535, 131071, 262143, 524287, 1048575]
theorem q_MoveSuffices.tab18 : rtab .any (opsOf Try.f4 18) = q_MoveSuffices.T18 := by kernel_rfl
theorem q_MoveSuffices.bits18 : waitsOk q_MoveSuffices.T18.2 q_MoveSuffices.B18 = true := by kernel_rfl
set_option maxHeartbeats 8000000 in
set_option maxRecDepth 100000 in
theorem q_MoveSuffices.calls (k : Nat) (A0 : Option Addr) (c0 : Nat) (l0 : List Int) (a1 : Int) (r : Bool) (w : World) (hr0 : Kd.C (Kd.int .i64) w A0 l0.length l0) (hc0 : l0.length ≤ c0) (h : q_MoveSuffices.f k l0 a1 = some r) :
  Calls Try.prog 4 #[.slice A0 l0.length c0, .int .i64 a1] w fun e w' => e = .returned (.bool r) ∧ Below w.heap.size w w' := by
 have hu29 := Try.underlying29
 have hu35 := Try.underlying35
 have hu33 := Try.underlying33
 have HR0 := Aside0.mk hr0
 have HC0 := Aside0.mk hc0
 clear hr0 hc0
 have HB := Aside0.mk (Below.refl w.heap.size w)
 have H : ((q_shaft.f k l0 a1).bind fun bt285 => ((move_Ticks.f bt285.1 bt285.2.1 bt285.2.2.1).bind fun bt294 => ((q_at.f bt285.2.2.2.2.1).bind fun bt296 => ((move_Begin.f k bt296.1 bt296.2.1 bt296.2.2.1 bt296.2.2.2.1 bt296.2.2.2.2 bt285.2.2.2.2.2 bt294.1 bt285.2.1 bt285.2.2.1).bind fun bt301 => ((profile_Travel.f (mx (wrap64 (bt285.2.2.2.2.1 - bt285.2.2.2.2.2)) (wrap64 (bt285.2.2.2.2.2 - bt285.2.2.2.2.1))) bt285.2.1).bind fun bt310 => (if bt294.2 = 0 then (if bt301.2.2.2.2.2.2.2 = 0 then (if bt310.2 = 0 then (if bt294.1 < 0 then (q_MoveSuffices.j0 k bt285.2.2.2.2.2 bt294.1 bt310.1 true bt285.2.1 bt285.2.2.1 bt285.2.2.2.1 bt301.1 bt301.2.1 bt301.2.2.1 bt301.2.2.2.1 bt301.2.2.2.2.1 bt301.2.2.2.2.2.1 bt301.2.2.2.2.2.2.1) else (q_MoveSuffices.j0 k bt285.2.2.2.2.2 bt294.1 bt310.1 (decide (bt294.1 > 2000)) bt285.2.1 bt285.2.2.1 bt285.2.2.2.1 bt301.1 bt301.2.1 bt301.2.2.1 bt301.2.2.2.1 bt301.2.2.2.2.1 bt301.2.2.2.2.2.1 bt301.2.2.2.2.2.2.1)) else (q_MoveSuffices.j0 k bt285.2.2.2.2.2 bt294.1 bt310.1 true bt285.2.1 bt285.2.2.1 bt285.2.2.2.1 bt301.1 bt301.2.1 bt301.2.2.1 bt301.2.2.2.1 bt301.2.2.2.2.1 bt301.2.2.2.2.2.1 bt301.2.2.2.2.2.2.1)) else (q_MoveSuffices.j0 k bt285.2.2.2.2.2 bt294.1 bt310.1 true bt285.2.1 bt285.2.2.1 bt285.2.2.2.1 bt301.1 bt301.2.1 bt301.2.2.1 bt301.2.2.2.1 bt301.2.2.2.2.1 bt301.2.2.2.2.2.1 bt301.2.2.2.2.2.2.1)) else (q_MoveSuffices.j0 k bt285.2.2.2.2.2 bt294.1 bt310.1 true bt285.2.1 bt285.2.2.1 bt285.2.2.2.1 bt301.1 bt301.2.1 bt301.2.2.1 bt301.2.2.2.1 bt301.2.2.2.2.1 bt301.2.2.2.2.2.1 bt301.2.2.2.2.2.2.1))))))) = some r := h
 clear h
 replace H := Option.bind_eq_some_iff.mp H
 obtain ⟨⟨t285, t288, t289, t290, t291, t292⟩, A30, H⟩ := H
 replace H : ((move_Ticks.f t285 t288 t289).bind fun bt294 => ((q_at.f t291).bind fun bt296 => ((move_Begin.f k bt296.1 bt296.2.1 bt296.2.2.1 bt296.2.2.2.1 bt296.2.2.2.2 t292 bt294.1 t288 t289).bind fun bt301 => ((profile_Travel.f (mx (wrap64 (t291 - t292)) (wrap64 (t292 - t291))) t288).bind fun bt310 => (if bt294.2 = 0 then (if bt301.2.2.2.2.2.2.2 = 0 then (if bt310.2 = 0 then (if bt294.1 < 0 then (q_MoveSuffices.j0 k t292 bt294.1 bt310.1 true t288 t289 t290 bt301.1 bt301.2.1 bt301.2.2.1 bt301.2.2.2.1 bt301.2.2.2.2.1 bt301.2.2.2.2.2.1 bt301.2.2.2.2.2.2.1) else (q_MoveSuffices.j0 k t292 bt294.1 bt310.1 (decide (bt294.1 > 2000)) t288 t289 t290 bt301.1 bt301.2.1 bt301.2.2.1 bt301.2.2.2.1 bt301.2.2.2.2.1 bt301.2.2.2.2.2.1 bt301.2.2.2.2.2.2.1)) else (q_MoveSuffices.j0 k t292 bt294.1 bt310.1 true t288 t289 t290 bt301.1 bt301.2.1 bt301.2.2.1 bt301.2.2.2.1 bt301.2.2.2.2.1 bt301.2.2.2.2.2.1 bt301.2.2.2.2.2.2.1)) else (q_MoveSuffices.j0 k t292 bt294.1 bt310.1 true t288 t289 t290 bt301.1 bt301.2.1 bt301.2.2.1 bt301.2.2.2.1 bt301.2.2.2.2.1 bt301.2.2.2.2.2.1 bt301.2.2.2.2.2.2.1)) else (q_MoveSuffices.j0 k t292 bt294.1 bt310.1 true t288 t289 t290 bt301.1 bt301.2.1 bt301.2.2.1 bt301.2.2.2.1 bt301.2.2.2.2.1 bt301.2.2.2.2.2.1 bt301.2.2.2.2.2.2.1)))))) = some r := H
 have A3 := Aside0.mk A30
 clear A30
 replace H := Option.bind_eq_some_iff.mp H
 obtain ⟨⟨t294, t295⟩, A40, H⟩ := H
 replace H : ((q_at.f t291).bind fun bt296 => ((move_Begin.f k bt296.1 bt296.2.1 bt296.2.2.1 bt296.2.2.2.1 bt296.2.2.2.2 t292 t294 t288 t289).bind fun bt301 => ((profile_Travel.f (mx (wrap64 (t291 - t292)) (wrap64 (t292 - t291))) t288).bind fun bt310 => (if t295 = 0 then (if bt301.2.2.2.2.2.2.2 = 0 then (if bt310.2 = 0 then (if t294 < 0 then (q_MoveSuffices.j0 k t292 t294 bt310.1 true t288 t289 t290 bt301.1 bt301.2.1 bt301.2.2.1 bt301.2.2.2.1 bt301.2.2.2.2.1 bt301.2.2.2.2.2.1 bt301.2.2.2.2.2.2.1) else (q_MoveSuffices.j0 k t292 t294 bt310.1 (decide (t294 > 2000)) t288 t289 t290 bt301.1 bt301.2.1 bt301.2.2.1 bt301.2.2.2.1 bt301.2.2.2.2.1 bt301.2.2.2.2.2.1 bt301.2.2.2.2.2.2.1)) else (q_MoveSuffices.j0 k t292 t294 bt310.1 true t288 t289 t290 bt301.1 bt301.2.1 bt301.2.2.1 bt301.2.2.2.1 bt301.2.2.2.2.1 bt301.2.2.2.2.2.1 bt301.2.2.2.2.2.2.1)) else (q_MoveSuffices.j0 k t292 t294 bt310.1 true t288 t289 t290 bt301.1 bt301.2.1 bt301.2.2.1 bt301.2.2.2.1 bt301.2.2.2.2.1 bt301.2.2.2.2.2.1 bt301.2.2.2.2.2.2.1)) else (q_MoveSuffices.j0 k t292 t294 bt310.1 true t288 t289 t290 bt301.1 bt301.2.1 bt301.2.2.1 bt301.2.2.2.1 bt301.2.2.2.2.1 bt301.2.2.2.2.2.1 bt301.2.2.2.2.2.2.1))))) = some r := H
 have A4 := Aside0.mk A40
 clear A40
 replace H := Option.bind_eq_some_iff.mp H
 obtain ⟨⟨t296, t297, t298, t299, t300⟩, A50, H⟩ := H
 replace H : ((move_Begin.f k t296 t297 t298 t299 t300 t292 t294 t288 t289).bind fun bt301 => ((profile_Travel.f (mx (wrap64 (t291 - t292)) (wrap64 (t292 - t291))) t288).bind fun bt310 => (if t295 = 0 then (if bt301.2.2.2.2.2.2.2 = 0 then (if bt310.2 = 0 then (if t294 < 0 then (q_MoveSuffices.j0 k t292 t294 bt310.1 true t288 t289 t290 bt301.1 bt301.2.1 bt301.2.2.1 bt301.2.2.2.1 bt301.2.2.2.2.1 bt301.2.2.2.2.2.1 bt301.2.2.2.2.2.2.1) else (q_MoveSuffices.j0 k t292 t294 bt310.1 (decide (t294 > 2000)) t288 t289 t290 bt301.1 bt301.2.1 bt301.2.2.1 bt301.2.2.2.1 bt301.2.2.2.2.1 bt301.2.2.2.2.2.1 bt301.2.2.2.2.2.2.1)) else (q_MoveSuffices.j0 k t292 t294 bt310.1 true t288 t289 t290 bt301.1 bt301.2.1 bt301.2.2.1 bt301.2.2.2.1 bt301.2.2.2.2.1 bt301.2.2.2.2.2.1 bt301.2.2.2.2.2.2.1)) else (q_MoveSuffices.j0 k t292 t294 bt310.1 true t288 t289 t290 bt301.1 bt301.2.1 bt301.2.2.1 bt301.2.2.2.1 bt301.2.2.2.2.1 bt301.2.2.2.2.2.1 bt301.2.2.2.2.2.2.1)) else (q_MoveSuffices.j0 k t292 t294 bt310.1 true t288 t289 t290 bt301.1 bt301.2.1 bt301.2.2.1 bt301.2.2.2.1 bt301.2.2.2.2.1 bt301.2.2.2.2.2.1 bt301.2.2.2.2.2.2.1)))) = some r := H
 have A5 := Aside0.mk A50
 clear A50
 replace H := Option.bind_eq_some_iff.mp H
 obtain ⟨⟨t301, t302, t303, t304, t305, t306, t307, t308⟩, A60, H⟩ := H
 replace H : ((profile_Travel.f (mx (wrap64 (t291 - t292)) (wrap64 (t292 - t291))) t288).bind fun bt310 => (if t295 = 0 then (if t308 = 0 then (if bt310.2 = 0 then (if t294 < 0 then (q_MoveSuffices.j0 k t292 t294 bt310.1 true t288 t289 t290 t301 t302 t303 t304 t305 t306 t307) else (q_MoveSuffices.j0 k t292 t294 bt310.1 (decide (t294 > 2000)) t288 t289 t290 t301 t302 t303 t304 t305 t306 t307)) else (q_MoveSuffices.j0 k t292 t294 bt310.1 true t288 t289 t290 t301 t302 t303 t304 t305 t306 t307)) else (q_MoveSuffices.j0 k t292 t294 bt310.1 true t288 t289 t290 t301 t302 t303 t304 t305 t306 t307)) else (q_MoveSuffices.j0 k t292 t294 bt310.1 true t288 t289 t290 t301 t302 t303 t304 t305 t306 t307))) = some r := H
 have A6 := Aside0.mk A60
 clear A60
 obtain ⟨ji7, hji7⟩ : ∃ j_ : Int, (mx (wrap64 (t291 - t292)) (wrap64 (t292 - t291))) = j_ := ⟨_, rfl⟩
 replace H : ((profile_Travel.f (ji7) t288).bind fun bt310 => (if t295 = 0 then (if t308 = 0 then (if bt310.2 = 0 then (if t294 < 0 then (q_MoveSuffices.j0 k t292 t294 bt310.1 true t288 t289 t290 t301 t302 t303 t304 t305 t306 t307) else (q_MoveSuffices.j0 k t292 t294 bt310.1 (decide (t294 > 2000)) t288 t289 t290 t301 t302 t303 t304 t305 t306 t307)) else (q_MoveSuffices.j0 k t292 t294 bt310.1 true t288 t289 t290 t301 t302 t303 t304 t305 t306 t307)) else (q_MoveSuffices.j0 k t292 t294 bt310.1 true t288 t289 t290 t301 t302 t303 t304 t305 t306 t307)) else (q_MoveSuffices.j0 k t292 t294 bt310.1 true t288 t289 t290 t301 t302 t303 t304 t305 t306 t307))) = some r := by first | (rw [hji7] at H; exact H) | (simp only [hji7] at H ⊢; exact H)
 (try rw [hji7] at A3)
 (try rw [hji7] at A4)
 (try rw [hji7] at A5)
 (try rw [hji7] at A6)
 have hji7_ : (if (wrap64 (t291 - t292)) < (wrap64 (t292 - t291)) then (wrap64 (t292 - t291)) else (wrap64 (t291 - t292))) = ji7 := hji7
 replace H := Option.bind_eq_some_iff.mp H
 obtain ⟨⟨t310, t311⟩, A80, H⟩ := H
 replace H : (if t295 = 0 then (if t308 = 0 then (if t311 = 0 then (if t294 < 0 then (q_MoveSuffices.j0 k t292 t294 t310 true t288 t289 t290 t301 t302 t303 t304 t305 t306 t307) else (q_MoveSuffices.j0 k t292 t294 t310 (decide (t294 > 2000)) t288 t289 t290 t301 t302 t303 t304 t305 t306 t307)) else (q_MoveSuffices.j0 k t292 t294 t310 true t288 t289 t290 t301 t302 t303 t304 t305 t306 t307)) else (q_MoveSuffices.j0 k t292 t294 t310 true t288 t289 t290 t301 t302 t303 t304 t305 t306 t307)) else (q_MoveSuffices.j0 k t292 t294 t310 true t288 t289 t290 t301 t302 t303 t304 t305 t306 t307)) = some r := H
 have A8 := Aside0.mk A80
 clear A80
 have HC9 := Aside0.mk H
 clear H
 go_enter Try.func4, Try.ntmps4
 try go_wp2_with (first | ((with_reducible refine gate_callee (f := 10) rfl ?_); refine gsl (some 24) Try.func10 #[.slice A0 l0.length c0, .int .i64 a1] ?_; (with_reducible refine (q_shaft.calls k _ _ l0 a1 t285 t288 t289 t290 t291 t292 _ ?side1 ?side2 A3.out).mono ?_); (case side1 => repeat (first | exact HR0.out | (with_reducible refine Kd.C_alloc ?_ _) | (with_reducible refine Kd.C_drewN ?_ _) | (with_reducible refine Kd.C_drew ?_))); (case side2 => exact HC0.out); rintro e w10 ⟨v286, rfl, ho0, hb⟩; refine ⟨_, rfl, ?_⟩; have HO287 := Aside0.mk (Kd.R_lower ho0 (bsz HB.out)); replace HB := Aside0.mk (bst HB.out hb); (try clear hb); (try clear hb2); (try clear hk); (try clear hi); (try clear ho0)) | ((with_reducible refine gate_dst (N := 6) rfl ?_); refine bxe (cs := #[.int .i64 0, .int .i64 0, .int .i64 0]) (t := 29) ?_; intro gb293 hg w11 hbox hb; have BK293 := Aside0.mk (hbox); have GW293 := Aside0.mk (bge hg HB.out); have GE293 := Aside0.mk (bge hg HB.out); replace HO287 := Aside0.mk (Kd.R_below (kdt HO287.out) hb); replace HB := Aside0.mk (bst HB.out hb); clear hb hbox hg; have hcz12_0 := cz3 BK293.out; have hfz12_0 := blk_frozen BK293.out; obtain ⟨Ao13, co13, eo13⟩ := Kd.R_slice HO287.out; subst eo13) | ((with_reducible refine gate_callee (f := 8) rfl ?_); refine gsl (some 35) Try.func8 #[.slice Ao13 t285.length co13, .int .i64 t288, .int .i64 t289] ?_; (with_reducible refine (move_Ticks.calls _ _ t285 t288 t289 t294 t295 _ ?side1 ?side2 A4.out).mono ?_); (case side1 => refine (Kd.R_reads' (e := 3) (base := w.heap.size) (ok := fun k_ => True) (n := t285.length) (c := co13) ?_).2.2; exact (by (with_reducible repeat (first | apply Kd.R_alloc | apply Kd.R_drewN | apply Kd.R_drew)); exact (Kd.R_mono (Kd.R_far (p := ⟨gb293, 2, none⟩) (Kd.R_far (p := ⟨gb293, 1, none⟩) (Kd.R_far (p := ⟨gb293, 0, none⟩) (Kd.R_types HO287.out BK293.out (by decide)) (fun _ hk => hk.2) (.int .i64 t288)) (fun _ hk => hk.2) (.int .i64 t289)) (fun _ hk => hk.2) (.int .i64 t290)) (fun _ h_ => h_.1)))); (case side2 => exact (Kd.R_reads' HO287.out).2.1); rintro e w14 ⟨rfl, hb⟩; refine ⟨_, rfl, ?_⟩; replace HO287 := Aside0.mk (Kd.R_below (by (with_reducible repeat (first | apply Kd.R_alloc | apply Kd.R_drewN | apply Kd.R_drew)); exact (Kd.R_mono (Kd.R_far (p := ⟨gb293, 2, none⟩) (Kd.R_far (p := ⟨gb293, 1, none⟩) (Kd.R_far (p := ⟨gb293, 0, none⟩) (Kd.R_types HO287.out BK293.out (by decide)) (fun _ hk => hk.2) (.int .i64 t288)) (fun _ hk => hk.2) (.int .i64 t289)) (fun _ hk => hk.2) (.int .i64 t290)) (fun _ h_ => h_.1))) hb); replace BK293 := Aside0.mk (blk_below (g := gb293) (o := .cells #[.int .i64 t288, .int .i64 t289, .int .i64 t290] 29 (0, 0)) (bkt BK293.out) hb); replace HB := Aside0.mk (bst HB.out hb); (try clear hb); (try clear hb2); (try clear hk); (try clear hi)))
 have n0_ := Aside0.mk (Kd.R_drew HO287.out)
 have n1_ := Aside0.mk (blk_drew BK293.out)
 have n2_ := Aside0.mk (below_drew1 HB.out)
 clear HO287
 clear BK293
 clear HB
 have HO287 := n0_
 have BK293 := n1_
 have HB := n2_
 clear n0_ n1_ n2_
 refine start_ (n := 15) (S := fun w' => w'.cell? ⟨gb293, 0, none⟩ = some (.int .i64 t288) ∧ w'.cell? ⟨gb293, 1, none⟩ = some (.int .i64 t289) ∧ w'.cell? ⟨gb293, 2, none⟩ = some (.int .i64 t290)) (ds := []) #[false, false, false, false, false, false, false, false, false, false, false, false, false, false, false] (by kernel_rfl) rfl rfl ⟨(blk_cell BK293.out 0).trans rfl, (blk_cell BK293.out 1).trans rfl, (blk_cell BK293.out 2).trans rfl⟩ (fun hHeld => ?_); refine with_tabW q_MoveSuffices.tab3 q_MoveSuffices.bits3 (fun HT_ HW_ => ?_)
 generalize w14.drew = w15 at HO287 BK293 HB hHeld ⊢
 refine pur 0 (some 39) (bm 15 1) HT_.out ?_
 refine pur 2 (some 41) (bm 15 5) HT_.out ?_
 refine pur 3 (some 42) (bm 15 13) HT_.out ?_
 refine pur 4 (some 43) (bm 15 29) HT_.out ?_
 refine pur 6 (some 45) (bm 15 93) HT_.out ?_
 refine tkp 5 (some 44) (bm 15 125) HT_.out HW_.out hHeld ?_
 refine tkp 7 (some 46) (bm 15 253) HT_.out HW_.out hHeld ?_
 refine join_ (σ := Nat) 2 #[true, true, true, true, true, true, true, true, true, true, true, true, true, false, false] (fun s_ => [(40, .agg #[.int .i64 t296, .int .i64 t297, .int .i64 t298, .int .i64 t299, .int .i64 t300]), (47, .tuple #[.agg #[.int .i64 t301, .int .i64 t302, .int .i64 t303, .int .i64 t304, .int .i64 t305, .int .i64 t306, .int .i64 t307], .int .i64 t308]), (11, .pointer (some ⟨s_, 0, none⟩)), (38, .tuple #[.agg #[.int .i64 t301, .int .i64 t302, .int .i64 t303, .int .i64 t304, .int .i64 t305, .int .i64 t306, .int .i64 t307], .int .i64 t308]), (48, .agg #[.int .i64 t301, .int .i64 t302, .int .i64 t303, .int .i64 t304, .int .i64 t305, .int .i64 t306, .int .i64 t307]), (49, .int .i64 t308)]) (fun s_ w' => (w'.cell? ⟨gb293, 0, none⟩ = some (.int .i64 t288) ∧ w'.cell? ⟨gb293, 1, none⟩ = some (.int .i64 t289) ∧ w'.cell? ⟨gb293, 2, none⟩ = some (.int .i64 t290)) ∧ (Kd.R (Kd.int .i64) 3 w' w.heap.size (fun _ => True) (.slice Ao13 t285.length co13) t285) ∧ (w'.heap[gb293]? = some (.cells #[.int .i64 t288, .int .i64 t289, .int .i64 t290] 29 (0, 0))) ∧ (w'.heap[s_]? = some (.cells #[.int .i64 0, .int .i64 0, .int .i64 0, .int .i64 0, .int .i64 0, .int .i64 0, .int .i64 0] 35 (0, 0))) ∧ (w.heap.size ≤ s_) ∧ (w.heap.size ≤ s_) ∧ (gb293 ≠ s_) ∧ (s_ ≠ gb293) ∧ (Below w.heap.size w w')) ?_ ?_
 rotate_left
 ·intro hCont
  refine two_ (i := 1) (j := 12) (Ni := some 40) (Nj := some 11) #[true, true, true, true, true, true, true, true, false, false, false, false, false, false, false] #[true, false, true, true, true, true, true, true, false, false, false, false, true, false, false] rfl rfl rfl rfl (two_of HT_.out (by kernel_rfl)) (by decide) (by decide) (fun K hK => ?_) (fun K hK => ?_)
  ·skip
   refine goes_ Try.func12 (by kernel_rfl) rfl #[.int .i64 t291] (by rfl) rfl rfl (by (try simp only [List.map_toArray, List.map_cons, List.map_nil]); first | done | rfl | (simp only [List.length_drop, List.length_take]; rfl)) ?_
   with_reducible refine (q_at.calls t291 t296 t297 t298 t299 t300 _ A5.out).mono ?_
   rintro e w16 ⟨rfl, hb⟩
   refine ⟨_, rfl, ?_⟩
   have n0_ := Aside0.mk (Kd.R_below (kdt HO287.out) hb)
   have n1_ := Aside0.mk (bkb BK293.out hb)
   have n2_ := Aside0.mk (bst HB.out hb)
   clear HO287
   clear BK293
   clear HB
   have HO287 := n0_
   have BK293 := n1_
   have HB := n2_
   clear n0_ n1_ n2_
   (try clear hb)
   (try clear hb2)
   (try clear hk)
   (try clear hi)
   refine hK.out _ _ ⟨(blk_cell BK293.out 0).trans rfl, (blk_cell BK293.out 1).trans rfl, (blk_cell BK293.out 2).trans rfl⟩ (fun hHeld => ?_)
   clear hK K
   refine norm_ (a' := ?_) ?_ ?_
   rotate_left
   ·show Act.put _ (some 40) _ = _
    simp only [Act.put, List.setIfInBounds_toArray, List.set_cons_zero, List.set_cons_succ, i64_w, i32_w]
    rfl
   refine two_ (i := 8) (j := 12) (Ni := some 47) (Nj := some 11) #[true, true, true, true, true, true, true, true, true, false, false, false, false, false, false] #[true, true, true, true, true, true, true, true, false, false, false, false, true, false, false] rfl rfl rfl rfl (two_of HT_.out (by kernel_rfl)) (by decide) (by decide) (fun K hK => ?_) (fun K hK => ?_)
   ·skip
    refine goes_ Try.func11 (by kernel_rfl) rfl #[.agg #[.int .i64 t296, .int .i64 t297, .int .i64 t298, .int .i64 t299, .int .i64 t300], .int .i64 t292, .int .i64 t294, .int .i64 t288, .int .i64 t289] (by rfl) rfl rfl (by (try simp only [List.map_toArray, List.map_cons, List.map_nil]); first | done | rfl | (simp only [List.length_drop, List.length_take]; rfl)) ?_
    with_reducible refine (move_Begin.calls k t296 t297 t298 t299 t300 t292 t294 t288 t289 t301 t302 t303 t304 t305 t306 t307 t308 _ A6.out).mono ?_
    rintro e w17 ⟨rfl, hb⟩
    refine ⟨_, rfl, ?_⟩
    have n0_ := Aside0.mk (Kd.R_below (kdt HO287.out) hb)
    have n1_ := Aside0.mk (bkb BK293.out hb)
    have n2_ := Aside0.mk (bst HB.out hb)
    clear HO287
    clear BK293
    clear HB
    have HO287 := n0_
    have BK293 := n1_
    have HB := n2_
    clear n0_ n1_ n2_
    (try clear hb)
    (try clear hb2)
    (try clear hk)
    (try clear hi)
    refine hK.out _ _ ⟨(blk_cell BK293.out 0).trans rfl, (blk_cell BK293.out 1).trans rfl, (blk_cell BK293.out 2).trans rfl⟩ (fun hHeld => ?_)
    clear hK K
    refine norm_ (a' := ?_) ?_ ?_
    rotate_left
    ·show Act.put _ (some 47) _ = _
     simp only [Act.put, List.setIfInBounds_toArray, List.set_cons_zero, List.set_cons_succ, i64_w, i32_w]
     rfl
    refine pur 9 (some 38) (bm 15 1023) HT_.out ?_
    refine pur 10 (some 48) (bm 15 2047) HT_.out ?_
    refine pur 11 (some 49) (bm 15 4095) HT_.out ?_
    refine one_ (i := 12) (N := some 11) (bm 15 8191) rfl rfl (one_of HT_.out (by kernel_rfl)) (by decide) (fun K hK => ?_)
    refine box_step ?hg (N := 11) ?hd (cs := #[.int .i64 0, .int .i64 0, .int .i64 0, .int .i64 0, .int .i64 0, .int .i64 0, .int .i64 0]) (t := 35) ?hr ?_; (case hd => rfl); (case hg => rfl); (case hr => first | (go_simp; done) | (go_simp; rfl))
    intro gb309 hg w18 hbox hb
    have n0_ := Aside0.mk (Kd.R_below (kdt HO287.out) hb)
    have n1_ := Aside0.mk (bkb BK293.out hb)
    have n2_ := Aside0.mk (bst HB.out hb)
    have n3_ := Aside0.mk (hbox)
    have n4_ := Aside0.mk (bge hg HB.out)
    have n5_ := Aside0.mk (bge hg HB.out)
    have n6_ := Aside0.mk ((bkl hg BK293.out))
    have n7_ := Aside0.mk ((bkg hg BK293.out))
    clear HO287
    clear BK293
    clear HB
    have HO287 := n0_
    have BK293 := n1_
    have HB := n2_
    have BK309 := n3_
    have GW309 := n4_
    have GE309 := n5_
    have NB293_309 := n6_
    have NB309_293 := n7_
    clear n0_ n1_ n2_ n3_ n4_ n5_ n6_ n7_
    clear hb hbox hg
    refine hK.out _ _ ⟨(blk_cell BK293.out 0).trans rfl, (blk_cell BK293.out 1).trans rfl, (blk_cell BK293.out 2).trans rfl⟩ (fun hHeld => ?_)
    clear hK K
    refine norm_ (a' := ?_) ?_ ?_
    rotate_left
    ·show Act.put _ (some 11) _ = _
     simp only [Act.put, List.setIfInBounds_toArray, List.set_cons_zero, List.set_cons_succ, i64_w, i32_w]
     rfl
    exact norm_ (by simp only [putAll, Act.put, List.setIfInBounds_toArray, List.set_cons_zero, List.set_cons_succ]) (hCont (gb309) _ ⟨hHeld, (kdt HO287.out), (bkt BK293.out), (bkt BK309.out), GW309.out, GE309.out, NB293_309.out, NB309_293.out, (bel HB.out)⟩)
   ·skip
    refine box_step ?hg (N := 11) ?hd (cs := #[.int .i64 0, .int .i64 0, .int .i64 0, .int .i64 0, .int .i64 0, .int .i64 0, .int .i64 0]) (t := 35) ?hr ?_; (case hd => rfl); (case hg => rfl); (case hr => first | (go_simp; done) | (go_simp; rfl))
    intro gb309 hg w17 hbox hb
    have n0_ := Aside0.mk (Kd.R_below (kdt HO287.out) hb)
    have n1_ := Aside0.mk (bkb BK293.out hb)
    have n2_ := Aside0.mk (bst HB.out hb)
    have n3_ := Aside0.mk (hbox)
    have n4_ := Aside0.mk (bge hg HB.out)
    have n5_ := Aside0.mk (bge hg HB.out)
    have n6_ := Aside0.mk ((bkl hg BK293.out))
    have n7_ := Aside0.mk ((bkg hg BK293.out))
    clear HO287
    clear BK293
    clear HB
    have HO287 := n0_
    have BK293 := n1_
    have HB := n2_
    have BK309 := n3_
    have GW309 := n4_
    have GE309 := n5_
    have NB293_309 := n6_
    have NB309_293 := n7_
    clear n0_ n1_ n2_ n3_ n4_ n5_ n6_ n7_
    clear hb hbox hg
    refine hK.out _ _ ⟨(blk_cell BK293.out 0).trans rfl, (blk_cell BK293.out 1).trans rfl, (blk_cell BK293.out 2).trans rfl⟩ (fun hHeld => ?_)
    clear hK K
    refine norm_ (a' := ?_) ?_ ?_
    rotate_left
    ·show Act.put _ (some 11) _ = _
     simp only [Act.put, List.setIfInBounds_toArray, List.set_cons_zero, List.set_cons_succ, i64_w, i32_w]
     rfl
    refine one_ (i := 8) (N := some 47) (bm 15 4607) rfl rfl (one_of HT_.out (by kernel_rfl)) (by decide) (fun K hK => ?_)
    refine goes_ Try.func11 (by kernel_rfl) rfl #[.agg #[.int .i64 t296, .int .i64 t297, .int .i64 t298, .int .i64 t299, .int .i64 t300], .int .i64 t292, .int .i64 t294, .int .i64 t288, .int .i64 t289] (by rfl) rfl rfl (by (try simp only [List.map_toArray, List.map_cons, List.map_nil]); first | done | rfl | (simp only [List.length_drop, List.length_take]; rfl)) ?_
    with_reducible refine (move_Begin.calls k t296 t297 t298 t299 t300 t292 t294 t288 t289 t301 t302 t303 t304 t305 t306 t307 t308 _ A6.out).mono ?_
    rintro e w18 ⟨rfl, hb⟩
    refine ⟨_, rfl, ?_⟩
    have n0_ := Aside0.mk (Kd.R_below (kdt HO287.out) hb)
    have n1_ := Aside0.mk (bkb BK293.out hb)
    have n2_ := Aside0.mk (bkb BK309.out hb)
    have n3_ := Aside0.mk (bst HB.out hb)
    clear HO287
    clear BK293
    clear BK309
    clear HB
    have HO287 := n0_
    have BK293 := n1_
    have BK309 := n2_
    have HB := n3_
    clear n0_ n1_ n2_ n3_
    (try clear hb)
    (try clear hb2)
    (try clear hk)
    (try clear hi)
    refine hK.out _ _ ⟨(blk_cell BK293.out 0).trans rfl, (blk_cell BK293.out 1).trans rfl, (blk_cell BK293.out 2).trans rfl⟩ (fun hHeld => ?_)
    clear hK K
    refine norm_ (a' := ?_) ?_ ?_
    rotate_left
    ·show Act.put _ (some 47) _ = _
     simp only [Act.put, List.setIfInBounds_toArray, List.set_cons_zero, List.set_cons_succ, i64_w, i32_w]
     rfl
    refine pur 9 (some 38) (bm 15 5119) HT_.out ?_
    refine pur 10 (some 48) (bm 15 6143) HT_.out ?_
    refine pur 11 (some 49) (bm 15 8191) HT_.out ?_
    exact norm_ (by simp only [putAll, Act.put, List.setIfInBounds_toArray, List.set_cons_zero, List.set_cons_succ]) (hCont (gb309) _ ⟨hHeld, (kdt HO287.out), (bkt BK293.out), (bkt BK309.out), GW309.out, GE309.out, NB293_309.out, NB309_293.out, (bel HB.out)⟩)
  ·skip
   refine box_step ?hg (N := 11) ?hd (cs := #[.int .i64 0, .int .i64 0, .int .i64 0, .int .i64 0, .int .i64 0, .int .i64 0, .int .i64 0]) (t := 35) ?hr ?_; (case hd => rfl); (case hg => rfl); (case hr => first | (go_simp; done) | (go_simp; rfl))
   intro gb309 hg w16 hbox hb
   have n0_ := Aside0.mk (Kd.R_below (kdt HO287.out) hb)
   have n1_ := Aside0.mk (bkb BK293.out hb)
   have n2_ := Aside0.mk (bst HB.out hb)
   have n3_ := Aside0.mk (hbox)
   have n4_ := Aside0.mk (bge hg HB.out)
   have n5_ := Aside0.mk (bge hg HB.out)
   have n6_ := Aside0.mk ((bkl hg BK293.out))
   have n7_ := Aside0.mk ((bkg hg BK293.out))
   clear HO287
   clear BK293
   clear HB
   have HO287 := n0_
   have BK293 := n1_
   have HB := n2_
   have BK309 := n3_
   have GW309 := n4_
   have GE309 := n5_
   have NB293_309 := n6_
   have NB309_293 := n7_
   clear n0_ n1_ n2_ n3_ n4_ n5_ n6_ n7_
   clear hb hbox hg
   refine hK.out _ _ ⟨(blk_cell BK293.out 0).trans rfl, (blk_cell BK293.out 1).trans rfl, (blk_cell BK293.out 2).trans rfl⟩ (fun hHeld => ?_)
   clear hK K
   refine norm_ (a' := ?_) ?_ ?_
   rotate_left
   ·show Act.put _ (some 11) _ = _
    simp only [Act.put, List.setIfInBounds_toArray, List.set_cons_zero, List.set_cons_succ, i64_w, i32_w]
    rfl
   refine one_ (i := 1) (N := some 40) (bm 15 4351) rfl rfl (one_of HT_.out (by kernel_rfl)) (by decide) (fun K hK => ?_)
   refine goes_ Try.func12 (by kernel_rfl) rfl #[.int .i64 t291] (by rfl) rfl rfl (by (try simp only [List.map_toArray, List.map_cons, List.map_nil]); first | done | rfl | (simp only [List.length_drop, List.length_take]; rfl)) ?_
   with_reducible refine (q_at.calls t291 t296 t297 t298 t299 t300 _ A5.out).mono ?_
   rintro e w17 ⟨rfl, hb⟩
   refine ⟨_, rfl, ?_⟩
   have n0_ := Aside0.mk (Kd.R_below (kdt HO287.out) hb)
   have n1_ := Aside0.mk (bkb BK293.out hb)
   have n2_ := Aside0.mk (bkb BK309.out hb)
   have n3_ := Aside0.mk (bst HB.out hb)
   clear HO287
   clear BK293
   clear BK309
   clear HB
   have HO287 := n0_
   have BK293 := n1_
   have BK309 := n2_
   have HB := n3_
   clear n0_ n1_ n2_ n3_
   (try clear hb)
   (try clear hb2)
   (try clear hk)
   (try clear hi)
   refine hK.out _ _ ⟨(blk_cell BK293.out 0).trans rfl, (blk_cell BK293.out 1).trans rfl, (blk_cell BK293.out 2).trans rfl⟩ (fun hHeld => ?_)
   clear hK K
   refine norm_ (a' := ?_) ?_ ?_
   rotate_left
   ·show Act.put _ (some 40) _ = _
    simp only [Act.put, List.setIfInBounds_toArray, List.set_cons_zero, List.set_cons_succ, i64_w, i32_w]
    rfl
   refine one_ (i := 8) (N := some 47) (bm 15 4607) rfl rfl (one_of HT_.out (by kernel_rfl)) (by decide) (fun K hK => ?_)
   refine goes_ Try.func11 (by kernel_rfl) rfl #[.agg #[.int .i64 t296, .int .i64 t297, .int .i64 t298, .int .i64 t299, .int .i64 t300], .int .i64 t292, .int .i64 t294, .int .i64 t288, .int .i64 t289] (by rfl) rfl rfl (by (try simp only [List.map_toArray, List.map_cons, List.map_nil]); first | done | rfl | (simp only [List.length_drop, List.length_take]; rfl)) ?_
   with_reducible refine (move_Begin.calls k t296 t297 t298 t299 t300 t292 t294 t288 t289 t301 t302 t303 t304 t305 t306 t307 t308 _ A6.out).mono ?_
   rintro e w18 ⟨rfl, hb⟩
   refine ⟨_, rfl, ?_⟩
   have n0_ := Aside0.mk (Kd.R_below (kdt HO287.out) hb)
   have n1_ := Aside0.mk (bkb BK293.out hb)
   have n2_ := Aside0.mk (bkb BK309.out hb)
   have n3_ := Aside0.mk (bst HB.out hb)
   clear HO287
   clear BK293
   clear BK309
   clear HB
   have HO287 := n0_
   have BK293 := n1_
   have BK309 := n2_
   have HB := n3_
   clear n0_ n1_ n2_ n3_
   (try clear hb)
   (try clear hb2)
   (try clear hk)
   (try clear hi)
   refine hK.out _ _ ⟨(blk_cell BK293.out 0).trans rfl, (blk_cell BK293.out 1).trans rfl, (blk_cell BK293.out 2).trans rfl⟩ (fun hHeld => ?_)
   clear hK K
   refine norm_ (a' := ?_) ?_ ?_
   rotate_left
   ·show Act.put _ (some 47) _ = _
    simp only [Act.put, List.setIfInBounds_toArray, List.set_cons_zero, List.set_cons_succ, i64_w, i32_w]
    rfl
   refine pur 9 (some 38) (bm 15 5119) HT_.out ?_
   refine pur 10 (some 48) (bm 15 6143) HT_.out ?_
   refine pur 11 (some 49) (bm 15 8191) HT_.out ?_
   exact norm_ (by simp only [putAll, Act.put, List.setIfInBounds_toArray, List.set_cons_zero, List.set_cons_succ]) (hCont (gb309) _ ⟨hHeld, (kdt HO287.out), (bkt BK293.out), (bkt BK309.out), GW309.out, GE309.out, NB293_309.out, NB309_293.out, (bel HB.out)⟩)
 rintro gb309 w19 ⟨hS_, h0_, h1_, h2_, h3_, h4_, h5_, h6_, h7_⟩
 have n0_ : Aside0 (Kd.R (Kd.int .i64) 3 w19 w.heap.size (fun _ => True) (.slice Ao13 t285.length co13) t285) := ⟨h0_⟩
 have n1_ : Aside0 (w19.heap[gb293]? = some (.cells #[.int .i64 t288, .int .i64 t289, .int .i64 t290] 29 (0, 0))) := ⟨h1_⟩
 have n2_ : Aside0 (w19.heap[gb309]? = some (.cells #[.int .i64 0, .int .i64 0, .int .i64 0, .int .i64 0, .int .i64 0, .int .i64 0, .int .i64 0] 35 (0, 0))) := ⟨h2_⟩
 have n3_ : Aside0 (w.heap.size ≤ gb309) := ⟨h3_⟩
 have n4_ : Aside0 (w.heap.size ≤ gb309) := ⟨h4_⟩
 have n5_ : Aside0 (gb293 ≠ gb309) := ⟨h5_⟩
 have n6_ : Aside0 (gb309 ≠ gb293) := ⟨h6_⟩
 have n7_ : Aside0 (Below w.heap.size w w19) := ⟨h7_⟩
 clear HO287
 clear BK293
 clear HB
 clear h0_ h1_ h2_ h3_ h4_ h5_ h6_ h7_
 have HO287 := n0_
 have BK293 := n1_
 have BK309 := n2_
 have GW309 := n3_
 have GE309 := n4_
 have NB293_309 := n5_
 have NB309_293 := n6_
 have HB := n7_
 clear n0_ n1_ n2_ n3_ n4_ n5_ n6_ n7_
 have hHeld : w19.cell? ⟨gb293, 0, none⟩ = some (.int .i64 t288) ∧ w19.cell? ⟨gb293, 1, none⟩ = some (.int .i64 t289) ∧ w19.cell? ⟨gb293, 2, none⟩ = some (.int .i64 t290) := hS_
 refine norm_ (a' := ?_) ?_ ?_
 rotate_left
 ·simp only [putAll, Act.put, List.setIfInBounds_toArray, List.set_cons_zero, List.set_cons_succ]
  rfl
 refine one_ (i := 13) (N := none) (bm 15 16383) rfl rfl (one_of HT_.out (by kernel_rfl)) (by decide) (fun K hK => ?_)
 have hs20 : w19.cell? ⟨gb309, 0, none⟩ = some (.int .i64 0) := (blk_cell BK309.out 0).trans rfl
 have hfs20 := blk_frozen BK309.out 0
 have hns20_0 := NB293_309.out
 have hms20_0 := NB309_293.out
 have hs21 : w19.cell? ⟨gb309, 1, none⟩ = some (.int .i64 0) := (blk_cell BK309.out 1).trans rfl
 have hfs21 := blk_frozen BK309.out 1
 have hns21_0 := NB293_309.out
 have hms21_0 := NB309_293.out
 have hs22 : w19.cell? ⟨gb309, 2, none⟩ = some (.int .i64 0) := (blk_cell BK309.out 2).trans rfl
 have hfs22 := blk_frozen BK309.out 2
 have hns22_0 := NB293_309.out
 have hms22_0 := NB309_293.out
 have hs23 : w19.cell? ⟨gb309, 3, none⟩ = some (.int .i64 0) := (blk_cell BK309.out 3).trans rfl
 have hfs23 := blk_frozen BK309.out 3
 have hns23_0 := NB293_309.out
 have hms23_0 := NB309_293.out
 have hs24 : w19.cell? ⟨gb309, 4, none⟩ = some (.int .i64 0) := (blk_cell BK309.out 4).trans rfl
 have hfs24 := blk_frozen BK309.out 4
 have hns24_0 := NB293_309.out
 have hms24_0 := NB309_293.out
 have hs25 : w19.cell? ⟨gb309, 5, none⟩ = some (.int .i64 0) := (blk_cell BK309.out 5).trans rfl
 have hfs25 := blk_frozen BK309.out 5
 have hns25_0 := NB293_309.out
 have hms25_0 := NB309_293.out
 have hs26 : w19.cell? ⟨gb309, 6, none⟩ = some (.int .i64 0) := (blk_cell BK309.out 6).trans rfl
 have hfs26 := blk_frozen BK309.out 6
 have hns26_0 := NB293_309.out
 have hms26_0 := NB309_293.out
 refine skip_ (w1 := ?_) (by rfl) rfl ?_ ?_
 rotate_left
 ·go_simp
  rfl
 refine hK.out _ _ ⟨(clr hHeld.1), (clr hHeld.2.1), (clr hHeld.2.2)⟩ (fun hHeld => ?_)
 clear hK K
 refine pur 14 (some 12) (bm 15 32767) HT_.out ?_
 refine done_ (done_of HT_.out (by kernel_rfl)) ?_
 have hnb27 := NB293_309.out
 have hnc27 := NB309_293.out
 have hcz28_0 := cz3 BK293.out
 have hfz28_0 := blk_frozen BK293.out
 go_upto_region 5 with (first | ((with_reducible refine gate_callee (f := 13) rfl ?_); refine goesL_ (some 60) rfl rfl Try.func13 (by kernel_rfl) rfl #[.int .i64 ji7, .int .i64 t288] rfl (by (try simp only [List.map_toArray, List.map_cons, List.map_nil]); first | done | (simp only [hji7]; rfl) | rfl | (simp only [List.length_drop, List.length_take]; rfl)) ?_; (with_reducible refine (profile_Travel.calls ji7 t288 t310 t311 _ A8.out).mono ?_); rintro e w29 ⟨rfl, hb⟩; refine ⟨_, rfl, ?_⟩; replace HO287 := Aside0.mk (Kd.R_below (by (with_reducible repeat (first | apply Kd.R_alloc | apply Kd.R_drewN | apply Kd.R_drew)); exact (Kd.R_mono (Kd.R_far (p := ⟨gb309, 6, none⟩) (Kd.R_far (p := ⟨gb309, 5, none⟩) (Kd.R_far (p := ⟨gb309, 4, none⟩) (Kd.R_far (p := ⟨gb309, 3, none⟩) (Kd.R_far (p := ⟨gb309, 2, none⟩) (Kd.R_far (p := ⟨gb309, 1, none⟩) (Kd.R_far (p := ⟨gb309, 0, none⟩) (Kd.R_types HO287.out BK309.out (by decide)) (fun _ hk => hk.2) (.int .i64 t301)) (fun _ hk => hk.2) (.int .i64 t302)) (fun _ hk => hk.2) (.int .i64 t303)) (fun _ hk => hk.2) (.int .i64 t304)) (fun _ hk => hk.2) (.int .i64 t305)) (fun _ hk => hk.2) (.int .i64 t306)) (fun _ hk => hk.2) (.int .i64 t307)) (fun _ h_ => h_.1))) hb); replace BK293 := Aside0.mk (bkb BK293.out hb); replace BK309 := Aside0.mk (blk_below (g := gb309) (o := .cells #[.int .i64 t301, .int .i64 t302, .int .i64 t303, .int .i64 t304, .int .i64 t305, .int .i64 t306, .int .i64 t307] 35 (0, 0)) (bkt BK309.out) hb); replace HB := Aside0.mk (bst HB.out hb); (try clear hb); (try clear hb2); (try clear hk); (try clear hi)))
 (try simp only [Act.put, List.setIfInBounds_toArray, List.set_cons_zero, List.set_cons_succ])
 go_cut [80] (fun v80 wc => ∃ (kq : Nat) (x80_8 : Bool), v80 = .bool x80_8 ∧ Aside0 (q_MoveSuffices.j0 kq t292 t294 t310 x80_8 t288 t289 t290 t301 t302 t303 t304 t305 t306 t307 = some r) ∧ Aside0 (kq ≤ k) ∧ Aside0 (wc.heap[gb293]? = some (.cells #[.int .i64 t288, .int .i64 t289, .int .i64 t290] 29 (0, 0))) ∧ Aside0 (wc.heap[gb309]? = some (.cells #[.int .i64 t301, .int .i64 t302, .int .i64 t303, .int .i64 t304, .int .i64 t305, .int .i64 t306, .int .i64 t307] 35 (0, 0))) ∧ Aside0 (Below w.heap.size w wc))
 case first =>
  have H := HC9.out
  clear HC9
  by_cases c30 : t295 = 0
  ·rw [if_pos c30] at H
   have c30b0 : (t295 == 0) = true := beq_iff_eq.mpr c30
   have c30b1 : (t295 != 0) = false := bne_eq_false_iff_eq.mpr c30
   clear c30
   (first | rw [c30b0] | (simp only [i64_w, i32_w]; rw [c30b0]) | skip)
   by_cases c31 : t308 = 0
   ·rw [if_pos c31] at H
    have c31b0 : (t308 == 0) = true := beq_iff_eq.mpr c31
    have c31b1 : (t308 != 0) = false := bne_eq_false_iff_eq.mpr c31
    clear c31
    by_cases c32 : t311 = 0
    ·rw [if_pos c32] at H
     have c32b0 : (t311 == 0) = true := beq_iff_eq.mpr c32
     have c32b1 : (t311 != 0) = false := bne_eq_false_iff_eq.mpr c32
     clear c32
     by_cases c33 : t294 < 0
     ·rw [if_pos c33] at H
      have c33b0 : decide (t294 < 0) = true := decide_eq_true c33
      clear c33
      have H' := Aside0.mk H
      clear H
      go_wp2
      go_meet
      case rel => exact ⟨_, (true), (by first | rfl | (simp; done) | (simp [*]; done)), H', ⟨by first | omega | exact Nat.le_refl _⟩, ⟨bkt BK293.out⟩, ⟨bkt BK309.out⟩, ⟨bel HB.out⟩⟩
     ·rw [if_neg c33] at H
      have c33b0 : decide (t294 < 0) = false := decide_eq_false c33
      clear c33
      have H' := Aside0.mk H
      clear H
      go_wp2
      go_meet
      case rel => exact ⟨_, (decide (t294 > 2000)), (by first | rfl | (simp; done) | (simp [*]; done)), H', ⟨by first | omega | exact Nat.le_refl _⟩, ⟨bkt BK293.out⟩, ⟨bkt BK309.out⟩, ⟨bel HB.out⟩⟩
    ·rw [if_neg c32] at H
     have c32b0 : (t311 == 0) = false := beq_eq_false_iff_ne.mpr c32
     have c32b1 : (t311 != 0) = true := bne_iff_ne.mpr c32
     have H' := Aside0.mk H
     clear H
     go_wp2
     go_meet
     case rel => exact ⟨_, (true), (by first | rfl | (simp; done) | (simp [*]; done)), H', ⟨by first | omega | exact Nat.le_refl _⟩, ⟨bkt BK293.out⟩, ⟨bkt BK309.out⟩, ⟨bel HB.out⟩⟩
   ·rw [if_neg c31] at H
    have c31b0 : (t308 == 0) = false := beq_eq_false_iff_ne.mpr c31
    have c31b1 : (t308 != 0) = true := bne_iff_ne.mpr c31
    have H' := Aside0.mk H
    clear H
    go_wp2
    go_meet
    case rel => exact ⟨_, (true), (by first | rfl | (simp; done) | (simp [*]; done)), H', ⟨by first | omega | exact Nat.le_refl _⟩, ⟨bkt BK293.out⟩, ⟨bkt BK309.out⟩, ⟨bel HB.out⟩⟩
  ·rw [if_neg c30] at H
   have c30b0 : (t295 == 0) = false := beq_eq_false_iff_ne.mpr c30
   have c30b1 : (t295 != 0) = true := bne_iff_ne.mpr c30
   (first | rw [c30b0] | (simp only [i64_w, i32_w]; rw [c30b0]) | skip)
   have H' := Aside0.mk H
   clear H
   go_wp2
   go_meet
   case rel => exact ⟨_, (true), (by first | rfl | (simp; done) | (simp [*]; done)), H', ⟨by first | omega | exact Nat.le_refl _⟩, ⟨bkt BK293.out⟩, ⟨bkt BK309.out⟩, ⟨bel HB.out⟩⟩
 case rest =>
  clear HC9
  try clear c1
  try clear c2
  try clear p2
  try clear c3
  try clear c4
  try clear p6
  try clear c8
  try clear c10
  try clear c11
  try clear c12
  try clear c13
  try clear c27
  try clear c30
  try clear c30b0
  try clear c30b1
  try clear c31
  try clear c31b0
  try clear c31b1
  try clear c32
  try clear c32b0
  try clear c32b1
  try clear c33
  try clear c33b0
  try clear hcz12_0
  try clear hcz28_0
  try clear hfz12_0
  try clear hfz28_0
  obtain ⟨kq, x80_8, rfl, HA, HJ8, BK293, BK309, HB⟩ := hcut
  cases kq with
  | zero => exact absurd HA.out (by simp [q_MoveSuffices.j0])
  | succ kj8 =>
   have H := HA.out
   clear HA
   simp only [q_MoveSuffices.j0] at H
   by_cases c34 : x80_8 = true
   ·subst c34
    have H1 : (none) = some r := by rw [if_pos rfl] at H; exact H
    clear H
    have H := H1
    clear H1
    exact absurd H (by simp)
   ·replace c34 := Bool.eq_false_iff.mpr c34
    subst c34
    have H1 : (q_MoveSuffices.l0 kj8 t292 t294 t310 0 0 t288 t289 t290 t301 t302 t303 t304 t305 t306 t307) = some r := by rw [if_neg (show ¬ (false = true) by decide)] at H; exact H
    clear H
    have H := H1
    clear H1
    have H' := Aside0.mk H
    clear H
    go_wp2
    go_loopg [15, 16] kj8 (fun kq v15 v16 w' => ∃ (x15_2 : Int) (x16_2 : Int) (x310000_2 : Int) (x310001_2 : Int) (x310002_2 : Int) (x310003_2 : Int) (x310004_2 : Int) (x310005_2 : Int) (x310006_2 : Int), v15 = .int .i64 x15_2 ∧ v16 = .int .i64 x16_2 ∧ Aside0 (q_MoveSuffices.l0 kq t292 t294 t310 x15_2 x16_2 t288 t289 t290 x310000_2 x310001_2 x310002_2 x310003_2 x310004_2 x310005_2 x310006_2 = some r) ∧ Aside0 (kq ≤ kj8) ∧ Aside0 (w'.heap[gb293]? = some (.cells #[.int .i64 t288, .int .i64 t289, .int .i64 t290] 29 (0, 0))) ∧ Aside0 (w'.heap[gb309]? = some (.cells #[.int .i64 x310000_2, .int .i64 x310001_2, .int .i64 x310002_2, .int .i64 x310003_2, .int .i64 x310004_2, .int .i64 x310005_2, .int .i64 x310006_2] 35 (0, 0))) ∧ Aside0 (Below w.heap.size w w'))
    case atStart => exact ⟨(0), (0), (t301), (t302), (t303), (t304), (t305), (t306), (t307), (by first | rfl | (simp; done) | (simp [*]; done)), (by first | rfl | (simp; done) | (simp [*]; done)), H', ⟨Nat.le_refl _⟩, ⟨bkt BK293.out⟩, ⟨bkt BK309.out⟩, ⟨bel HB.out⟩⟩
    case round =>
     clear H'
     try clear c1
     try clear c2
     try clear p2
     try clear c3
     try clear c4
     try clear p6
     try clear c8
     try clear c10
     try clear c11
     try clear c12
     try clear c13
     try clear c27
     try clear c30
     try clear c30b0
     try clear c30b1
     try clear c31
     try clear c31b0
     try clear c31b1
     try clear c32
     try clear c32b0
     try clear c32b1
     try clear c33
     try clear c33b0
     try clear c34
     try clear hcz12_0
     try clear hcz28_0
     try clear hfz12_0
     try clear hfz28_0
     try clear p2
     try clear p6
     obtain ⟨x15_2, x16_2, x310000_2, x310001_2, x310002_2, x310003_2, x310004_2, x310005_2, x310006_2, rfl, rfl, HA, HK2, BK293, BK309, HB⟩ := hrel
     cases gk with
     | zero => exact absurd HA.out (by simp [q_MoveSuffices.l0])
     | succ k2 =>
      have H := HA.out
      clear HA
      simp only [q_MoveSuffices.l0] at H
      by_cases c35 : x16_2 < t294
      ·rw [if_pos c35] at H
       have c35b0 : decide (x16_2 < t294) = true := decide_eq_true c35
       clear c35
       replace H := Option.bind_eq_some_iff.mp H
       obtain ⟨⟨t320, t321, t322, t323, t324, t325, t326, t327, t328⟩, A360, H⟩ := H
       replace H : (if t328 = 0 then ((move_Check.f t320 t321 t322 t323 t324 t325 t326 t288 t289).bind fun t330 => (if t330 = 0 then (if t326 = (wrap64 (x16_2 + 1)) then (q_MoveSuffices.j2 k2 t292 t294 t310 x15_2 x16_2 t327 (t325 != t294) t288 t289 t290 t320 t321 t322 t323 t324 t325 t326) else (q_MoveSuffices.j2 k2 t292 t294 t310 x15_2 x16_2 t327 true t288 t289 t290 t320 t321 t322 t323 t324 t325 t326)) else (q_MoveSuffices.j2 k2 t292 t294 t310 x15_2 x16_2 t327 true t288 t289 t290 t320 t321 t322 t323 t324 t325 t326))) else (q_MoveSuffices.j2 k2 t292 t294 t310 x15_2 x16_2 t327 true t288 t289 t290 t320 t321 t322 t323 t324 t325 t326)) = some r := H
       have A36 := Aside0.mk A360
       clear A360
       have HC37 := Aside0.mk H
       clear H
       have hnb38 := NB309_293.out
       have hnc38 := NB293_309.out
       have hcz39_0 := cz7 BK309.out
       have hfz39_0 := blk_frozen BK309.out
       have hcz40_0 := cz3 BK293.out
       have hfz40_0 := blk_frozen BK293.out
       go_upto_region 12 with (first | ((with_reducible refine gate_callee (f := 14) rfl ?_); refine gsl (some 92) Try.func14 #[.agg #[.int .i64 x310000_2, .int .i64 x310001_2, .int .i64 x310002_2, .int .i64 x310003_2, .int .i64 x310004_2, .int .i64 x310005_2, .int .i64 x310006_2], .int .i64 t288, .int .i64 t289] ?_; (with_reducible refine (move_Step.calls x310000_2 x310001_2 x310002_2 x310003_2 x310004_2 x310005_2 x310006_2 t288 t289 t320 t321 t322 t323 t324 t325 t326 t327 t328 _ A36.out).mono ?_); rintro e w41 ⟨rfl, hb⟩; refine ⟨_, rfl, ?_⟩; replace BK293 := Aside0.mk (bkb BK293.out hb); replace BK309 := Aside0.mk (bkb BK309.out hb); replace HB := Aside0.mk (bst HB.out hb); (try clear hb); (try clear hb2); (try clear hk); (try clear hi)) | ((with_reducible refine gate_dst (N := 17) rfl ?_); refine bxe (cs := #[.int .i64 0, .int .i64 0, .int .i64 0, .int .i64 0, .int .i64 0, .int .i64 0, .int .i64 0]) (t := 35) ?_; intro gb329 hg w42 hbox hb; have BK329 := Aside0.mk (hbox); have GW329 := Aside0.mk (bge hg HB.out); have GE329 := Aside0.mk (bge hg HB.out); have NB293_329 := Aside0.mk ((bkl hg BK293.out)); have NB329_293 := Aside0.mk ((bkg hg BK293.out)); have NB309_329 := Aside0.mk ((bkl hg BK309.out)); have NB329_309 := Aside0.mk ((bkg hg BK309.out)); replace BK293 := Aside0.mk (bkb BK293.out hb); replace BK309 := Aside0.mk (bkb BK309.out hb); replace HB := Aside0.mk (bst HB.out hb); clear hb hbox hg; have hnb43 := NB329_293.out; have hnc43 := NB293_329.out; have hnb44 := NB329_309.out; have hnc44 := NB309_329.out; have hcz45_0 := cz7 BK329.out; have hfz45_0 := blk_frozen BK329.out))
       (try simp only [Act.put, List.setIfInBounds_toArray, List.set_cons_zero, List.set_cons_succ])
       go_cut [119] (fun v119 wc => ∃ (kq : Nat) (x119_36 : Bool), v119 = .bool x119_36 ∧ Aside0 (q_MoveSuffices.j2 kq t292 t294 t310 x15_2 x16_2 t327 x119_36 t288 t289 t290 t320 t321 t322 t323 t324 t325 t326 = some r) ∧ Aside0 (kq ≤ k2) ∧ Aside0 (wc.heap[gb293]? = some (.cells #[.int .i64 t288, .int .i64 t289, .int .i64 t290] 29 (0, 0))) ∧ Aside0 (wc.heap[gb309]? = some (.cells #[.int .i64 x310000_2, .int .i64 x310001_2, .int .i64 x310002_2, .int .i64 x310003_2, .int .i64 x310004_2, .int .i64 x310005_2, .int .i64 x310006_2] 35 (0, 0))) ∧ Aside0 (wc.heap[gb329]? = some (.cells #[.int .i64 t320, .int .i64 t321, .int .i64 t322, .int .i64 t323, .int .i64 t324, .int .i64 t325, .int .i64 t326] 35 (0, 0))) ∧ Aside0 (Below w.heap.size w wc))
       case first =>
        have H := HC37.out
        clear HC37
        by_cases c46 : t328 = 0
        ·rw [if_pos c46] at H
         have c46b0 : (t328 == 0) = true := beq_iff_eq.mpr c46
         have c46b1 : (t328 != 0) = false := bne_eq_false_iff_eq.mpr c46
         clear c46
         (first | rw [c46b0] | (simp only [i64_w, i32_w]; rw [c46b0]) | skip)
         replace H := Option.bind_eq_some_iff.mp H
         obtain ⟨t330, A470, H⟩ := H
         replace H : (if t330 = 0 then (if t326 = (wrap64 (x16_2 + 1)) then (q_MoveSuffices.j2 k2 t292 t294 t310 x15_2 x16_2 t327 (t325 != t294) t288 t289 t290 t320 t321 t322 t323 t324 t325 t326) else (q_MoveSuffices.j2 k2 t292 t294 t310 x15_2 x16_2 t327 true t288 t289 t290 t320 t321 t322 t323 t324 t325 t326)) else (q_MoveSuffices.j2 k2 t292 t294 t310 x15_2 x16_2 t327 true t288 t289 t290 t320 t321 t322 t323 t324 t325 t326)) = some r := H
         have A47 := Aside0.mk A470
         clear A470
         by_cases c48 : t330 = 0
         ·rw [if_pos c48] at H
          have c48b0 : (t330 == 0) = true := beq_iff_eq.mpr c48
          have c48b1 : (t330 != 0) = false := bne_eq_false_iff_eq.mpr c48
          clear c48
          by_cases c49 : t326 = (wrap64 (x16_2 + 1))
          ·rw [if_pos c49] at H
           have c49b0 : (t326 == (wrap64 (x16_2 + 1))) = true := beq_iff_eq.mpr c49
           have c49b1 : (t326 != (wrap64 (x16_2 + 1))) = false := bne_eq_false_iff_eq.mpr c49
           clear c49
           have H' := Aside0.mk H
           clear H
           have hnb50 := NB329_293.out
           have hnc50 := NB293_329.out
           have hnb51 := NB329_309.out
           have hnc51 := NB309_329.out
           have hcz52_0 := cz7 BK329.out
           have hfz52_0 := blk_frozen BK329.out
           have hnb53 := NB293_309.out
           have hnc53 := NB309_293.out
           have hcz54_0 := cz3 BK293.out
           have hfz54_0 := blk_frozen BK293.out
           go_wp2_with (first | (go_at_call 15; (with_reducible refine (move_Check.calls t320 t321 t322 t323 t324 t325 t326 t288 t289 t330 _ A47.out).mono ?_); rintro e w55 ⟨rfl, hb⟩; (try clear A47); replace BK293 := Aside0.mk (bkb BK293.out hb); replace BK309 := Aside0.mk (bkb BK309.out hb); replace BK329 := Aside0.mk (blk_below (g := gb329) (o := .cells #[.int .i64 t320, .int .i64 t321, .int .i64 t322, .int .i64 t323, .int .i64 t324, .int .i64 t325, .int .i64 t326] 35 (0, 0)) (bkt BK329.out) hb); replace HB := Aside0.mk (bst HB.out hb); (try clear hb); (try clear hb2); (try clear hk); (try clear hi); have hcz56_0 := cz7 BK329.out; have hfz56_0 := blk_frozen BK329.out))
           go_meet
           case rel => exact ⟨_, ((t325 != t294)), (by first | rfl | (simp; done) | (simp [*]; done)), H', ⟨by have := HJ8.out; have := HK2.out; first | omega | exact Nat.le_refl _⟩, ⟨bkt BK293.out⟩, ⟨bkt BK309.out⟩, ⟨bkt BK329.out⟩, ⟨bel HB.out⟩⟩
          ·rw [if_neg c49] at H
           have c49b0 : (t326 == (wrap64 (x16_2 + 1))) = false := beq_eq_false_iff_ne.mpr c49
           have c49b1 : (t326 != (wrap64 (x16_2 + 1))) = true := bne_iff_ne.mpr c49
           have H' := Aside0.mk H
           clear H
           have hnb57 := NB329_293.out
           have hnc57 := NB293_329.out
           have hnb58 := NB329_309.out
           have hnc58 := NB309_329.out
           have hcz59_0 := cz7 BK329.out
           have hfz59_0 := blk_frozen BK329.out
           have hnb60 := NB293_309.out
           have hnc60 := NB309_293.out
           have hcz61_0 := cz3 BK293.out
           have hfz61_0 := blk_frozen BK293.out
           go_wp2_with (first | (go_at_call 15; (with_reducible refine (move_Check.calls t320 t321 t322 t323 t324 t325 t326 t288 t289 t330 _ A47.out).mono ?_); rintro e w62 ⟨rfl, hb⟩; (try clear A47); replace BK293 := Aside0.mk (bkb BK293.out hb); replace BK309 := Aside0.mk (bkb BK309.out hb); replace BK329 := Aside0.mk (blk_below (g := gb329) (o := .cells #[.int .i64 t320, .int .i64 t321, .int .i64 t322, .int .i64 t323, .int .i64 t324, .int .i64 t325, .int .i64 t326] 35 (0, 0)) (bkt BK329.out) hb); replace HB := Aside0.mk (bst HB.out hb); (try clear hb); (try clear hb2); (try clear hk); (try clear hi); have hcz63_0 := cz7 BK329.out; have hfz63_0 := blk_frozen BK329.out))
           go_meet
           case rel => exact ⟨_, (true), (by first | rfl | (simp; done) | (simp [*]; done)), H', ⟨by have := HJ8.out; have := HK2.out; first | omega | exact Nat.le_refl _⟩, ⟨bkt BK293.out⟩, ⟨bkt BK309.out⟩, ⟨bkt BK329.out⟩, ⟨bel HB.out⟩⟩
         ·rw [if_neg c48] at H
          have c48b0 : (t330 == 0) = false := beq_eq_false_iff_ne.mpr c48
          have c48b1 : (t330 != 0) = true := bne_iff_ne.mpr c48
          have H' := Aside0.mk H
          clear H
          have hnb64 := NB329_293.out
          have hnc64 := NB293_329.out
          have hnb65 := NB329_309.out
          have hnc65 := NB309_329.out
          have hcz66_0 := cz7 BK329.out
          have hfz66_0 := blk_frozen BK329.out
          have hnb67 := NB293_309.out
          have hnc67 := NB309_293.out
          have hcz68_0 := cz3 BK293.out
          have hfz68_0 := blk_frozen BK293.out
          go_wp2_with (first | (go_at_call 15; (with_reducible refine (move_Check.calls t320 t321 t322 t323 t324 t325 t326 t288 t289 t330 _ A47.out).mono ?_); rintro e w69 ⟨rfl, hb⟩; (try clear A47); replace BK293 := Aside0.mk (bkb BK293.out hb); replace BK309 := Aside0.mk (bkb BK309.out hb); replace BK329 := Aside0.mk (blk_below (g := gb329) (o := .cells #[.int .i64 t320, .int .i64 t321, .int .i64 t322, .int .i64 t323, .int .i64 t324, .int .i64 t325, .int .i64 t326] 35 (0, 0)) (bkt BK329.out) hb); replace HB := Aside0.mk (bst HB.out hb); (try clear hb); (try clear hb2); (try clear hk); (try clear hi)))
          go_meet
          case rel => exact ⟨_, (true), (by first | rfl | (simp; done) | (simp [*]; done)), H', ⟨by have := HJ8.out; have := HK2.out; first | omega | exact Nat.le_refl _⟩, ⟨bkt BK293.out⟩, ⟨bkt BK309.out⟩, ⟨bkt BK329.out⟩, ⟨bel HB.out⟩⟩
        ·rw [if_neg c46] at H
         have c46b0 : (t328 == 0) = false := beq_eq_false_iff_ne.mpr c46
         have c46b1 : (t328 != 0) = true := bne_iff_ne.mpr c46
         (first | rw [c46b0] | (simp only [i64_w, i32_w]; rw [c46b0]) | skip)
         have H' := Aside0.mk H
         clear H
         go_wp2
         go_meet
         case rel => exact ⟨_, (true), (by first | rfl | (simp; done) | (simp [*]; done)), H', ⟨by have := HJ8.out; have := HK2.out; first | omega | exact Nat.le_refl _⟩, ⟨bkt BK293.out⟩, ⟨bkt BK309.out⟩, ⟨bkt BK329.out⟩, ⟨bel HB.out⟩⟩
       case rest =>
        clear HC37
        try clear c1
        try clear c2
        try clear p2
        try clear c3
        try clear c4
        try clear c5
        try clear c6
        try clear p6
        try clear c8
        try clear c10
        try clear c11
        try clear c12
        try clear c13
        try clear c14
        try clear c27
        try clear c30
        try clear c30b0
        try clear c30b1
        try clear c31
        try clear c31b0
        try clear c31b1
        try clear c32
        try clear c32b0
        try clear c32b1
        try clear c33
        try clear c33b0
        try clear c34
        try clear c35
        try clear c35b0
        try clear c38
        try clear c43
        try clear c44
        try clear c46
        try clear c46b0
        try clear c46b1
        try clear c48
        try clear c48b0
        try clear c48b1
        try clear c49
        try clear c49b0
        try clear c49b1
        try clear c50
        try clear c51
        try clear c53
        try clear c57
        try clear c58
        try clear c60
        try clear c64
        try clear p64
        try clear c65
        try clear c67
        try clear hcz12_0
        try clear hcz28_0
        try clear hcz39_0
        try clear hcz40_0
        try clear hcz45_0
        try clear hcz52_0
        try clear hcz54_0
        try clear hcz56_0
        try clear hcz59_0
        try clear hcz61_0
        try clear hcz63_0
        try clear hcz66_0
        try clear hcz68_0
        try clear hfz12_0
        try clear hfz28_0
        try clear hfz39_0
        try clear hfz40_0
        try clear hfz45_0
        try clear hfz52_0
        try clear hfz54_0
        try clear hfz56_0
        try clear hfz59_0
        try clear hfz61_0
        try clear hfz63_0
        try clear hfz66_0
        try clear hfz68_0
        try clear p2
        try clear p6
        obtain ⟨kq, x119_36, rfl, HA, HJ36, BK293, BK309, BK329, HB⟩ := hcut
        cases kq with
        | zero => exact absurd HA.out (by simp [q_MoveSuffices.j2])
        | succ kj36 =>
         have H := HA.out
         clear HA
         simp only [q_MoveSuffices.j2] at H
         by_cases c70 : x119_36 = true
         ·subst c70
          have H1 : (none) = some r := by rw [if_pos rfl] at H; exact H
          clear H
          have H := H1
          clear H1
          exact absurd H (by simp)
         ·replace c70 := Bool.eq_false_iff.mpr c70
          subst c70
          have H1 : (if t327 = true then (q_MoveSuffices.l0 kj36 t292 t294 t310 (wrap64 (x15_2 + 1)) (wrap64 (x16_2 + 1)) t288 t289 t290 t320 t321 t322 t323 t324 t325 t326) else (q_MoveSuffices.l0 kj36 t292 t294 t310 x15_2 (wrap64 (x16_2 + 1)) t288 t289 t290 t320 t321 t322 t323 t324 t325 t326)) = some r := by rw [if_neg (show ¬ (false = true) by decide)] at H; exact H
          clear H
          have H := H1
          clear H1
          by_cases c71 : t327 = true
          ·subst c71
           have H1 : (q_MoveSuffices.l0 kj36 t292 t294 t310 (wrap64 (x15_2 + 1)) (wrap64 (x16_2 + 1)) t288 t289 t290 t320 t321 t322 t323 t324 t325 t326) = some r := by rw [if_pos rfl] at H; exact H
           clear H
           have H := H1
           clear H1
           have H' := Aside0.mk H
           clear H
           have hnb72 := NB329_293.out
           have hnc72 := NB293_329.out
           have hnb73 := NB329_309.out
           have hnc73 := NB309_329.out
           have hcz74_0 := cz7 BK329.out
           have hfz74_0 := blk_frozen BK329.out
           have hnb75 := NB309_293.out
           have hnc75 := NB293_309.out
           have hcz76_0 := cz7 BK309.out
           have hfz76_0 := blk_frozen BK309.out
           go_wp2
           go_roundg kj36
           case measure => have := HJ8.out; have := HK2.out; have := HJ36.out; omega
           case rel => exact ⟨(wrap64 (x15_2 + 1)), (wrap64 (x16_2 + 1)), (t320), (t321), (t322), (t323), (t324), (t325), (t326), (by first | rfl | (simp; done) | (simp [*]; done)), (by first | rfl | (simp; done) | (simp [*]; done)), H', ⟨by have := HJ8.out; have := HK2.out; have := HJ36.out; omega⟩, ⟨bkt BK293.out⟩, ⟨bkt BK309.out⟩, ⟨bel HB.out⟩⟩
          ·replace c71 := Bool.eq_false_iff.mpr c71
           subst c71
           have H1 : (q_MoveSuffices.l0 kj36 t292 t294 t310 x15_2 (wrap64 (x16_2 + 1)) t288 t289 t290 t320 t321 t322 t323 t324 t325 t326) = some r := by rw [if_neg (show ¬ (false = true) by decide)] at H; exact H
           clear H
           have H := H1
           clear H1
           have H' := Aside0.mk H
           clear H
           have hnb77 := NB329_293.out
           have hnc77 := NB293_329.out
           have hnb78 := NB329_309.out
           have hnc78 := NB309_329.out
           have hcz79_0 := cz7 BK329.out
           have hfz79_0 := blk_frozen BK329.out
           have hnb80 := NB309_293.out
           have hnc80 := NB293_309.out
           have hcz81_0 := cz7 BK309.out
           have hfz81_0 := blk_frozen BK309.out
           go_wp2
           go_roundg kj36
           case measure => have := HJ8.out; have := HK2.out; have := HJ36.out; omega
           case rel => exact ⟨(x15_2), (wrap64 (x16_2 + 1)), (t320), (t321), (t322), (t323), (t324), (t325), (t326), (by first | rfl | (simp; done) | (simp [*]; done)), (by first | rfl | (simp; done) | (simp [*]; done)), H', ⟨by have := HJ8.out; have := HK2.out; have := HJ36.out; omega⟩, ⟨bkt BK293.out⟩, ⟨bkt BK309.out⟩, ⟨bel HB.out⟩⟩
      ·rw [if_neg c35] at H
       have c35b0 : decide (x16_2 < t294) = false := decide_eq_false c35
       clear c35
       replace H := Option.bind_eq_some_iff.mp H
       obtain ⟨⟨t312, t313⟩, A820, H⟩ := H
       replace H : (if t313 = 0 then (if t312 = true then ((q_at.f t292).bind fun bt314 => (if (x310000_2 == bt314.1 && (x310001_2 == bt314.2.1 && (x310002_2 == bt314.2.2.1 && (x310003_2 == bt314.2.2.2.1 && (x310004_2 == bt314.2.2.2.2))))) = true then (if x15_2 = t310 then ((q_awake.f k2).bind fun t319 => (if t319 = true then (some true) else (none))) else (none)) else (none))) else (none)) else (none)) = some r := H
       have A82 := Aside0.mk A820
       clear A820
       by_cases c83 : t313 = 0
       ·rw [if_pos c83] at H
        have c83b0 : (t313 == 0) = true := beq_iff_eq.mpr c83
        have c83b1 : (t313 != 0) = false := bne_eq_false_iff_eq.mpr c83
        clear c83
        by_cases c84 : t312 = true
        ·subst c84
         have H1 : ((q_at.f t292).bind fun bt314 => (if (x310000_2 == bt314.1 && (x310001_2 == bt314.2.1 && (x310002_2 == bt314.2.2.1 && (x310003_2 == bt314.2.2.2.1 && (x310004_2 == bt314.2.2.2.2))))) = true then (if x15_2 = t310 then ((q_awake.f k2).bind fun t319 => (if t319 = true then (some true) else (none))) else (none)) else (none))) = some r := by rw [if_pos rfl] at H; exact H
         clear H
         have H := H1
         clear H1
         replace H := Option.bind_eq_some_iff.mp H
         obtain ⟨⟨t314, t315, t316, t317, t318⟩, A850, H⟩ := H
         replace H : (if (x310000_2 == t314 && (x310001_2 == t315 && (x310002_2 == t316 && (x310003_2 == t317 && (x310004_2 == t318))))) = true then (if x15_2 = t310 then ((q_awake.f k2).bind fun t319 => (if t319 = true then (some true) else (none))) else (none)) else (none)) = some r := H
         have A85 := Aside0.mk A850
         clear A850
         by_cases c86 : (x310000_2 == t314 && (x310001_2 == t315 && (x310002_2 == t316 && (x310003_2 == t317 && (x310004_2 == t318))))) = true
         ·rw [if_pos c86] at H
          have c86b0 : (x310000_2 == t314 && (x310001_2 == t315 && (x310002_2 == t316 && (x310003_2 == t317 && (x310004_2 == t318))))) = true := c86
          (try (have c86b1 : decide (x310000_2 = t314 && (x310001_2 == t315 && (x310002_2 == t316 && (x310003_2 == t317 && (x310004_2 == t318))))) = true := by simpa using c86))
          (try (have c86b2 : (x310000_2 == t314 && (x310001_2 == t315 && (x310002_2 == t316 && (x310003_2 == t317 && (x310004_2 == t318))))) = true := by simpa using c86))
          clear c86
          by_cases c87 : x15_2 = t310
          ·rw [if_pos c87] at H
           have c87b0 : (x15_2 == t310) = true := beq_iff_eq.mpr c87
           have c87b1 : (x15_2 != t310) = false := bne_eq_false_iff_eq.mpr c87
           clear c87
           replace H := Option.bind_eq_some_iff.mp H
           obtain ⟨t319, A880, H⟩ := H
           replace H : (if t319 = true then (some true) else (none)) = some r := H
           have A88 := Aside0.mk A880
           clear A880
           by_cases c89 : t319 = true
           ·subst c89
            have H1 : (some true) = some r := by rw [if_pos rfl] at H; exact H
            clear H
            have H := H1
            clear H1
            obtain rfl := Option.some.inj H
            have hnb90 := NB309_293.out
            have hnc90 := NB293_309.out
            have hcz91_0 := cz7 BK309.out
            have hfz91_0 := blk_frozen BK309.out
            have hcz92_0 := cz3 BK293.out
            have hfz92_0 := blk_frozen BK293.out
            try go_wp2_with (first | ((with_reducible refine gate_callee (f := 16) rfl ?_); refine gsl (some 130) Try.func16 #[.agg #[.int .i64 x310000_2, .int .i64 x310001_2, .int .i64 x310002_2, .int .i64 x310003_2, .int .i64 x310004_2, .int .i64 x310005_2, .int .i64 x310006_2], .int .i64 t288, .int .i64 t289] ?_; (with_reducible refine (move_Over.calls x310000_2 x310001_2 x310002_2 x310003_2 x310004_2 x310005_2 x310006_2 t288 t289 true t313 _ A82.out).mono ?_); rintro e w93 ⟨rfl, hb⟩; refine ⟨_, rfl, ?_⟩; replace BK293 := Aside0.mk (bkb BK293.out hb); replace BK309 := Aside0.mk (bkb BK309.out hb); replace HB := Aside0.mk (bst HB.out hb); (try clear hb); (try clear hb2); (try clear hk); (try clear hi)))
            have n0_ := Aside0.mk (blk_drew BK293.out)
            have n1_ := Aside0.mk (blk_drew BK309.out)
            have n2_ := Aside0.mk (below_drew1 HB.out)
            clear BK293
            clear BK309
            clear HB
            have BK293 := n0_
            have BK309 := n1_
            have HB := n2_
            clear n0_ n1_ n2_
            refine start_ (n := 21) (S := fun w' => w'.cell? ⟨gb309, 0, none⟩ = some (.int .i64 x310000_2) ∧ w'.cell? ⟨gb309, 1, none⟩ = some (.int .i64 x310001_2) ∧ w'.cell? ⟨gb309, 2, none⟩ = some (.int .i64 x310002_2) ∧ w'.cell? ⟨gb309, 3, none⟩ = some (.int .i64 x310003_2) ∧ w'.cell? ⟨gb309, 4, none⟩ = some (.int .i64 x310004_2) ∧ w'.cell? ⟨gb309, 5, none⟩ = some (.int .i64 x310005_2) ∧ w'.cell? ⟨gb309, 6, none⟩ = some (.int .i64 x310006_2)) (ds := []) #[false, false, false, false, false, false, false, false, false, false, false, false, false, false, false, false, false, false, false, false, false] (by kernel_rfl) rfl rfl ⟨(blk_cell BK309.out 0).trans rfl, (blk_cell BK309.out 1).trans rfl, (blk_cell BK309.out 2).trans rfl, (blk_cell BK309.out 3).trans rfl, (blk_cell BK309.out 4).trans rfl, (blk_cell BK309.out 5).trans rfl, (blk_cell BK309.out 6).trans rfl⟩ (fun hHeld => ?_); refine with_tabW q_MoveSuffices.tab18 q_MoveSuffices.bits18 (fun HT_ HW_ => ?_)
            generalize w93.drew = w94 at BK293 BK309 HB hHeld ⊢
            refine pur 0 (some 133) (bm 21 1) HT_.out ?_
            refine pur 1 (some 134) (bm 21 3) HT_.out ?_
            refine pur 2 (some 135) (bm 21 7) HT_.out ?_
            refine pur 3 (some 136) (bm 21 15) HT_.out ?_
            refine pur 4 (some 137) (bm 21 31) HT_.out ?_
            refine pur 5 (some 138) (bm 21 63) HT_.out ?_
            refine pur 6 (some 139) (bm 21 127) HT_.out ?_
            refine pur 8 (some 141) (bm 21 383) HT_.out ?_
            refine tkp 7 (some 140) (bm 21 511) HT_.out HW_.out hHeld ?_
            refine one_ (i := 9) (N := some 142) (bm 21 1023) rfl rfl (one_of HT_.out (by kernel_rfl)) (by decide) (fun K hK => ?_)
            refine goes_ Try.func12 (by kernel_rfl) rfl #[.int .i64 t292] (by rfl) rfl rfl (by (try simp only [List.map_toArray, List.map_cons, List.map_nil]); first | done | rfl | (simp only [List.length_drop, List.length_take]; rfl)) ?_
            with_reducible refine (q_at.calls t292 t314 t315 t316 t317 t318 _ A85.out).mono ?_
            rintro e w95 ⟨rfl, hb⟩
            refine ⟨_, rfl, ?_⟩
            have n0_ := Aside0.mk (bkb BK293.out hb)
            have n1_ := Aside0.mk (bkb BK309.out hb)
            have n2_ := Aside0.mk (bst HB.out hb)
            clear BK293
            clear BK309
            clear HB
            have BK293 := n0_
            have BK309 := n1_
            have HB := n2_
            clear n0_ n1_ n2_
            (try clear hb)
            (try clear hb2)
            (try clear hk)
            (try clear hi)
            refine hK.out _ _ ⟨(blk_cell BK309.out 0).trans rfl, (blk_cell BK309.out 1).trans rfl, (blk_cell BK309.out 2).trans rfl, (blk_cell BK309.out 3).trans rfl, (blk_cell BK309.out 4).trans rfl, (blk_cell BK309.out 5).trans rfl, (blk_cell BK309.out 6).trans rfl⟩ (fun hHeld => ?_)
            clear hK K
            refine norm_ (a' := ?_) ?_ ?_
            rotate_left
            ·show Act.put _ (some 142) _ = _
             simp only [Act.put, List.setIfInBounds_toArray, List.set_cons_zero, List.set_cons_succ, i64_w, i32_w]
             rfl
            refine pur 10 (some 143) (bm 21 2047) HT_.out ?_
            refine pur 11 (some 144) (bm 21 4095) HT_.out ?_
            refine pur 12 (some 145) (bm 21 8191) HT_.out ?_
            refine pur 13 (some 146) (bm 21 16383) HT_.out ?_
            refine pur 14 (some 147) (bm 21 32767) HT_.out ?_
            refine pur 15 (some 148) (bm 21 65535) HT_.out ?_
            refine pur 16 (some 149) (bm 21 131071) HT_.out ?_
            refine pur 17 (some 150) (bm 21 262143) HT_.out ?_
            refine one_ (i := 18) (N := some 151) (bm 21 524287) rfl rfl (one_of HT_.out (by kernel_rfl)) (by decide) (fun K hK => ?_)
            refine goes_ Try.func7 (by kernel_rfl) rfl #[] (by rfl) rfl rfl (by (try simp only [List.map_toArray, List.map_cons, List.map_nil]); first | done | rfl | (simp only [List.length_drop, List.length_take]; rfl)) ?_
            with_reducible refine (q_awake.calls k2  true _ A88.out).mono ?_
            rintro e w96 ⟨rfl, hb⟩
            refine ⟨_, rfl, ?_⟩
            have n0_ := Aside0.mk (bkb BK293.out hb)
            have n1_ := Aside0.mk (bkb BK309.out hb)
            have n2_ := Aside0.mk (bst HB.out hb)
            clear BK293
            clear BK309
            clear HB
            have BK293 := n0_
            have BK309 := n1_
            have HB := n2_
            clear n0_ n1_ n2_
            (try clear hb)
            (try clear hb2)
            (try clear hk)
            (try clear hi)
            refine hK.out _ _ ⟨(blk_cell BK309.out 0).trans rfl, (blk_cell BK309.out 1).trans rfl, (blk_cell BK309.out 2).trans rfl, (blk_cell BK309.out 3).trans rfl, (blk_cell BK309.out 4).trans rfl, (blk_cell BK309.out 5).trans rfl, (blk_cell BK309.out 6).trans rfl⟩ (fun hHeld => ?_)
            clear hK K
            refine norm_ (a' := ?_) ?_ ?_
            rotate_left
            ·show Act.put _ (some 151) _ = _
             simp only [Act.put, List.setIfInBounds_toArray, List.set_cons_zero, List.set_cons_succ, i64_w, i32_w]
             rfl
            refine pur 19 (some 152) (bm 21 1048575) HT_.out ?_
            refine pur 20 (some 4) (bm 21 2097151) HT_.out ?_
            refine done_ (done_of HT_.out (by kernel_rfl)) ?_
            try go_wp2
            go_ret
            exact ⟨by first | rfl | (simp [errW_none, errW_some] <;> rfl) | (simp only [← hji7]; first | rfl | (simp [errW_none, errW_some] <;> rfl)) | (simp [*, errW_none, errW_some] <;> rfl), bel HB.out⟩
           ·replace c89 := Bool.eq_false_iff.mpr c89
            subst c89
            have H1 : (none) = some r := by rw [if_neg (show ¬ (false = true) by decide)] at H; exact H
            clear H
            have H := H1
            clear H1
            exact absurd H (by simp)
          ·rw [if_neg c87] at H
           have c87b0 : (x15_2 == t310) = false := beq_eq_false_iff_ne.mpr c87
           have c87b1 : (x15_2 != t310) = true := bne_iff_ne.mpr c87
           exact absurd H (by simp)
         ·rw [if_neg c86] at H
          have c86b0 : (x310000_2 == t314 && (x310001_2 == t315 && (x310002_2 == t316 && (x310003_2 == t317 && (x310004_2 == t318))))) = false := by simpa using c86
          (try (have c86b1 : decide (x310000_2 = t314 && (x310001_2 == t315 && (x310002_2 == t316 && (x310003_2 == t317 && (x310004_2 == t318))))) = false := by simpa using c86))
          (try (have c86b2 : (x310000_2 == t314 && (x310001_2 == t315 && (x310002_2 == t316 && (x310003_2 == t317 && (x310004_2 == t318))))) = false := by simpa using c86))
          (try (have c86b3 : ¬ (x310000_2 = t314 && (x310001_2 == t315 && (x310002_2 == t316 && (x310003_2 == t317 && (x310004_2 == t318))))) := by simpa using c86))
          clear c86
          exact absurd H (by simp)
        ·replace c84 := Bool.eq_false_iff.mpr c84
         subst c84
         have H1 : (none) = some r := by rw [if_neg (show ¬ (false = true) by decide)] at H; exact H
         clear H
         have H := H1
         clear H1
         exact absurd H (by simp)
       ·rw [if_neg c83] at H
        have c83b0 : (t313 == 0) = false := beq_eq_false_iff_ne.mpr c83
        have c83b1 : (t313 != 0) = true := bne_iff_ne.mpr c83
        exact absurd H (by simp)

/-- THE ONE PURE STATEMENT of q_MoveSuffices: yours. -/
def q_MoveSuffices.Pure : Prop := ∀ (l0 : List Int) (a1 : Int), l0.length ≤ maxLen → l0.length * 8 ≤ 140737488351232 → (∀ x ∈ l0, (Lit.int .i64 x).wf = true) → (Lit.int .i64 a1).wf = true → ∃ k, q_MoveSuffices.f k l0 a1 = some true
theorem q_MoveSuffices.walk (P : q_MoveSuffices.Pure) (a0 : Option Addr) (len0 cap0 : Nat) (z0 : List Int) (a1 : Int) (w : World) (w0 : (a0 = none ∧ len0 = 0 ∧ cap0 = 0 ∧ z0 = []) ∨ ∃ x, a0 = some x ∧ len0 ≤ cap0 ∧ cap0 ≤ maxLen ∧ z0.length = cap0 ∧ (∀ i, i < z0.length → w.cell? (x.add i) = some (.int .i64 (z0.getD i 0))) ∧ ∀ n ∈ z0, (Lit.int .i64 n).wf = true) (y0 : len0 * 8 ≤ 140737488351232) (w1 : (Lit.int .i64 a1).wf = true) :
  Calls Try.prog 4 #[.slice a0 len0 cap0, .int .i64 a1] w fun e w' => e = .returned (.bool true) ∧ Below w.heap.size w w' := by
 obtain ⟨l0, rfl, hr0, hm0, hw0, hc0⟩ := ReadsInt.ofRowC w0
 obtain ⟨k, h⟩ := P l0 a1 hm0 y0 hw0 w1
 refine (q_MoveSuffices.calls k _ _ l0 a1 true w (Kd.C_of_reads (d := (0 : Int)) (h1 := fun _ => rfl) hr0) hc0 h).mono ?_
 rintro e w' ⟨rfl, hd⟩
 exact ⟨rfl, hd⟩

end Go.Proofs.Ytckaofgkepcibaa.P
