import Derived.Test.YtmdcjmackhjchaaZad
import Derived.WalkMore
import Derived.RangeFuncNested
import Derived.RangeFuncBound
import Derived.RangeFuncCalls
import Derived.RangeFuncLeaves
import Derived.RangeFuncRecord
import Derived.WalkKit
import Derived.Shelf.Abstract
import Derived.Shelf.RegionOpen
import Derived.OwnWalkIn
import Derived.TacticsInMore
import Derived.LoopNIn
import Derived.LoopIn
section
-- Printed by wip/myprint.py of this repo (over the kit's printer). Not trusted: Lean checks it.
namespace Go.Proofs.Ytmdcjmackhjchaa.P
open Go.RowKit Go.Proofs.YtmdcjmackhjchaaW.PrintWords Go.Proofs.YtmdcjmackhjchaaW.PrintLast Go.Proofs.YtmdcjmackhjchaaW.PrintMore
attribute [local go_sem] cell_same1 cell_some1 ix27_0 ix27_1 ix27_2
attribute [local go_sem] max2_int min2_int max_two min_two max_three min_three max_four min_four   -- for this text's walks alone
set_option linter.unusedVariables false
set_option linter.unusedSimpArgs false

/-! ### profile_limits: function 53 -/
def profile_limits.f (a0 : Int) (a1 : Int) : Option (Bool) := if a0 ≥ 0 then (if a0 ≤ 63000 then (if a1 ≥ 1 then (some (decide (a1 ≤ 20))) else (some false)) else (some false)) else (some false)
set_option maxHeartbeats 8000000 in
set_option maxRecDepth 100000 in
theorem profile_limits.calls (a0 : Int) (a1 : Int) (r : Bool) (w : World) (h : profile_limits.f a0 a1 = some r) :
  Calls Try.prog 53 #[.int .i64 a0, .int .i64 a1] w fun e w' => e = .returned (.bool r) ∧ Drawn0 w w' := by
 have H : (if a0 ≥ 0 then (if a0 ≤ 63000 then (if a1 ≥ 1 then (some (decide (a1 ≤ 20))) else (some false)) else (some false)) else (some false)) = some r := h
 clear h
 by_cases c3 : a0 ≥ 0
 ·as_aux_lemma =>
  rw [if_pos c3] at H
  have c3b0 : decide (0 ≤ a0) = true := decide_eq_true c3
  clear c3
  by_cases c4 : a0 ≤ 63000
  ·as_aux_lemma =>
   rw [if_pos c4] at H
   have c4b0 : decide (a0 ≤ 63000) = true := decide_eq_true c4
   clear c4
   by_cases c5 : a1 ≥ 1
   ·as_aux_lemma =>
    rw [if_pos c5] at H
    have c5b0 : decide (1 ≤ a1) = true := decide_eq_true c5
    clear c5
    obtain rfl := Option.some.inj H
    go_enter Try.func53, Try.ntmps53
    go_wp2
    go_ret
    exact ⟨by first | rfl | (simp; done) | (simp [*]; done), by repeat (first | exact Drawn0.refl _ | apply Drawn0.step)⟩
   ·as_aux_lemma =>
    rw [if_neg c5] at H
    have c5b0 : decide (1 ≤ a1) = false := decide_eq_false c5
    clear c5
    obtain rfl := Option.some.inj H
    go_enter Try.func53, Try.ntmps53
    go_wp2
    go_ret
    exact ⟨by first | rfl | (simp; done) | (simp [*]; done), by repeat (first | exact Drawn0.refl _ | apply Drawn0.step)⟩
  ·as_aux_lemma =>
   rw [if_neg c4] at H
   have c4b0 : decide (a0 ≤ 63000) = false := decide_eq_false c4
   clear c4
   obtain rfl := Option.some.inj H
   go_enter Try.func53, Try.ntmps53
   go_wp2
   go_ret
   exact ⟨by first | rfl | (simp; done) | (simp [*]; done), by repeat (first | exact Drawn0.refl _ | apply Drawn0.step)⟩
 ·as_aux_lemma =>
  rw [if_neg c3] at H
  have c3b0 : decide (0 ≤ a0) = false := decide_eq_false c3
  clear c3
  obtain rfl := Option.some.inj H
  go_enter Try.func53, Try.ntmps53
  go_wp2
  go_ret
  exact ⟨by first | rfl | (simp; done) | (simp [*]; done), by repeat (first | exact Drawn0.refl _ | apply Drawn0.step)⟩

-- NOT PRINTED: function 61 (profile_ride)

/-! ### profile_tri: function 68 -/
def profile_tri.f (a0 : Int) : Option (Int) := some (wrap64 (Int.tdiv (wrap64 (a0 * (wrap64 (a0 + 1)))) 2))
set_option maxHeartbeats 8000000 in
set_option maxRecDepth 100000 in
theorem profile_tri.calls (a0 : Int) (r : Int) (w : World) (h : profile_tri.f a0 = some r) :
  Calls Try.prog 68 #[.int .i64 a0] w fun e w' => e = .returned (.int .i64 r) ∧ Drawn0 w w' := by
 have H : (some (wrap64 (Int.tdiv (wrap64 (a0 * (wrap64 (a0 + 1)))) 2))) = some r := h
 clear h
 obtain rfl := Option.some.inj H
 go_enter Try.func68, Try.ntmps68
 go_wp2
 go_ret
 exact ⟨by first | rfl | (simp; done) | (simp [*]; done), by repeat (first | exact Drawn0.refl _ | apply Drawn0.step)⟩

end Go.Proofs.Ytmdcjmackhjchaa.P
end

section
/- Package profile: the next speed: what it answers, and that the Go code comes to just this. -/
namespace Go.Proofs.Ytmdcjmackhjchaa.P
open Go.RowKit Go.Proofs.YtmdcjmackhjchaaW.PrintWords Go.Proofs.YtmdcjmackhjchaaW.PrintLast Go.Proofs.YtmdcjmackhjchaaW.PrintMore
set_option linter.unusedVariables false
set_option linter.unusedSimpArgs false
theorem wsm (x : Int) (h : -1000000000000 ≤ x) (h2 : x ≤ 1000000000000) : wrap64 x = x := by unfold wrap64; omega
/-- v(v+1)/2. -/
def ptri (v : Int) : Int := v * (v + 1) / 2
/-- A speed that may come next. -/
def pok (v left limit : Int) : Prop := 0 ≤ v ∧ v ≤ limit ∧ ptri v ≤ left
instance (v left limit : Int) : Decidable (pok v left limit) := by unfold pok; infer_instance
def pnext (speed left limit : Int) : Int × Bool :=
 if pok (speed + 1) left limit then (speed + 1, true) else if pok speed left limit then (speed, true) else if pok (speed - 1) left limit then (speed - 1, true) else (speed - 1, false)
def profile_next.f (a0 : Int) (a1 : Int) (a2 : Int) : Option (Int × Bool) := if 0 ≤ a0 ∧ a0 ≤ 1000 then some (pnext a0 a1 a2) else none

theorem index3 (x y z : Int) (W : World) : (Instr.index 94 (.agg #[.int .i64 x, .int .i64 y, .int .i64 z]) (.int .i64 0)).run Try.prog W = .ok (.int .i64 x) W ∧
  (Instr.index 94 (.agg #[.int .i64 x, .int .i64 y, .int .i64 z]) (.int .i64 1)).run Try.prog W = .ok (.int .i64 y) W ∧
  (Instr.index 94 (.agg #[.int .i64 x, .int .i64 y, .int .i64 z]) (.int .i64 2)).run Try.prog W = .ok (.int .i64 z) W := by
 have info3 : (Try.prog.info? 3).map (fun i => (i.zero, i.size, i.bytes)) = some (some (.int .i64 0), 1, 8) := by kernel_rfl
 obtain ⟨ii, hii, hz0, hz1, hz2⟩ := info_parts info3
 have hu : Try.prog.underlying 94 = some (.array 3 3) := by kernel_rfl
 refine ⟨?_, ?_, ?_⟩
 all_goals
  simp [Instr.index, run_underlying hu, asInt, asIntOf, typeInfo, hii, sizeOf, hz1, hz0, part, go_sem]
theorem ptri_eq (v : Int) (h : 0 ≤ v) (h2 : v ≤ 2000) : profile_tri.f v = some (ptri v) := by
 unfold profile_tri.f ptri
 have h3 : 0 ≤ v * (v + 1) := Int.mul_nonneg h (by omega)
 have h4 : v * (v + 1) ≤ 2000 * 2001 := Int.mul_le_mul h2 (by omega) (by omega) (by omega)
 rw [wsm (v + 1) (by omega) (by omega), wsm (v * (v + 1)) (by omega) (by omega)]
 rw [Int.tdiv_eq_ediv_of_nonneg h3, wsm (v * (v + 1) / 2) (by omega) (by omega)]

set_option maxHeartbeats 4000000 in
theorem profile_next.calls (a0 : Int) (a1 : Int) (a2 : Int) (r1 : Int) (r2 : Bool) (w : World) (h : profile_next.f a0 a1 a2 = some (r1, r2)) :
  Calls Try.prog 66 #[.int .i64 a0, .int .i64 a1, .int .i64 a2] w fun e w' => e = .returned (.tuple #[.int .i64 r1, .bool r2]) ∧ Below w.heap.size w w' := by
 unfold profile_next.f at h
 by_cases hr : 0 ≤ a0 ∧ a0 ≤ 1000
 ·rw [if_pos hr] at h
  have h := Option.some.inj h
  obtain ⟨c1, e1⟩ : ∃ c, c = a0 + 1 := ⟨_, rfl⟩
  obtain ⟨c3, e3⟩ : ∃ c, c = a0 - 1 := ⟨_, rfl⟩
  have ix0 := fun W : World => (index3 c1 a0 c3 W).1
  have ix1 := fun W : World => (index3 c1 a0 c3 W).2.1
  have ix2 := fun W : World => (index3 c1 a0 c3 W).2.2
  have w1 : wrap64 (a0 + 1) = c1 := (wsm _ (by omega) (by omega)).trans e1.symm
  have w2 : wrap64 (a0 - 1) = c3 := (wsm _ (by omega) (by omega)).trans e3.symm
  have HH : Aside0 ((if pok c1 a1 a2 then (c1, true) else if pok a0 a1 a2 then (a0, true) else if pok c3 a1 a2 then (c3, true) else (c3, false)) = (r1, r2)) := ⟨by rw [e1, e3]; exact h⟩
  have E1 := Aside0.mk e1
  have E3 := Aside0.mk e3
  clear e1 e3
  have HR := Aside0.mk hr
  clear h hr
  go_enter Try.func66, Try.ntmps66
  go_wp2
  go_step3
  go_wp2
  go_step3
  go_wp2
  simp only [w1, w2]
  go_loopw [6, 7, 14] (fun v6 v7 v14 wr => ∃ i : Nat, i ≤ 3 ∧ v14 = .int .i64 i ∧ v7 = .bool false ∧ (∀ j : Nat, j < i → ¬ pok (c1 - j) a1 a2) ∧ (∃ x : Int, v6 = .int .i64 x ∧ (0 < i → x = c1 + 1 - i)) ∧ Aside0 (Below w.heap.size w wr)) (fun _ _ v14 _ => 3 - (intOf v14).toNat)
  case atStart => exact ⟨0, by omega, rfl, rfl, fun j hj => by omega, ⟨0, rfl, fun h => by omega⟩, ⟨Below.refl _ _⟩⟩
  case round =>
   obtain ⟨i, hi, rfl, rfl, hj, ⟨x, rfl, hx⟩, HB⟩ := hrel
   have hr := HR.out
   rcases (by omega : i = 0 ∨ i = 1 ∨ i = 2 ∨ i = 3) with rfl | rfl | rfl | rfl
   ·have hd3 : decide (((0 : Nat) : Int) < 3) = true := by decide
    by_cases hp : pok c1 a1 a2
    ·have g1 : decide (0 ≤ c1) = true := decide_eq_true hp.1
     have g2 : decide (c1 ≤ a2) = true := decide_eq_true hp.2.1
     have g3 : decide (ptri c1 ≤ a1) = true := decide_eq_true hp.2.2
     have hc0 := HR.out
     have hc1 := hp.1
     have hres : (r1, r2) = (c1, true) := by
      rw [← HH.out]
      rw [if_pos hp]
     obtain ⟨e1, e2⟩ := Prod.mk.inj hres
     have e1 := e1.symm
     have e2 := e2.symm
     subst e1
     subst e2
     clear hp hj hx hr
     go_wp2_with (go_at_call 68; refine (profile_tri.calls c1 (ptri c1) _ (ptri_eq _ (by have := HR.out; have := E1.out; have := E3.out; omega) (by have := HR.out; have := E1.out; have := E3.out; omega))).mono ?_; rintro e w' ⟨rfl, hd⟩; have HB := Aside0.mk (below_step HB.out hd.below); clear hd)
     all_goals
      simp only [Exit.noGoto_ret]
      refine bodyPost_ret (v := .tuple #[.int .i64 c1, .bool true]) (by simp [results, Try.results66, go_sem, *]) rfl ⟨rfl, ?_⟩
      exact HB.out
    ·have HN := Aside0.mk hp
     have hj := Aside0.mk hj
     have hc0 := HR.out
     have g1 : decide (0 ≤ c1) = true := decide_eq_true (by have := E1.out; omega)
     by_cases q2 : c1 ≤ a2
     ·have g2 : decide (c1 ≤ a2) = true := decide_eq_true q2
      have g3 : decide (ptri c1 ≤ a1) = false := decide_eq_false (fun q3 => hp ⟨by have := E1.out; omega, q2, q3⟩)
      clear hp hr q2
      go_wp2_with (go_at_call 68; refine (profile_tri.calls c1 (ptri c1) _ (ptri_eq _ (by have := HR.out; have := E1.out; have := E3.out; omega) (by have := HR.out; have := E1.out; have := E3.out; omega))).mono ?_; rintro e w' ⟨rfl, hd⟩; have HB := Aside0.mk (below_step HB.out hd.below); clear hd)
      have HJ : ∀ j : Nat, j < 1 → ¬ pok (c1 - j) a1 a2 := fun j hj2 => by
       rcases Nat.lt_succ_iff_lt_or_eq.1 hj2 with h | rfl
       ·exact hj.out j h
       ·rw [show c1 - ((0 : Nat) : Int) = c1 from by have := E1.out; have := E3.out; omega]; exact HN.out
      refine ⟨?_, ?_⟩
      ·first
        | exact ⟨1, by omega, rfl, rfl, HJ, ⟨c1, rfl, fun _ => by have := E1.out; have := E3.out; omega⟩, HB⟩
        | exact ⟨_, _, _, _, _, _, _, _, _, _, _, _, _, _, _, _, _, _, _, ⟨1, by omega, rfl, rfl, HJ, ⟨c1, rfl, fun _ => by have := E1.out; have := E3.out; omega⟩, HB⟩, rfl⟩
        | (refine ⟨_, _, _, _, _, _, _, _, _, _, _, _, _, _, _, _, _, _, _, ⟨1, by omega, rfl, rfl, HJ, ⟨c1, rfl, fun _ => by have := E1.out; have := E3.out; omega⟩, HB⟩, ?_⟩; trace_state; rfl)
      ·show 3 - (1 : Int).toNat < 3 - (0 : Int).toNat
       decide
     ·have g2 : decide (c1 ≤ a2) = false := decide_eq_false q2
      clear hp hr q2
      go_wp2
      have HJ : ∀ j : Nat, j < 1 → ¬ pok (c1 - j) a1 a2 := fun j hj2 => by
       rcases Nat.lt_succ_iff_lt_or_eq.1 hj2 with h | rfl
       ·exact hj.out j h
       ·rw [show c1 - ((0 : Nat) : Int) = c1 from by have := E1.out; have := E3.out; omega]; exact HN.out
      refine ⟨?_, ?_⟩
      ·first
        | exact ⟨1, by omega, rfl, rfl, HJ, ⟨c1, rfl, fun _ => by have := E1.out; have := E3.out; omega⟩, HB⟩
        | exact ⟨_, _, _, _, _, _, _, _, _, _, _, _, _, _, _, _, _, _, _, ⟨1, by omega, rfl, rfl, HJ, ⟨c1, rfl, fun _ => by have := E1.out; have := E3.out; omega⟩, HB⟩, rfl⟩
        | (refine ⟨_, _, _, _, _, _, _, _, _, _, _, _, _, _, _, _, _, _, _, ⟨1, by omega, rfl, rfl, HJ, ⟨c1, rfl, fun _ => by have := E1.out; have := E3.out; omega⟩, HB⟩, ?_⟩; trace_state; rfl)
      ·show 3 - (1 : Int).toNat < 3 - (0 : Int).toNat
       decide
   ·have hd3 : decide (((1 : Nat) : Int) < 3) = true := by decide
    by_cases hp : pok (a0) a1 a2
    ·have g1 : decide (0 ≤ (a0)) = true := decide_eq_true hp.1
     have g2 : decide ((a0) ≤ a2) = true := decide_eq_true hp.2.1
     have g3 : decide (ptri (a0) ≤ a1) = true := decide_eq_true hp.2.2
     have hc0 := HR.out
     have hc1 := hp.1
     have hres : (r1, r2) = (a0, true) := by
      rw [← HH.out]
      rw [if_neg (by have := hj 0 (by omega); rwa [show c1 - ((0 : Nat) : Int) = c1 from by have := E1.out; have := E3.out; omega] at this), if_pos hp]
     obtain ⟨e1, e2⟩ := Prod.mk.inj hres
     have e1 := e1.symm
     have e2 := e2.symm
     subst e1
     subst e2
     clear hp hj hx hr
     go_wp2_with (go_at_call 68; refine (profile_tri.calls (a0) (ptri (a0)) _ (ptri_eq _ (by have := HR.out; have := E1.out; have := E3.out; omega) (by have := HR.out; have := E1.out; have := E3.out; omega))).mono ?_; rintro e w' ⟨rfl, hd⟩; have HB := Aside0.mk (below_step HB.out hd.below); clear hd)
     all_goals
      simp only [Exit.noGoto_ret]
      refine bodyPost_ret (v := .tuple #[.int .i64 (a0), .bool true]) (by simp [results, Try.results66, go_sem, *]) rfl ⟨rfl, ?_⟩
      exact HB.out
    ·have HN := Aside0.mk hp
     have hj := Aside0.mk hj
     have hc0 := HR.out
     have g1 : decide (0 ≤ (a0)) = true := decide_eq_true (by have := E1.out; omega)
     by_cases q2 : (a0) ≤ a2
     ·have g2 : decide ((a0) ≤ a2) = true := decide_eq_true q2
      have g3 : decide (ptri (a0) ≤ a1) = false := decide_eq_false (fun q3 => hp ⟨by have := E1.out; omega, q2, q3⟩)
      clear hp hr q2
      go_wp2_with (go_at_call 68; refine (profile_tri.calls (a0) (ptri (a0)) _ (ptri_eq _ (by have := HR.out; have := E1.out; have := E3.out; omega) (by have := HR.out; have := E1.out; have := E3.out; omega))).mono ?_; rintro e w' ⟨rfl, hd⟩; have HB := Aside0.mk (below_step HB.out hd.below); clear hd)
      have HJ : ∀ j : Nat, j < 2 → ¬ pok (c1 - j) a1 a2 := fun j hj2 => by
       rcases Nat.lt_succ_iff_lt_or_eq.1 hj2 with h | rfl
       ·exact hj.out j h
       ·rw [show c1 - ((1 : Nat) : Int) = a0 from by have := E1.out; have := E3.out; omega]; exact HN.out
      refine ⟨?_, ?_⟩
      ·first
        | exact ⟨2, by omega, rfl, rfl, HJ, ⟨a0, rfl, fun _ => by have := E1.out; have := E3.out; omega⟩, HB⟩
        | exact ⟨_, _, _, _, _, _, _, _, _, _, _, _, _, _, _, _, _, _, _, ⟨2, by omega, rfl, rfl, HJ, ⟨a0, rfl, fun _ => by have := E1.out; have := E3.out; omega⟩, HB⟩, rfl⟩
        | (refine ⟨_, _, _, _, _, _, _, _, _, _, _, _, _, _, _, _, _, _, _, ⟨2, by omega, rfl, rfl, HJ, ⟨a0, rfl, fun _ => by have := E1.out; have := E3.out; omega⟩, HB⟩, ?_⟩; trace_state; rfl)
      ·show 3 - (2 : Int).toNat < 3 - (1 : Int).toNat
       decide
     ·have g2 : decide ((a0) ≤ a2) = false := decide_eq_false q2
      clear hp hr q2
      go_wp2
      have HJ : ∀ j : Nat, j < 2 → ¬ pok (c1 - j) a1 a2 := fun j hj2 => by
       rcases Nat.lt_succ_iff_lt_or_eq.1 hj2 with h | rfl
       ·exact hj.out j h
       ·rw [show c1 - ((1 : Nat) : Int) = a0 from by have := E1.out; have := E3.out; omega]; exact HN.out
      refine ⟨?_, ?_⟩
      ·first
        | exact ⟨2, by omega, rfl, rfl, HJ, ⟨a0, rfl, fun _ => by have := E1.out; have := E3.out; omega⟩, HB⟩
        | exact ⟨_, _, _, _, _, _, _, _, _, _, _, _, _, _, _, _, _, _, _, ⟨2, by omega, rfl, rfl, HJ, ⟨a0, rfl, fun _ => by have := E1.out; have := E3.out; omega⟩, HB⟩, rfl⟩
        | (refine ⟨_, _, _, _, _, _, _, _, _, _, _, _, _, _, _, _, _, _, _, ⟨2, by omega, rfl, rfl, HJ, ⟨a0, rfl, fun _ => by have := E1.out; have := E3.out; omega⟩, HB⟩, ?_⟩; trace_state; rfl)
      ·show 3 - (2 : Int).toNat < 3 - (1 : Int).toNat
       decide
   ·have hd3 : decide (((2 : Nat) : Int) < 3) = true := by decide
    by_cases hp : pok c3 a1 a2
    ·have g1 : decide (0 ≤ c3) = true := decide_eq_true hp.1
     have g2 : decide (c3 ≤ a2) = true := decide_eq_true hp.2.1
     have g3 : decide (ptri c3 ≤ a1) = true := decide_eq_true hp.2.2
     have hc0 := HR.out
     have hc1 := hp.1
     have hres : (r1, r2) = (c3, true) := by
      rw [← HH.out]
      rw [if_neg (by have := hj 0 (by omega); rwa [show c1 - ((0 : Nat) : Int) = c1 from by have := E1.out; have := E3.out; omega] at this), if_neg (by have := hj 1 (by omega); rwa [show c1 - ((1 : Nat) : Int) = a0 from by have := E1.out; have := E3.out; omega] at this), if_pos hp]
     obtain ⟨e1, e2⟩ := Prod.mk.inj hres
     have e1 := e1.symm
     have e2 := e2.symm
     subst e1
     subst e2
     clear hp hj hx hr
     go_wp2_with (go_at_call 68; refine (profile_tri.calls c3 (ptri c3) _ (ptri_eq _ (by have := HR.out; have := E1.out; have := E3.out; omega) (by have := HR.out; have := E1.out; have := E3.out; omega))).mono ?_; rintro e w' ⟨rfl, hd⟩; have HB := Aside0.mk (below_step HB.out hd.below); clear hd)
     all_goals
      simp only [Exit.noGoto_ret]
      refine bodyPost_ret (v := .tuple #[.int .i64 c3, .bool true]) (by simp [results, Try.results66, go_sem, *]) rfl ⟨rfl, ?_⟩
      exact HB.out
    ·have HN := Aside0.mk hp
     have hj := Aside0.mk hj
     have hc0 := HR.out
     by_cases q1 : 0 ≤ c3
     ·have g1 : decide (0 ≤ c3) = true := decide_eq_true q1
      by_cases q2 : c3 ≤ a2
      ·have g2 : decide (c3 ≤ a2) = true := decide_eq_true q2
       have g3 : decide (ptri c3 ≤ a1) = false := decide_eq_false (fun q3 => hp ⟨q1, q2, q3⟩)
       clear hp hr q2
       go_wp2_with (go_at_call 68; refine (profile_tri.calls c3 (ptri c3) _ (ptri_eq _ (by have := HR.out; have := E1.out; have := E3.out; omega) (by have := HR.out; have := E1.out; have := E3.out; omega))).mono ?_; rintro e w' ⟨rfl, hd⟩; have HB := Aside0.mk (below_step HB.out hd.below); clear hd)
       have HJ : ∀ j : Nat, j < 3 → ¬ pok (c1 - j) a1 a2 := fun j hj2 => by
        rcases Nat.lt_succ_iff_lt_or_eq.1 hj2 with h | rfl
        ·exact hj.out j h
        ·rw [show c1 - ((2 : Nat) : Int) = c3 from by have := E1.out; have := E3.out; omega]; exact HN.out
       refine ⟨?_, ?_⟩
       ·first
         | exact ⟨3, by omega, rfl, rfl, HJ, ⟨c3, rfl, fun _ => by have := E1.out; have := E3.out; omega⟩, HB⟩
         | exact ⟨_, _, _, _, _, _, _, _, _, _, _, _, _, _, _, _, _, _, _, ⟨3, by omega, rfl, rfl, HJ, ⟨c3, rfl, fun _ => by have := E1.out; have := E3.out; omega⟩, HB⟩, rfl⟩
         | (refine ⟨_, _, _, _, _, _, _, _, _, _, _, _, _, _, _, _, _, _, _, ⟨3, by omega, rfl, rfl, HJ, ⟨c3, rfl, fun _ => by have := E1.out; have := E3.out; omega⟩, HB⟩, ?_⟩; trace_state; rfl)
       ·show 3 - (3 : Int).toNat < 3 - (2 : Int).toNat
        decide
      ·have g2 : decide (c3 ≤ a2) = false := decide_eq_false q2
       clear hp hr q2
       go_wp2
       have HJ : ∀ j : Nat, j < 3 → ¬ pok (c1 - j) a1 a2 := fun j hj2 => by
        rcases Nat.lt_succ_iff_lt_or_eq.1 hj2 with h | rfl
        ·exact hj.out j h
        ·rw [show c1 - ((2 : Nat) : Int) = c3 from by have := E1.out; have := E3.out; omega]; exact HN.out
       refine ⟨?_, ?_⟩
       ·first
         | exact ⟨3, by omega, rfl, rfl, HJ, ⟨c3, rfl, fun _ => by have := E1.out; have := E3.out; omega⟩, HB⟩
         | exact ⟨_, _, _, _, _, _, _, _, _, _, _, _, _, _, _, _, _, _, _, ⟨3, by omega, rfl, rfl, HJ, ⟨c3, rfl, fun _ => by have := E1.out; have := E3.out; omega⟩, HB⟩, rfl⟩
         | (refine ⟨_, _, _, _, _, _, _, _, _, _, _, _, _, _, _, _, _, _, _, ⟨3, by omega, rfl, rfl, HJ, ⟨c3, rfl, fun _ => by have := E1.out; have := E3.out; omega⟩, HB⟩, ?_⟩; trace_state; rfl)
       ·show 3 - (3 : Int).toNat < 3 - (2 : Int).toNat
        decide
     ·have g1 : decide (0 ≤ c3) = false := decide_eq_false q1
      clear hp hr q1
      go_wp2
      have HJ : ∀ j : Nat, j < 3 → ¬ pok (c1 - j) a1 a2 := fun j hj2 => by
       rcases Nat.lt_succ_iff_lt_or_eq.1 hj2 with h | rfl
       ·exact hj.out j h
       ·rw [show c1 - ((2 : Nat) : Int) = c3 from by have := E1.out; have := E3.out; omega]; exact HN.out
      refine ⟨?_, ?_⟩
      ·first
        | exact ⟨3, by omega, rfl, rfl, HJ, ⟨c3, rfl, fun _ => by have := E1.out; have := E3.out; omega⟩, HB⟩
        | exact ⟨_, _, _, _, _, _, _, _, _, _, _, _, _, _, _, _, _, _, _, ⟨3, by omega, rfl, rfl, HJ, ⟨c3, rfl, fun _ => by have := E1.out; have := E3.out; omega⟩, HB⟩, rfl⟩
        | (refine ⟨_, _, _, _, _, _, _, _, _, _, _, _, _, _, _, _, _, _, _, ⟨3, by omega, rfl, rfl, HJ, ⟨c3, rfl, fun _ => by have := E1.out; have := E3.out; omega⟩, HB⟩, ?_⟩; trace_state; rfl)
      ·show 3 - (3 : Int).toNat < 3 - (2 : Int).toNat
       decide
   ·have hd3 : decide (((3 : Nat) : Int) < 3) = false := by decide
    have hres : (r1, r2) = (c3, false) := by
     rw [← HH.out]
     rw [if_neg (by have := hj 0 (by omega); rwa [show c1 - ((0 : Nat) : Int) = c1 from by have := E1.out; have := E3.out; omega] at this), if_neg (by have := hj 1 (by omega); rwa [show c1 - ((1 : Nat) : Int) = a0 from by have := E1.out; have := E3.out; omega] at this), if_neg (by have := hj 2 (by omega); rwa [show c1 - ((2 : Nat) : Int) = c3 from by have := E1.out; have := E3.out; omega] at this)]
    obtain ⟨e1, e2⟩ := Prod.mk.inj hres
    have e1 := e1.symm
    have e2 := e2.symm
    subst e1
    subst e2
    obtain rfl : x = c3 := by have := hx (by omega); have := E1.out; have := E3.out; omega
    clear hj hx hr
    go_wp2
    all_goals
     first
      | exact bodyPost_ret (v := .tuple #[.int .i64 x, .bool false]) (by simp [results, Try.results66, go_sem, *]) rfl ⟨rfl, HB.out⟩
      | exact bodyPost_ret (v := .tuple #[.int .i64 x, .bool false]) (by simp [results, Try.results66, go_sem, *]) rfl ⟨rfl, below_drew1 HB.out⟩
 ·rw [if_neg hr] at h
  cases h
end Go.Proofs.Ytmdcjmackhjchaa.P
end

section
/- A range over a function whose iterator keeps state of its own in memory (it writes what it has captured between two rounds): a law of the walk. The prover says what holds where the iterator stands at yield, behind the assignment, behind the body. -/
namespace Go.Proofs.Ytmdcjmackhjchaa.P
open Go Go.RowKit

/-- Where the body of a round may be left. -/
def rfPost {α : Type} (lr D : Nat) (Post : α → World → World → Prop) (Stop : α → World → Code → World → Prop) (x : α) (W1 W2 : World) : Exit → Act → World → Prop
 | .normal, _, W3 => W3.heap[lr]? = W2.heap[lr]? ∧ W3.heap[D]? = W2.heap[D]? ∧ ∀ Ra, Post x W1 (W3.putObj lr Ra)
 | .ret, _, W3 => W3.heap[lr]? = W2.heap[lr]? ∧ W3.heap[D]? = W2.heap[D]? ∧ ∀ Ra, Stop x W1 .ret (W3.putObj lr Ra)
 | .exit id, _, W3 => W3.heap[lr]? = W2.heap[lr]? ∧ W3.heap[D]? = W2.heap[D]? ∧ ∀ Ra, Stop x W1 (.exit id) (W3.putObj lr Ra)
 | .goto t, _, W3 => W3.heap[lr]? = W2.heap[lr]? ∧ W3.heap[D]? = W2.heap[D]? ∧ ∀ Ra, Stop x W1 (.goto t) (W3.putObj lr Ra)
 | .panic _, _, _ => False
 | .outgrown, _, _ => False

theorem rf_law {α : Type} {F : Fence} {n : Nat} {P : Program} {g : Operand} {ps : Array Tmp} {assign body : Code} {Q : Exit → Act → World → Prop} {a : Act} {w : World}
  (hro : F.round = none) (h1 : 1 ≤ n) {gf : Nat} {lb : Array Value} (hg : a.eval g = .func (.func gf) #[] lb) (hFg : F.fn gf) (eg : ∀ args w, (callFunc gf args).run P w = .ok (.enter gf args) w)
  {encs : α → Array Value} (hps : ∀ x, (encs x).size = ps.size)
  (Pre : α → World → Prop) (Mid : α → World → Act → World → Prop) (Post : α → World → World → Prop) (Stop : α → World → Code → World → Prop) (E : World → Prop) (Es : Code → World → Prop)
  (hassign : ∀ (x : α) (W1 : World) (K : Act → World → Prop), Pre x W1 →
   (∀ a' W2, W2.heap[w.heap.size + 1]? = W1.heap[w.heap.size + 1]? → W2.heap[w.heap.size]? = W1.heap[w.heap.size]? → Mid x W1 a' W2 → K a' W2) →
   assign.wpIn (F.inRound (w.heap.size + 1)) (n - 1 - 1) P (Exit.then K (fun _ _ _ => False)) { tmps := (ps.zip (encs x)).foldl (fun t (p, v) => t.setIfInBounds p v) a.tmps, defers := [] } W1)
  (hbody : ∀ (x : α) (W1 : World) (a' : Act) (W2 : World) (Rb : Obj), Mid x W1 a' W2 →
   body.wpIn (F.inRound (w.heap.size + 1)) (n - 1 - 1) P (rfPost (w.heap.size + 1) w.heap.size Post Stop x W1 (W2.putObj (w.heap.size + 1) Rb)) a' (W2.putObj (w.heap.size + 1) Rb))
  (hiter : ∀ (R0 : Obj) (Rs : Code → Obj) (W : World), W = (w.alloc (.deferred (some []))).alloc R0 →
   (∀ x W1, Pre x W1 → W1.heap[w.heap.size + 1]? = some R0 → W1.heap[w.heap.size]? = some (.deferred (some [])) →
    YieldAt F (n - 1 - 1) P (w.heap.size + 1) (encs x) W1 fun e W' =>
     (e = .returned (.bool true) ∧ Post x W1 W' ∧ W'.heap[w.heap.size + 1]? = some R0 ∧ W'.heap[w.heap.size]? = some (.deferred (some []))) ∨
     (e = .returned (.bool false) ∧ ∃ c, Stop x W1 c W' ∧ W'.heap[w.heap.size + 1]? = some (Rs c) ∧ W'.heap[w.heap.size]? = some (.deferred (some [])))) →
   CallsIn F (n - 1) P gf (#[.func (.yield (w.heap.size + 1)) #[] #[]] ++ lb) W fun e W' => (∃ v, e = .returned v) ∧ W'.heap[w.heap.size]? = some (.deferred (some [])) ∧
    ((E W' ∧ W'.heap[w.heap.size + 1]? = some R0) ∨ ∃ c, Es c W' ∧ W'.heap[w.heap.size + 1]? = some (Rs c)))
  (hdone : ∀ (W : World) (Rx : Obj), E W → W.heap[w.heap.size]? = some (.deferred (some [])) → Q .normal { a with defers := { target := .collected w.heap.size, args := #[] } :: a.defers } (W.putObj (w.heap.size + 1) Rx))
  (hstop : ∀ (c : Code) (W : World) (Rx : Obj), Es c W → W.heap[w.heap.size]? = some (.deferred (some [])) → c.wpIn F n P Q { a with defers := { target := .collected w.heap.size, args := #[] } :: a.defers } (W.putObj (w.heap.size + 1) Rx)) :
  (Code.rangeFunc g ps assign body).wpIn F n P Q a w := by
 refine wpIn_rangeFunc fun fn hfn => ?_
 rw [hro]
 let rec_ : LoopState → Option Code → Loop := fun st pe => { state := st, pending := pe, fn, tmps := a.tmps, params := ps, assign, body, defers := w.heap.size }
 have hlk : w.heap.size ≠ w.heap.size + 1 := by omega
 refine ⟨w.heap.size + 1, [{ target := .collected w.heap.size, args := #[] }], (w.alloc (.deferred (some []))).alloc (.loop (rec_ .ready none)), { target := .fn (.func gf) lb, args := #[.func (.yield (w.heap.size + 1)) #[] #[]] },
  (w.alloc (.deferred (some []))).alloc (.loop (rec_ .ready none)), gf, #[.func (.yield (w.heap.size + 1)) #[] #[]] ++ lb, (w.alloc (.deferred (some []))).alloc (.loop (rec_ .ready none)), run_enterLoop_outer _ _ _ _ _, ?_, ?_, ?_, fun _ => h1, ?_⟩
 ·simp only [resolve, hg]
  simp [go_sem]
 ·intro f' hf'
  simp [Target.leads] at hf'
  subst hf'
  exact hFg
 ·simp [invoke, go_sem, eg]
 ·refine (hiter (.loop (rec_ .ready none)) (fun c => .loop (rec_ .done (some c))) _ rfl ?_).mono ?_
  ·intro x W1 hpre hl hk
   refine ⟨fn, _, assign, body, run_yield hl (hps x), roundIn_of_wpIn hfn (hassign x W1 _ hpre fun a' W2 hl2 hk2 hmid => ⟨_, run_beginRound (hl2.trans hl) rfl, ?_⟩)⟩
   have hlt : w.heap.size + 1 < W2.heap.size := (Array.getElem?_eq_some_iff.1 (hl2.trans hl)).1
   refine wpIn_mono (hbody x W1 a' W2 _ hmid) ?_
   have fin : ∀ (jump : Option Code) (W3 : World), W3.heap[w.heap.size + 1]? = (W2.putObj (w.heap.size + 1) (.loop { rec_ .ready none with state := .busy })).heap[w.heap.size + 1]? →
     W3.heap[w.heap.size]? = (W2.putObj (w.heap.size + 1) (.loop { rec_ .ready none with state := .busy })).heap[w.heap.size]? →
     (Instr.endRound (w.heap.size + 1) jump).run P W3 = .ok (.bool jump.isNone) (W3.putObj (w.heap.size + 1) (.loop (rec_ (if jump.isNone then .ready else .done) jump))) ∧
     (W3.putObj (w.heap.size + 1) (.loop (rec_ (if jump.isNone then .ready else .done) jump))).heap[w.heap.size + 1]? = some (.loop (rec_ (if jump.isNone then .ready else .done) jump)) ∧
     (W3.putObj (w.heap.size + 1) (.loop (rec_ (if jump.isNone then .ready else .done) jump))).heap[w.heap.size]? = some (.deferred (some [])) := fun jump W3 q1 q2 => by
    rw [World.putObj_heap_same hlt] at q1
    rw [World.putObj_heap_other hlk] at q2
    exact ⟨run_endRound jump q1, World.putObj_heap_same (Array.getElem?_eq_some_iff.1 q1).1, (World.putObj_heap_other hlk).trans (q2.trans (hk2.trans hk))⟩
   rintro e a3 W3 hp
   cases e with
   | normal =>
    obtain ⟨q1, q2, q3⟩ := hp
    obtain ⟨r1, r2, r3⟩ := fin none W3 q1 q2
    exact ⟨_, _, r1, .inl ⟨rfl, q3 _, r2, r3⟩⟩
   | ret =>
    obtain ⟨q1, q2, q3⟩ := hp
    obtain ⟨r1, r2, r3⟩ := fin (some .ret) W3 q1 q2
    exact ⟨_, _, r1, .inr ⟨rfl, .ret, q3 _, r2, r3⟩⟩
   | exit id =>
    obtain ⟨q1, q2, q3⟩ := hp
    obtain ⟨r1, r2, r3⟩ := fin (some (.exit id)) W3 q1 q2
    exact ⟨_, _, r1, .inr ⟨rfl, .exit id, q3 _, r2, r3⟩⟩
   | goto t =>
    obtain ⟨q1, q2, q3⟩ := hp
    obtain ⟨r1, r2, r3⟩ := fin (some (.goto t)) W3 q1 q2
    exact ⟨_, _, r1, .inr ⟨rfl, .goto t, q3 _, r2, r3⟩⟩
   | panic ch => exact hp.elim
   | outgrown => exact hp.elim
  ·rintro e W2 ⟨⟨v, rfl⟩, hk, (⟨hE, hl⟩ | ⟨c, hE, hl⟩)⟩
   ·exact ⟨none, _, run_endLoop hl (by simp [rec_]), hdone _ _ hE hk⟩
   ·exact ⟨some c, _, run_endLoop hl (by simp [rec_]), hstop c _ _ hE hk⟩
end Go.Proofs.Ytmdcjmackhjchaa.P
end

section
/- Package profile: a ride, tick by tick: its closed form, and the iterator over its speeds. -/
namespace Go.Proofs.Ytmdcjmackhjchaa.P
open Go.RowKit Go.Proofs.YtmdcjmackhjchaaW.PrintWords Go.Proofs.YtmdcjmackhjchaaW.PrintLast Go.Proofs.YtmdcjmackhjchaaW.PrintMore
set_option linter.unusedVariables false
set_option linter.unusedSimpArgs false

/-- The speed and what is left, a tick later. -/
def pnx (lim : Int) (q : Int × Int) : Int × Int := ((pnext q.1 q.2 lim).1, q.2 - (pnext q.1 q.2 lim).1)
def pst (lim : Int) (q : Int × Int) : Nat → Int × Int
 | 0 => q
 | k + 1 => pnx lim (pst lim q k)
/-- The greatest speed of k ticks. -/
def ppk (lim : Int) (q : Int × Int) : Nat → Int
 | 0 => 0
 | k + 1 => max (ppk lim q k) (pst lim q (k + 1)).1
/-- How many ticks it takes, if this many are enough to tell. -/
def pcnt (lim : Int) : Nat → Int × Int → Option Nat
 | 0, _ => none
 | K + 1, q => if q.2 > 0 then (if 0 ≤ q.1 ∧ q.1 ≤ 1000 ∧ q.2 ≤ 1000000 then (pcnt lim K (pnx lim q)).map (· + 1) else none) else some 0

theorem pcnt_lt (lim : Int) : ∀ (K : Nat) (q : Int × Int) (n : Nat), pcnt lim K q = some n → n < K := by
 intro K
 induction K with
 | zero => intro q n h; cases h
 | succ K ih =>
  intro q n h
  rw [pcnt] at h
  by_cases h0 : q.2 > 0
  ·rw [if_pos h0] at h
   by_cases h1 : 0 ≤ q.1 ∧ q.1 ≤ 1000 ∧ q.2 ≤ 1000000
   ·rw [if_pos h1] at h
    obtain ⟨m, hm, rfl⟩ := Option.map_eq_some_iff.mp h
    have := ih _ _ hm
    omega
   ·rw [if_neg h1] at h; cases h
  ·rw [if_neg h0] at h; have := Option.some.inj h; omega
theorem pcnt_mono (lim : Int) : ∀ (K : Nat) (q : Int × Int) (n : Nat), pcnt lim K q = some n → pcnt lim (K + 1) q = some n := by
 intro K
 induction K with
 | zero => intro q n h; cases h
 | succ K ih =>
  intro q n h
  rw [pcnt] at h ⊢
  by_cases h0 : q.2 > 0
  ·rw [if_pos h0] at h ⊢
   by_cases h1 : 0 ≤ q.1 ∧ q.1 ≤ 1000 ∧ q.2 ≤ 1000000
   ·rw [if_pos h1] at h ⊢
    obtain ⟨m, hm, rfl⟩ := Option.map_eq_some_iff.mp h
    rw [ih _ _ hm]; rfl
   ·rw [if_neg h1] at h; cases h
  ·rw [if_neg h0] at h ⊢; exact h
/-- The run that pcnt tells of. -/
theorem pcnt_run (lim : Int) : ∀ (K : Nat) (q : Int × Int) (T : Nat), pcnt lim K q = some T →
  ¬ (pst lim q T).2 > 0 ∧ ∀ k, k < T → (pst lim q k).2 > 0 ∧ (0 ≤ (pst lim q k).1 ∧ (pst lim q k).1 ≤ 1000 ∧ (pst lim q k).2 ≤ 1000000) ∧ pcnt lim K (pst lim q (k + 1)) = some (T - (k + 1)) := by
 intro K
 induction K with
 | zero => intro q T h; cases h
 | succ K ih =>
  intro q T h
  rw [pcnt] at h
  by_cases h0 : q.2 > 0
  ·rw [if_pos h0] at h
   by_cases h1 : 0 ≤ q.1 ∧ q.1 ≤ 1000 ∧ q.2 ≤ 1000000
   ·rw [if_pos h1] at h
    obtain ⟨m, hm, rfl⟩ := Option.map_eq_some_iff.mp h
    have hs : ∀ k, pst lim q (k + 1) = pst lim (pnx lim q) k := by
     intro k
     induction k with
     | zero => rfl
     | succ k ihk => rw [pst, ihk]; rfl
    obtain ⟨g1, g2⟩ := ih (pnx lim q) m hm
    refine ⟨by rw [hs]; exact g1, fun k hk => ?_⟩
    cases k with
    | zero => exact ⟨h0, h1, by rw [hs]; exact pcnt_mono lim K _ _ hm⟩
    | succ k =>
     obtain ⟨q1, q2, q3⟩ := g2 k (by omega)
     rw [hs k, hs (k + 1)]
     exact ⟨q1, q2, by rw [pcnt_mono lim K _ _ q3]; congr 1; omega⟩
   ·rw [if_neg h1] at h; cases h
  ·rw [if_neg h0] at h
   obtain rfl := Option.some.inj h
   exact ⟨h0, fun k hk => by omega⟩

attribute [local go_sem] Oper.semAt_some
theorem ride_calls (n lim : Int) (w : World) :
  Calls Try.prog 61 #[.int .i64 n, .int .i64 lim] w
   fun e w' => e = .returned (.func (.func 65) #[] #[.pointer (some ⟨w.heap.size, 0, none⟩), .pointer (some ⟨w.heap.size + 1, 0, none⟩)]) ∧
    w' = (w.alloc (.cells #[.int .i64 n] 3)).alloc (.cells #[.int .i64 lim] 3) := by
 have hmf : ∀ (fn : Fn) (first cap : Array Value) (w : World), (Instr.makeFunc fn first cap).run Try.prog w = .ok (.func fn first cap) w := fun _ _ _ _ => rfl
 go_enter Try.func61, Try.ntmps61
 go_wp2
 go_ret
 exact ⟨rfl, rfl⟩

set_option maxHeartbeats 4000000 in
theorem ride_ok (lr tn tl : Nat) (n lim : Int) (K T : Nat) (hT : pcnt lim K (0, n) = some T) (J : Nat → World → Prop) (Jx : World → Prop)
  (hJt : ∀ (k : Nat) (W : World), J k W → W.heap[tl]? = some (.cells #[.int .i64 lim] 3) ∧ W.heap[tn]? = some (.cells #[.int .i64 n] 3))
  (hJb : ∀ (k : Nat) (W W' : World), J k W → Below W.heap.size W W' → J k W')
  (hY : ∀ (k : Nat) (W1 : World), k < T → J k W1 → YieldAt Fence.wide 1 Try.prog lr #[.int .i64 (pst lim (0, n) (k + 1)).1] W1
   fun e W' => (e = .returned (.bool true) ∧ J (k + 1) W') ∨ (e = .returned (.bool false) ∧ Jx W'))
  (W : World) (h0 : J 0 W) :
  CallsIn Fence.wide 2 Try.prog 65 #[.func (.yield lr) #[] #[], .pointer (some ⟨tn, 0, none⟩), .pointer (some ⟨tl, 0, none⟩)] W fun e W' => (∃ v, e = .returned v) ∧ (J T W' ∨ Jx W') := by
 have HJT := Aside0.mk hJt
 have HJB := Aside0.mk hJb
 have HY := Aside0.mk hY
 have HR := Aside0.mk (pcnt_run lim K (0, n) T hT)
 have HT := Aside0.mk hT
 have H0 := Aside0.mk h0
 have e0 : W.cell? ⟨tn, 0, none⟩ = some (.int .i64 n) := (blk_cell (hJt 0 W h0).2 0).trans rfl
 clear hY hJb h0 hJt hT
 refine callsIn_of_wp Try.func65 rfl trivial ?_ rfl
 simp only [Try.ntmps65, List.size_toArray, List.length_cons, List.length_nil, Nat.reduceAdd, Nat.reduceSub, Array.replicate_succ, Array.replicate_zero, List.push_toArray, List.append_toArray, List.nil_append, List.cons_append]
 gi_wp2
 gi_loopw [4, 5] (fun v4 v5 wr => ∃ k : Nat, k ≤ T ∧ v4 = .int .i64 (pst lim (0, n) k).1 ∧ v5 = .int .i64 (pst lim (0, n) k).2 ∧ Aside0 (J k wr)) (fun v4 v5 _ => (pcnt lim K (intOf v4, intOf v5)).getD 0)
 case atStart => exact ⟨0, Nat.zero_le _, rfl, rfl, H0⟩
 case round =>
  obtain ⟨k, hk, rfl, rfl, JK⟩ := hrel
  obtain ⟨t1, t2⟩ := HJT.out k wr JK.out
  have r0 : wr.cell? ⟨tl, 0, none⟩ = some (.int .i64 lim) := (blk_cell t1 0).trans rfl
  obtain ⟨a0, a1, ha⟩ : ∃ a0 a1, pst lim (0, n) k = (a0, a1) := ⟨_, _, rfl⟩
  have HM : Aside0 ((pcnt lim K (a0, a1)).getD 0 = T - k) := ⟨by
   rw [← ha]
   cases k with
   | zero => show (pcnt lim K (0, n)).getD 0 = _; rw [HT.out]; rfl
   | succ k => rw [(HR.out.2 k (by omega)).2.2]; rfl⟩
  simp only [ha]
  clear t1 t2
  by_cases hlt : k < T
  ·obtain ⟨q1, q2, q3⟩ := HR.out.2 k hlt
   rw [ha] at q1 q2
   obtain ⟨b0, b1, hb⟩ : ∃ b0 b1, pst lim (0, n) (k + 1) = (b0, b1) := ⟨_, _, rfl⟩
   have hb2 : b0 = (pnext a0 a1 lim).1 ∧ b1 = a1 - b0 := by
    have : pnx lim (pst lim (0, n) k) = (b0, b1) := hb
    rw [ha] at this
    have := Prod.mk.inj this
    exact ⟨this.1.symm, by rw [← this.1, ← this.2]⟩
   have hv : -1 ≤ b0 ∧ b0 ≤ 1001 := by
    rw [hb2.1]; unfold pnext
    dsimp only at q2
    repeat' split
    all_goals dsimp only
    all_goals omega
   have hw : wrap64 (a1 - b0) = b1 := by
    dsimp only at q1 q2
    rw [hb2.2]; exact wsm _ (by omega) (by omega)
   have HN : Aside0 (profile_next.f a0 a1 lim = some (b0, (pnext a0 a1 lim).2)) := ⟨by
    unfold profile_next.f
    dsimp only at q2
    rw [if_pos (by omega), hb2.1]⟩
   have p3 : decide (a1 > 0) = true := decide_eq_true q1
   have hy := fun W => HY.out k W hlt
   simp only [hb] at hy
   rw [hb] at q3
   have HYY := Aside0.mk hy
   have HB := Aside0.mk hb
   have HQ3 := Aside0.mk q3
   clear hy q1 q2 q3 hb hb2 hv ha
   gi_wp2_with (refine ⟨trivial, ?_⟩; gi_at_call 66; refine (callsIn_wide.2 (profile_next.calls _ _ _ _ _ _ HN.out)).mono ?_; rintro e w1 ⟨rfl, hb⟩; obtain ⟨fn, tmps, assign, body, hy, hR⟩ := HYY.out _ (HJB.out _ _ _ JK.out hb))
   refine hR.mono ?_
   rintro e W3 (⟨rfl, hJ3⟩ | ⟨rfl, hx⟩)
   ·have J3 := Aside0.mk hJ3
    clear hJ3 hR hy
    gi_wp2
    rw [hw]
    refine ⟨⟨k + 1, hlt, by rw [HB.out], by rw [HB.out], J3⟩, ?_⟩
    show (pcnt lim K (b0, b1)).getD 0 < (pcnt lim K (a0, a1)).getD 0
    rw [HQ3.out, HM.out]
    show T - (k + 1) < T - k
    omega
   ·gi_wp2
    refine bodyPost_ret (results_none rfl _ _ _) rfl ?_
    exact ⟨⟨_, rfl⟩, .inr hx⟩
  ·obtain rfl : k = T := by omega
   have p3 : decide (a1 > 0) = false := decide_eq_false (by have := HR.out.1; rw [ha] at this; dsimp only at this; omega)
   gi_wp2
   go_end0
   exact ⟨⟨_, rfl⟩, .inl JK.out⟩
end Go.Proofs.Ytmdcjmackhjchaa.P
end

section
/- Package profile: a ride's ticks and its greatest speed: what it answers, and that the Go code comes to just this. -/
namespace Go.Proofs.Ytmdcjmackhjchaa.P
open Go.RowKit Go.Proofs.YtmdcjmackhjchaaW.PrintWords Go.Proofs.YtmdcjmackhjchaaW.PrintLast Go.Proofs.YtmdcjmackhjchaaW.PrintMore
set_option linter.unusedVariables false
set_option linter.unusedSimpArgs false
attribute [local go_sem] Oper.semAt_some max2_int min2_int max_two min_two

def profile_travel.f (a0 : Int) (a1 : Int) : Option (Int × Int) := (pcnt a1 70000 (0, a0)).map (fun T : Nat => ((T : Int), ppk a1 (0, a0) T))
theorem pblk_newN (w : World) (o : Obj) {n : Nat} (h : n = w.heap.size) : (w.alloc o).heap[n]? = some o := by subst h; exact blk_new w o
theorem pkept_putObj (W : World) (l : Nat) (o : Obj) : Kept W (W.putObj l o) (fun k => k = l) := ⟨by simp [World.putObj], fun i _ hn => World.putObj_heap_other hn⟩
theorem pbelow_putObj {n : Nat} {w W : World} (h : Below n w W) (l : Nat) (o : Obj) (hl : n ≤ l) (hn : n ≤ W.heap.size) : Below n w (W.putObj l o) := h.grown (grownBy_putObj' W l o) hn (fun k e => by cases e; omega)
theorem pkept_cell (W : World) (g i : Nat) (u : Value) : Kept W (W.setCell ⟨g, i, none⟩ u) (fun k => k = g) := Kept.setCell (S := fun k => k = g) (p := ⟨g, i, none⟩) (Kept.refl W _) (Or.inl rfl) u

/-- Between the ticks. -/
structure PSt (w : World) (b : Nat) (n lim : Int) (k : Nat) (W : World) : Prop where
 below : Below w.heap.size w W
 size : b + 6 ≤ W.heap.size
 ct : W.heap[b]? = some (.cells #[.int .i64 k] 3)
 cp : W.heap[b + 1]? = some (.cells #[.int .i64 (ppk lim (0, n) k)] 3)
 cn : W.heap[b + 1 + 1]? = some (.cells #[.int .i64 n] 3)
 cl : W.heap[b + 1 + 1 + 1]? = some (.cells #[.int .i64 lim] 3)
variable {w : World} {b : Nat} {n lim : Int} {k : Nat} {W W2 : World}
theorem PSt.kept (h : PSt w b n lim k W) (hk : Kept W W2 (fun k => k = b + 5)) (hbl : Below w.heap.size w W2) : PSt w b n lim k W2 :=
 { below := hbl, size := Nat.le_trans h.size hk.1, ct := blk_kept h.ct hk (by omega), cp := blk_kept h.cp hk (by omega), cn := blk_kept h.cn hk (by omega), cl := blk_kept h.cl hk (by omega) }
theorem PSt.step (h : PSt w b n lim k W) (hk : Below W.heap.size W W2) : PSt w b n lim k W2 := h.kept (Kept.of_below hk _) (below_step h.below hk)
theorem PSt.putl (h : PSt w b n lim k W) (o : Obj) (hb : w.heap.size ≤ b) : PSt w b n lim k (W.putObj (b + 5) o) := h.kept (pkept_putObj _ _ _) (pbelow_putObj h.below _ _ (by omega) h.below.size)
/-- Behind a round. -/
structure PPost (w : World) (b : Nat) (n lim : Int) (k : Nat) (W1 W : World) : Prop where
 st : PSt w b n lim (k + 1) W

set_option maxHeartbeats 4000000 in
theorem profile_travel.calls (a0 : Int) (a1 : Int) (r1 : Int) (r2 : Int) (w : World) (h : profile_travel.f a0 a1 = some (r1, r2)) :
  Calls Try.prog 54 #[.int .i64 a0, .int .i64 a1] w fun e w' => e = .returned (.tuple #[.int .i64 r1, .int .i64 r2]) ∧ Below w.heap.size w w' := by
 obtain ⟨T, hT, hr⟩ := Option.map_eq_some_iff.mp h
 have hlt := pcnt_lt _ _ _ _ hT
 obtain ⟨hr1, hr2⟩ := Prod.mk.inj hr
 subst hr1
 subst hr2
 clear h hr
 refine (callsIn_wide (n := 3)).1 ?_
 refine callsIn_of_wp_marks Try.func54 rfl trivial ?_ rfl
 simp only [Try.ntmps54, List.size_toArray, List.length_cons, List.length_nil, Nat.reduceAdd, Nat.reduceSub, Array.replicate_succ, Array.replicate_zero, List.push_toArray, List.append_toArray, List.nil_append, List.cons_append]
 gi_wp2_with (refine ⟨trivial, ?_⟩; gi_at_call 61; refine (callsIn_wide.2 (ride_calls _ _ _)).mono ?_; rintro e w2 ⟨rfl, hw2⟩)
 have hsz : w2.heap.size = w.heap.size + 4 := by rw [hw2]; simp
 have hSt : ∀ o o2, PSt w w.heap.size a0 a1 0 ((w2.alloc o).alloc o2) := fun o o2 => by
  subst hw2
  exact {
   below := below_alloc (below_alloc (below_alloc (below_alloc (below_alloc (below_alloc (Below.refl _ _) _) _) _) _) _) _
   size := by simp
   ct := blk_alloc (blk_alloc (blk_alloc (blk_alloc (blk_alloc (pblk_newN _ _ (by simp)) _) _) _) _) _
   cp := blk_alloc (blk_alloc (blk_alloc (blk_alloc (pblk_newN _ _ (by simp)) _) _) _) _
   cn := blk_alloc (blk_alloc (blk_alloc (pblk_newN _ _ (by simp)) _) _) _
   cl := blk_alloc (blk_alloc (pblk_newN _ _ (by simp)) _) _ }
 rw [← hw2]
 clear hw2
 refine rf_law (gf := 65) (lb := #[.pointer (some ⟨w.heap.size + 1 + 1, 0, none⟩), .pointer (some ⟨w.heap.size + 1 + 1 + 1, 0, none⟩)]) (encs := fun y : Nat => #[.int .i64 (pst a1 (0, a0) (y + 1)).1]) rfl (by decide) rfl trivial (enters_of Try.func65 (by kernel_rfl) rfl) (fun _ => rfl)
  (fun y W => PSt w w.heap.size a0 a1 y W ∧ y < T)
  (fun y W1 a' W2 => a' = { tmps := #[Value.int .i64 a0, .int .i64 a1, undef, undef, .pointer (some ⟨w.heap.size, 0, none⟩), .pointer (some ⟨w.heap.size + 1, 0, none⟩), .int .i64 (pst a1 (0, a0) (y + 1)).1, .int .i64 a0, .int .i64 a1, .func (.func 65) #[] #[.pointer (some ⟨w.heap.size + 1 + 1, 0, none⟩), .pointer (some ⟨w.heap.size + 1 + 1 + 1, 0, none⟩)], .int .i64 (pst a1 (0, a0) (y + 1)).1, undef, undef, undef, undef, undef, undef, undef], defers := [] } ∧ W2 = W1 ∧ PSt w w.heap.size a0 a1 y W1 ∧ y < T)
  (PPost w w.heap.size a0 a1)
  (fun _ _ _ _ => False) (fun W => PSt w w.heap.size a0 a1 T W) (fun _ _ => False) ?assign ?body ?iter ?done ?stop
 case assign =>
  rintro k W1 K ⟨h1, h4⟩ hK
  gi_wp2
  exact hK _ _ rfl rfl ⟨by simp, rfl, h1, h4⟩
 case body =>
  rintro k W1 a' W2 Rb ⟨rfl, rfl, h1, h4⟩
  have hlr : w2.heap.size + 1 = w.heap.size + 5 := by rw [hsz]
  rw [hlr]
  have hX1 := h1.putl Rb (Nat.le_refl _)
  generalize W2.putObj (w.heap.size + 5) Rb = X at hX1 ⊢
  obtain ⟨p, hp⟩ : ∃ p, p = ppk a1 (0, a0) k := ⟨_, rfl⟩
  obtain ⟨v, hv⟩ : ∃ v, v = (pst a1 (0, a0) (k + 1)).1 := ⟨_, rfl⟩
  have hcp := hX1.cp
  rw [← hp] at hcp
  rw [← hv]
  have i0 : X.cell? ⟨w.heap.size, 0, none⟩ = some (.int .i64 k) := (blk_cell hX1.ct 0).trans rfl
  have if0 : X.frozen? ⟨w.heap.size, 0, none⟩ = false := blk_frozen hX1.ct 0
  have p0 : X.cell? ⟨w.heap.size + 1, 0, none⟩ = some (.int .i64 p) := (blk_cell hcp 0).trans rfl
  have pf0 : X.frozen? ⟨w.heap.size + 1, 0, none⟩ = false := blk_frozen hcp 0
  have hm : ppk a1 (0, a0) (k + 1) = (if p < v then v else p) := by
   rw [ppk, ← hp, ← hv, Int.max_def]
   split <;> split <;> omega
  have HX := Aside0.mk hX1
  have HM := Aside0.mk hm
  clear hSt hX1 h1 hT hp hv hm
  repeat gi_step
  have kY : Kept X (X.setCell ⟨w.heap.size, 0, none⟩ (.int .i64 (k + 1))) (fun j => j = w.heap.size) := pkept_cell _ _ _ _
  have bY : Below w.heap.size w (X.setCell ⟨w.heap.size, 0, none⟩ (.int .i64 (k + 1))) := below_set HX.out.below (Nat.le_refl _)
  have y1 : (X.setCell ⟨w.heap.size, 0, none⟩ (.int .i64 (k + 1))).heap[w.heap.size]? = some (.cells #[.int .i64 (k + 1 : Nat)] 3) := (blk_set HX.out.ct 0 _).trans rfl
  have y2 := blk_kept hcp kY (by omega)
  have y3 := blk_kept HX.out.cn kY (by omega)
  have y4 := blk_kept HX.out.cl kY (by omega)
  have ys := Nat.le_trans HX.out.size kY.1
  generalize X.setCell ⟨w.heap.size, 0, none⟩ (.int .i64 (k + 1)) = Y at kY bY y1 y2 y3 y4 ys ⊢
  have kZ := pkept_cell Y (w.heap.size + 1) 0 (.int .i64 (if p < v then v else p))
  have bZ : Below w.heap.size w (Y.setCell ⟨w.heap.size + 1, 0, none⟩ (.int .i64 (if p < v then v else p))) := below_set bY (by omega)
  have hZ : PSt w w.heap.size a0 a1 (k + 1) (Y.setCell ⟨w.heap.size + 1, 0, none⟩ (.int .i64 (if p < v then v else p))) := {
   below := bZ
   size := Nat.le_trans ys kZ.1
   ct := blk_kept y1 kZ (by omega)
   cp := by rw [HM.out]; exact (blk_set y2 0 _).trans rfl
   cn := blk_kept y3 kZ (by omega)
   cl := blk_kept y4 kZ (by omega) }
  have hXs := HX.out.size
  have e1 : ∀ j, j ≠ w.heap.size → j ≠ w.heap.size + 1 → j < X.heap.size → (Y.setCell ⟨w.heap.size + 1, 0, none⟩ (.int .i64 (if p < v then v else p))).heap[j]? = X.heap[j]? := fun j h1 h2 h3 =>
   (kZ.2 j (Nat.lt_of_lt_of_le h3 kY.1) h2).trans (kY.2 j h3 h1)
  exact ⟨e1 _ (by omega) (by omega) (by omega), e1 _ (by omega) (by omega) (by omega), fun Ra => ⟨hZ.putl Ra (Nat.le_refl _)⟩⟩
 case iter =>
  intro R0 Rs W hW hYY
  rw [hsz] at hYY ⊢
  refine (ride_ok (w.heap.size + 4 + 1) (w.heap.size + 1 + 1) (w.heap.size + 1 + 1 + 1) a0 a1 70000 T hT
   (fun k W => PSt w w.heap.size a0 a1 k W ∧ W.heap[w.heap.size + 4 + 1]? = some R0 ∧ W.heap[w.heap.size + 4]? = some (.deferred (some [])))
   (fun _ => False) ?jt ?jb ?jy W ?j0).mono ?jm
  case jt =>
   rintro k W ⟨h1, _, _⟩
   exact ⟨h1.cl, h1.cn⟩
  case jb =>
   rintro k W W' ⟨h1, h2, h3⟩ hb
   exact ⟨h1.step hb, blk_below h2 hb, blk_below h3 hb⟩
  case jy =>
   rintro k W1 hk ⟨h1, h2, h3⟩
   obtain ⟨fn, tmps, assign, body, hy, hR⟩ := hYY k W1 ⟨h1, hk⟩ h2 h3
   refine ⟨fn, tmps, assign, body, hy, hR.mono ?_⟩
   rintro e W' (⟨rfl, hp, g1, g2⟩ | ⟨rfl, c, hf, _⟩)
   ·exact .inl ⟨rfl, hp.st, g1, g2⟩
   ·exact hf.elim
  case j0 =>
   subst hW
   exact ⟨hSt _ _, pblk_newN _ _ (by simp [hsz]), blk_alloc (pblk_newN _ _ hsz.symm) _⟩
  case jm =>
   rintro e W' ⟨hv, ⟨h1, h2, h3⟩ | hf⟩
   ·exact ⟨hv, h3, .inl ⟨h1, h2⟩⟩
   ·exact hf.elim
 case done =>
  intro W Rx hE hK
  have hlr : w2.heap.size + 1 = w.heap.size + 5 := by rw [hsz]
  rw [hlr, hsz]
  have hP := hE.putl Rx (Nat.le_refl _)
  have hK2 : (W.putObj (w.heap.size + 5) Rx).heap[w.heap.size + 4]? = some (.deferred (some [])) := (World.putObj_heap_other (by omega)).trans (by rw [← hsz]; exact hK)
  generalize W.putObj (w.heap.size + 5) Rx = X at hP hK2 ⊢
  obtain ⟨p, hp⟩ : ∃ p, p = ppk a1 (0, a0) T := ⟨_, rfl⟩
  have hcp := hP.cp
  rw [← hp] at hcp
  have i0 : X.cell? ⟨w.heap.size, 0, none⟩ = some (.int .i64 T) := (blk_cell hP.ct 0).trans rfl
  have if0 : X.frozen? ⟨w.heap.size, 0, none⟩ = false := blk_frozen hP.ct 0
  have p0 : X.cell? ⟨w.heap.size + 1, 0, none⟩ = some (.int .i64 p) := (blk_cell hcp 0).trans rfl
  have pf0 : X.frozen? ⟨w.heap.size + 1, 0, none⟩ = false := blk_frozen hcp 0
  have hcp2 := hcp
  have HP := Aside0.mk hP
  have HK := Aside0.mk hK2
  have HPK := Aside0.mk hp
  clear hSt hP hE hK hK2 hsz hlr hT hp
  repeat gi_step
  gi_region
  have kY : Kept X (X.setCell ⟨w.heap.size, 0, none⟩ (.int .i64 T)) (fun j => j = w.heap.size) := pkept_cell _ _ _ _
  have bY : Below w.heap.size w (X.setCell ⟨w.heap.size, 0, none⟩ (.int .i64 T)) := below_set HP.out.below (Nat.le_refl _)
  have y1 : (X.setCell ⟨w.heap.size, 0, none⟩ (.int .i64 T)).heap[w.heap.size]? = some (.cells #[.int .i64 T] 3) := (blk_set HP.out.ct 0 _).trans rfl
  have y2 := blk_kept hcp2 kY (by omega)
  have y3 := blk_kept HK.out kY (by omega)
  generalize X.setCell ⟨w.heap.size, 0, none⟩ (.int .i64 T) = Y at kY bY y1 y2 y3 ⊢
  have kZ := pkept_cell Y (w.heap.size + 1) 0 (.int .i64 p)
  have bZ : Below w.heap.size w (Y.setCell ⟨w.heap.size + 1, 0, none⟩ (.int .i64 p)) := below_set bY (by omega)
  have z1 := blk_kept y1 kZ (by omega)
  have z2 : (Y.setCell ⟨w.heap.size + 1, 0, none⟩ (.int .i64 p)).heap[w.heap.size + 1]? = some (.cells #[.int .i64 p] 3) := (blk_set y2 0 _).trans rfl
  have z3 := blk_kept y3 kZ (by omega)
  generalize Y.setCell ⟨w.heap.size + 1, 0, none⟩ (.int .i64 p) = Z0 at kZ bZ z1 z2 z3 ⊢
  have bZ := below_drew1 bZ
  have z1 := blk_drew z1
  have z2 := blk_drew z2
  have z3 := blk_drew z3
  generalize Z0.drew = Z at bZ z1 z2 z3 ⊢
  repeat gi_step
  refine ⟨by simp, .inl ⟨_, _, rfl, run_takeDeferred z3, ?_⟩⟩
  have bV := pbelow_putObj bZ (w.heap.size + 4) (.deferred none) (by omega) bZ.size
  have v1 : (Z.putObj (w.heap.size + 4) (.deferred none)).heap[w.heap.size]? = _ := (World.putObj_heap_other (by omega)).trans z1
  have v2 : (Z.putObj (w.heap.size + 4) (.deferred none)).heap[w.heap.size + 1]? = _ := (World.putObj_heap_other (by omega)).trans z2
  generalize Z.putObj (w.heap.size + 4) (.deferred none) = V at bV v1 v2 ⊢
  have g0 : V.cell? ⟨w.heap.size, 0, none⟩ = some (.int .i64 T) := (blk_cell v1 0).trans rfl
  have g1 : V.cell? ⟨w.heap.size + 1, 0, none⟩ = some (.int .i64 p) := (blk_cell v2 0).trans rfl
  exact ⟨.tuple #[.int .i64 T, .int .i64 p], by simp [results, Try.results54, go_sem, g0, g1], by rw [HPK.out], bV⟩
 case stop =>
  intro c W Rx h
  exact h.elim
end Go.Proofs.Ytmdcjmackhjchaa.P
end

section
-- Printed by wip/myprint.py of this repo (over the kit's printer). Not trusted: Lean checks it.
namespace Go.Proofs.Ytmdcjmackhjchaa.P
open Go.RowKit Go.Proofs.YtmdcjmackhjchaaW.PrintWords Go.Proofs.YtmdcjmackhjchaaW.PrintLast Go.Proofs.YtmdcjmackhjchaaW.PrintMore
attribute [local go_sem] cell_same1 cell_some1 ix27_0 ix27_1 ix27_2
attribute [local go_sem] max2_int min2_int max_two min_two max_three min_three max_four min_four   -- for this text's walks alone
set_option linter.unusedVariables false
set_option linter.unusedSimpArgs false

/-! ### profile_Travel: function 43 -/
def profile_Travel.f (a0 : Int) (a1 : Int) : Option (Int × Int) := (profile_limits.f a0 a1).bind fun t135 => (if t135 = true then ((profile_travel.f a0 a1).bind fun bt136 => (some (bt136.1, 0))) else (some (0, 2)))
set_option maxHeartbeats 8000000 in
set_option maxRecDepth 100000 in
theorem profile_Travel.calls (a0 : Int) (a1 : Int) (r1 : Int) (r2 : Int) (w : World) (h : profile_Travel.f a0 a1 = some (r1, r2)) :
  Calls Try.prog 43 #[.int .i64 a0, .int .i64 a1] w fun e w' => e = .returned (.tuple #[.int .i64 r1, .int .i64 r2]) ∧ Below w.heap.size w w' := by
 have HB := Aside0.mk (Below.refl w.heap.size w)
 have H : ((profile_limits.f a0 a1).bind fun t135 => (if t135 = true then ((profile_travel.f a0 a1).bind fun bt136 => (some (bt136.1, 0))) else (some (0, 2)))) = some (r1, r2) := h
 clear h
 replace H := Option.bind_eq_some_iff.mp H
 obtain ⟨t135, A30, H⟩ := H
 replace H : (if t135 = true then ((profile_travel.f a0 a1).bind fun bt136 => (some (bt136.1, 0))) else (some (0, 2))) = some (r1, r2) := H
 have A3 := Aside0.mk A30
 clear A30
 by_cases c4 : t135 = true
 ·as_aux_lemma =>
  subst c4
  have H1 : ((profile_travel.f a0 a1).bind fun bt136 => (some (bt136.1, 0))) = some (r1, r2) := by rw [if_pos rfl] at H; exact H
  clear H
  have H := H1
  clear H1
  replace H := Option.bind_eq_some_iff.mp H
  obtain ⟨⟨t136, t137⟩, A50, H⟩ := H
  replace H : (some (t136, 0)) = some (r1, r2) := H
  have A5 := Aside0.mk A50
  clear A50
  simp only [Option.some.injEq, Prod.mk.injEq] at H
  obtain ⟨rfl, rfl⟩ := H
  go_enter Try.func43, Try.ntmps43
  go_wp2_with (first | ((with_reducible refine gate_callee (f := 53) rfl ?_); refine gsl (some 10) Try.func53 #[.int .i64 a0, .int .i64 a1] ?_; (with_reducible refine (profile_limits.calls a0 a1 true _ A3.out).mono ?_); rintro e w' ⟨rfl, ⟨nd, rfl⟩⟩; refine ⟨_, rfl, ?_⟩) | ((with_reducible refine gate_callee (f := 54) rfl ?_); refine gsl (some 15) Try.func54 #[.int .i64 a0, .int .i64 a1] ?_; (with_reducible refine (profile_travel.calls a0 a1 t136 t137 _ A5.out).mono ?_); rintro e w6 ⟨rfl, hb⟩; refine ⟨_, rfl, ?_⟩; replace HB := Aside0.mk (bst HB.out hb); (try clear hb); (try clear hb2); (try clear hk); (try clear hi)))
  go_ret2
  exact bfin (bel HB.out)
 ·as_aux_lemma =>
  replace c4 := Bool.eq_false_iff.mpr c4
  subst c4
  have H1 : (some (0, 2)) = some (r1, r2) := by rw [if_neg (show ¬ (false = true) by decide)] at H; exact H
  clear H
  have H := H1
  clear H1
  simp only [Option.some.injEq, Prod.mk.injEq] at H
  obtain ⟨rfl, rfl⟩ := H
  go_enter Try.func43, Try.ntmps43
  go_wp2_with (first | ((with_reducible refine gate_callee (f := 53) rfl ?_); refine gsl (some 10) Try.func53 #[.int .i64 a0, .int .i64 a1] ?_; (with_reducible refine (profile_limits.calls a0 a1 false _ A3.out).mono ?_); rintro e w' ⟨rfl, ⟨nd, rfl⟩⟩; refine ⟨_, rfl, ?_⟩))
  go_ret2
  exact bfin (bel HB.out)

end Go.Proofs.Ytmdcjmackhjchaa.P
end
