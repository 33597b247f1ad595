/- Package door: a door after a tick, case by case: what it is, and that the Go code comes to just this. -/
import Derived.Test.YtmjmdnpenpdmhaaP0
namespace Go.Proofs.Ytmjmdnpenpdmhaa.P
open Go.RowKit Go.Proofs.YtmjmdnpenpdmhaaW.PrintWords Go.Proofs.YtmjmdnpenpdmhaaW.PrintLast Go.Proofs.YtmjmdnpenpdmhaaW.PrintMore
set_option linter.unusedVariables false
set_option linter.unusedSimpArgs false

/-- A door after a tick, in the machine's numbers. -/
def dtkw (p x l t wd dw rt : Int) (o : Bool) : Int × Int × Int × Int :=
  if p = 1 then (if wrap64 (x + 1) = wd then (2, wrap64 (x + 1), dw, t) else (1, wrap64 (x + 1), l, t))
  else if p = 2 then (if wrap64 (l - 1) = 0 then (3, x, wrap64 (l - 1), t) else (2, x, wrap64 (l - 1), t))
  else if p = 3 then (if o = true then (if t < rt then (if x = wd then (2, x, dw, wrap64 (t + 1)) else (1, x, l, wrap64 (t + 1))) else (if wrap64 (x - 1) = 0 then (0, 0, 0, 0) else (4, wrap64 (x - 1), l, t))) else (if wrap64 (x - 1) = 0 then (0, 0, 0, 0) else (3, wrap64 (x - 1), l, t)))
  else if p = 4 then (if wrap64 (x - 1) = 0 then (0, 0, 0, 0) else (4, wrap64 (x - 1), l, t))
  else if p = 5 then (if wrap64 (x - 1) = 0 then (0, 0, 0, 0) else (5, wrap64 (x - 1), l, t))
  else (p, x, l, t)
def door_tick.f (a0_0 : Int) (a0_1 : Int) (a0_2 : Int) (a0_3 : Int) (a1_0 : Int) (a1_1 : Int) (a1_2 : Int) (a2 : Bool) : Option (Int × Int × Int × Int) := some (dtkw a0_0 a0_1 a0_2 a0_3 a1_0 a1_1 a1_2 a2)

abbrev tickCalls (p x l t wd dw rt : Int) (o : Bool) (w : World) (q : Int × Int × Int × Int) : Prop :=
  Calls Try.prog 54 #[.agg #[.int .i64 p, .int .i64 x, .int .i64 l, .int .i64 t], .agg #[.int .i64 wd, .int .i64 dw, .int .i64 rt], .bool o] w
    fun e w' => e = .returned (.agg #[.int .i64 q.1, .int .i64 q.2.1, .int .i64 q.2.2.1, .int .i64 q.2.2.2]) ∧ Below w.heap.size w w'

set_option maxHeartbeats 2000000 in
theorem tick_1a (x l t wd dw rt : Int) (o : Bool) (w : World) (h : wrap64 (x + 1) = wd) : tickCalls 1 x l t wd dw rt o w (2, wrap64 (x + 1), dw, t) := by
  have b0 : (wrap64 (x + 1) == wd) = true := beq_iff_eq.mpr h
  go_enter Try.func54, Try.ntmps54
  go_wp2
  go_region
  all_goals go_wp2
  all_goals
    refine bodyPost_ret (v := .agg #[.int .i64 (2), .int .i64 (wrap64 (x + 1)), .int .i64 (dw), .int .i64 (t)]) (by simp [results, Try.results54, go_sem, *]) rfl ⟨rfl, ?_⟩
    repeat first | exact Below.refl _ _ | refine Below.setCell ?_ (by simp <;> omega) _ | refine Below.alloc ?_ (by simp <;> omega) _ | refine Below.drew ?_
set_option maxHeartbeats 2000000 in
theorem tick_1b (x l t wd dw rt : Int) (o : Bool) (w : World) (h : ¬ wrap64 (x + 1) = wd) : tickCalls 1 x l t wd dw rt o w (1, wrap64 (x + 1), l, t) := by
  have b0 : (wrap64 (x + 1) == wd) = false := beq_eq_false_iff_ne.mpr h
  go_enter Try.func54, Try.ntmps54
  go_wp2
  all_goals
    refine bodyPost_ret (v := .agg #[.int .i64 (1), .int .i64 (wrap64 (x + 1)), .int .i64 (l), .int .i64 (t)]) (by simp [results, Try.results54, go_sem, *]) rfl ⟨rfl, ?_⟩
    repeat first | exact Below.refl _ _ | refine Below.setCell ?_ (by simp <;> omega) _ | refine Below.alloc ?_ (by simp <;> omega) _ | refine Below.drew ?_
set_option maxHeartbeats 2000000 in
theorem tick_2a (x l t wd dw rt : Int) (o : Bool) (w : World) (h : wrap64 (l - 1) = 0) : tickCalls 2 x l t wd dw rt o w (3, x, 0, t) := by
  have b0 : (wrap64 (l - 1) == 0) = true := beq_iff_eq.mpr h
  go_enter Try.func54, Try.ntmps54
  go_wp2
  all_goals
    refine bodyPost_ret (v := .agg #[.int .i64 (3), .int .i64 (x), .int .i64 (0), .int .i64 (t)]) (by simp [results, Try.results54, go_sem, *]) rfl ⟨rfl, ?_⟩
    repeat first | exact Below.refl _ _ | refine Below.setCell ?_ (by simp <;> omega) _ | refine Below.alloc ?_ (by simp <;> omega) _ | refine Below.drew ?_
set_option maxHeartbeats 2000000 in
theorem tick_2b (x l t wd dw rt : Int) (o : Bool) (w : World) (h : ¬ wrap64 (l - 1) = 0) : tickCalls 2 x l t wd dw rt o w (2, x, wrap64 (l - 1), t) := by
  have b0 : (wrap64 (l - 1) == 0) = false := beq_eq_false_iff_ne.mpr h
  go_enter Try.func54, Try.ntmps54
  go_wp2
  all_goals
    refine bodyPost_ret (v := .agg #[.int .i64 (2), .int .i64 (x), .int .i64 (wrap64 (l - 1)), .int .i64 (t)]) (by simp [results, Try.results54, go_sem, *]) rfl ⟨rfl, ?_⟩
    repeat first | exact Below.refl _ _ | refine Below.setCell ?_ (by simp <;> omega) _ | refine Below.alloc ?_ (by simp <;> omega) _ | refine Below.drew ?_
set_option maxHeartbeats 2000000 in
theorem tick_3a (x l t wd dw rt : Int) (w : World) (h : t < rt) (h2 : x = wd) : tickCalls 3 x l t wd dw rt true w (2, x, dw, wrap64 (t + 1)) := by
  have b0 : (decide (t < rt)) = true := decide_eq_true h
  have b1 : (x == wd) = true := beq_iff_eq.mpr h2
  go_enter Try.func54, Try.ntmps54
  go_wp2
  go_region
  all_goals go_wp2
  all_goals
    refine bodyPost_ret (v := .agg #[.int .i64 (2), .int .i64 (x), .int .i64 (dw), .int .i64 (wrap64 (t + 1))]) (by simp [results, Try.results54, go_sem, *]) rfl ⟨rfl, ?_⟩
    repeat first | exact Below.refl _ _ | refine Below.setCell ?_ (by simp <;> omega) _ | refine Below.alloc ?_ (by simp <;> omega) _ | refine Below.drew ?_
set_option maxHeartbeats 2000000 in
theorem tick_3b (x l t wd dw rt : Int) (w : World) (h : t < rt) (h2 : ¬ x = wd) : tickCalls 3 x l t wd dw rt true w (1, x, l, wrap64 (t + 1)) := by
  have b0 : (decide (t < rt)) = true := decide_eq_true h
  have b1 : (x == wd) = false := beq_eq_false_iff_ne.mpr h2
  go_enter Try.func54, Try.ntmps54
  go_wp2
  all_goals
    refine bodyPost_ret (v := .agg #[.int .i64 (1), .int .i64 (x), .int .i64 (l), .int .i64 (wrap64 (t + 1))]) (by simp [results, Try.results54, go_sem, *]) rfl ⟨rfl, ?_⟩
    repeat first | exact Below.refl _ _ | refine Below.setCell ?_ (by simp <;> omega) _ | refine Below.alloc ?_ (by simp <;> omega) _ | refine Below.drew ?_
set_option maxHeartbeats 2000000 in
theorem tick_3c (x l t wd dw rt : Int) (w : World) (h : ¬ t < rt) (h2 : wrap64 (x - 1) = 0) : tickCalls 3 x l t wd dw rt true w (0, 0, 0, 0) := by
  have b0 : (decide (t < rt)) = false := decide_eq_false h
  have b1 : (wrap64 (x - 1) == 0) = true := beq_iff_eq.mpr h2
  go_enter Try.func54, Try.ntmps54
  go_wp2
  all_goals
    refine bodyPost_ret (v := .agg #[.int .i64 (0), .int .i64 (0), .int .i64 (0), .int .i64 (0)]) (by simp [results, Try.results54, go_sem, *]) rfl ⟨rfl, ?_⟩
    repeat first | exact Below.refl _ _ | refine Below.setCell ?_ (by simp <;> omega) _ | refine Below.alloc ?_ (by simp <;> omega) _ | refine Below.drew ?_
set_option maxHeartbeats 2000000 in
theorem tick_3d (x l t wd dw rt : Int) (w : World) (h : ¬ t < rt) (h2 : ¬ wrap64 (x - 1) = 0) : tickCalls 3 x l t wd dw rt true w (4, wrap64 (x - 1), l, t) := by
  have b0 : (decide (t < rt)) = false := decide_eq_false h
  have b1 : (wrap64 (x - 1) == 0) = false := beq_eq_false_iff_ne.mpr h2
  go_enter Try.func54, Try.ntmps54
  go_wp2
  all_goals
    refine bodyPost_ret (v := .agg #[.int .i64 (4), .int .i64 (wrap64 (x - 1)), .int .i64 (l), .int .i64 (t)]) (by simp [results, Try.results54, go_sem, *]) rfl ⟨rfl, ?_⟩
    repeat first | exact Below.refl _ _ | refine Below.setCell ?_ (by simp <;> omega) _ | refine Below.alloc ?_ (by simp <;> omega) _ | refine Below.drew ?_
set_option maxHeartbeats 2000000 in
theorem tick_3e (x l t wd dw rt : Int) (w : World) (h2 : wrap64 (x - 1) = 0) : tickCalls 3 x l t wd dw rt false w (0, 0, 0, 0) := by
  have b0 : (wrap64 (x - 1) == 0) = true := beq_iff_eq.mpr h2
  go_enter Try.func54, Try.ntmps54
  go_wp2
  all_goals
    refine bodyPost_ret (v := .agg #[.int .i64 (0), .int .i64 (0), .int .i64 (0), .int .i64 (0)]) (by simp [results, Try.results54, go_sem, *]) rfl ⟨rfl, ?_⟩
    repeat first | exact Below.refl _ _ | refine Below.setCell ?_ (by simp <;> omega) _ | refine Below.alloc ?_ (by simp <;> omega) _ | refine Below.drew ?_
set_option maxHeartbeats 2000000 in
theorem tick_3f (x l t wd dw rt : Int) (w : World) (h2 : ¬ wrap64 (x - 1) = 0) : tickCalls 3 x l t wd dw rt false w (3, wrap64 (x - 1), l, t) := by
  have b0 : (wrap64 (x - 1) == 0) = false := beq_eq_false_iff_ne.mpr h2
  go_enter Try.func54, Try.ntmps54
  go_wp2
  all_goals
    refine bodyPost_ret (v := .agg #[.int .i64 (3), .int .i64 (wrap64 (x - 1)), .int .i64 (l), .int .i64 (t)]) (by simp [results, Try.results54, go_sem, *]) rfl ⟨rfl, ?_⟩
    repeat first | exact Below.refl _ _ | refine Below.setCell ?_ (by simp <;> omega) _ | refine Below.alloc ?_ (by simp <;> omega) _ | refine Below.drew ?_
set_option maxHeartbeats 2000000 in
theorem tick_4a (x l t wd dw rt : Int) (o : Bool) (w : World) (h2 : wrap64 (x - 1) = 0) : tickCalls 4 x l t wd dw rt o w (0, 0, 0, 0) := by
  have b0 : (wrap64 (x - 1) == 0) = true := beq_iff_eq.mpr h2
  go_enter Try.func54, Try.ntmps54
  go_wp2
  all_goals
    refine bodyPost_ret (v := .agg #[.int .i64 (0), .int .i64 (0), .int .i64 (0), .int .i64 (0)]) (by simp [results, Try.results54, go_sem, *]) rfl ⟨rfl, ?_⟩
    repeat first | exact Below.refl _ _ | refine Below.setCell ?_ (by simp <;> omega) _ | refine Below.alloc ?_ (by simp <;> omega) _ | refine Below.drew ?_
set_option maxHeartbeats 2000000 in
theorem tick_4b (x l t wd dw rt : Int) (o : Bool) (w : World) (h2 : ¬ wrap64 (x - 1) = 0) : tickCalls 4 x l t wd dw rt o w (4, wrap64 (x - 1), l, t) := by
  have b0 : (wrap64 (x - 1) == 0) = false := beq_eq_false_iff_ne.mpr h2
  go_enter Try.func54, Try.ntmps54
  go_wp2
  all_goals
    refine bodyPost_ret (v := .agg #[.int .i64 (4), .int .i64 (wrap64 (x - 1)), .int .i64 (l), .int .i64 (t)]) (by simp [results, Try.results54, go_sem, *]) rfl ⟨rfl, ?_⟩
    repeat first | exact Below.refl _ _ | refine Below.setCell ?_ (by simp <;> omega) _ | refine Below.alloc ?_ (by simp <;> omega) _ | refine Below.drew ?_
set_option maxHeartbeats 2000000 in
theorem tick_5a (x l t wd dw rt : Int) (o : Bool) (w : World) (h2 : wrap64 (x - 1) = 0) : tickCalls 5 x l t wd dw rt o w (0, 0, 0, 0) := by
  have b0 : (wrap64 (x - 1) == 0) = true := beq_iff_eq.mpr h2
  go_enter Try.func54, Try.ntmps54
  go_wp2
  all_goals
    refine bodyPost_ret (v := .agg #[.int .i64 (0), .int .i64 (0), .int .i64 (0), .int .i64 (0)]) (by simp [results, Try.results54, go_sem, *]) rfl ⟨rfl, ?_⟩
    repeat first | exact Below.refl _ _ | refine Below.setCell ?_ (by simp <;> omega) _ | refine Below.alloc ?_ (by simp <;> omega) _ | refine Below.drew ?_
set_option maxHeartbeats 2000000 in
theorem tick_5b (x l t wd dw rt : Int) (o : Bool) (w : World) (h2 : ¬ wrap64 (x - 1) = 0) : tickCalls 5 x l t wd dw rt o w (5, wrap64 (x - 1), l, t) := by
  have b0 : (wrap64 (x - 1) == 0) = false := beq_eq_false_iff_ne.mpr h2
  go_enter Try.func54, Try.ntmps54
  go_wp2
  all_goals
    refine bodyPost_ret (v := .agg #[.int .i64 (5), .int .i64 (wrap64 (x - 1)), .int .i64 (l), .int .i64 (t)]) (by simp [results, Try.results54, go_sem, *]) rfl ⟨rfl, ?_⟩
    repeat first | exact Below.refl _ _ | refine Below.setCell ?_ (by simp <;> omega) _ | refine Below.alloc ?_ (by simp <;> omega) _ | refine Below.drew ?_
set_option maxHeartbeats 2000000 in
theorem tick_0 (p x l t wd dw rt : Int) (o : Bool) (w : World) (h1 : p ≠ 1) (h2 : p ≠ 2) (h3 : p ≠ 3) (h4 : p ≠ 4) (h5 : p ≠ 5) : tickCalls p x l t wd dw rt o w (p, x, l, t) := by
  have b0 : (p == 1) = false := beq_eq_false_iff_ne.mpr h1
  have b1 : (p == 2) = false := beq_eq_false_iff_ne.mpr h2
  have b2 : (p == 3) = false := beq_eq_false_iff_ne.mpr h3
  have b3 : (p == 4) = false := beq_eq_false_iff_ne.mpr h4
  have b4 : (p == 5) = false := beq_eq_false_iff_ne.mpr h5
  go_enter Try.func54, Try.ntmps54
  go_wp2
  all_goals
    refine bodyPost_ret (v := .agg #[.int .i64 (p), .int .i64 (x), .int .i64 (l), .int .i64 (t)]) (by simp [results, Try.results54, go_sem, *]) rfl ⟨rfl, ?_⟩
    repeat first | exact Below.refl _ _ | refine Below.setCell ?_ (by simp <;> omega) _ | refine Below.alloc ?_ (by simp <;> omega) _ | refine Below.drew ?_

theorem door_tick.calls (a0_0 : Int) (a0_1 : Int) (a0_2 : Int) (a0_3 : Int) (a1_0 : Int) (a1_1 : Int) (a1_2 : Int) (a2 : Bool) (r1 : Int) (r2 : Int) (r3 : Int) (r4 : Int) (w : World) (h : door_tick.f a0_0 a0_1 a0_2 a0_3 a1_0 a1_1 a1_2 a2 = some (r1, r2, r3, r4)) :
    Calls Try.prog 54 #[.agg #[.int .i64 a0_0, .int .i64 a0_1, .int .i64 a0_2, .int .i64 a0_3], .agg #[.int .i64 a1_0, .int .i64 a1_1, .int .i64 a1_2], .bool a2] w fun e w' => e = .returned (.agg #[.int .i64 r1, .int .i64 r2, .int .i64 r3, .int .i64 r4]) ∧ Below w.heap.size w w' := by
  have h' : dtkw a0_0 a0_1 a0_2 a0_3 a1_0 a1_1 a1_2 a2 = (r1, r2, r3, r4) := Option.some.inj h
  clear h
  have key : tickCalls a0_0 a0_1 a0_2 a0_3 a1_0 a1_1 a1_2 a2 w (r1, r2, r3, r4) := by
    rw [← h']
    clear h'
    unfold dtkw
    by_cases p1 : a0_0 = 1
    · subst p1
      rw [if_pos rfl]
      split
      · exact tick_1a _ _ _ _ _ _ _ _ ‹_›
      · exact tick_1b _ _ _ _ _ _ _ _ ‹_›
    rw [if_neg p1]
    by_cases p2 : a0_0 = 2
    · subst p2
      rw [if_pos rfl]
      split
      · rename_i h; rw [h]; exact tick_2a _ _ _ _ _ _ _ _ h
      · exact tick_2b _ _ _ _ _ _ _ _ ‹_›
    rw [if_neg p2]
    by_cases p3 : a0_0 = 3
    · subst p3
      rw [if_pos rfl]
      cases a2
      · rw [if_neg (by decide)]
        split
        · exact tick_3e _ _ _ _ _ _ _ ‹_›
        · exact tick_3f _ _ _ _ _ _ _ ‹_›
      · rw [if_pos rfl]
        by_cases q : a0_3 < a1_2
        · rw [if_pos q]
          split
          · exact tick_3a _ _ _ _ _ _ _ q ‹_›
          · exact tick_3b _ _ _ _ _ _ _ q ‹_›
        · rw [if_neg q]
          split
          · exact tick_3c _ _ _ _ _ _ _ q ‹_›
          · exact tick_3d _ _ _ _ _ _ _ q ‹_›
    rw [if_neg p3]
    by_cases p4 : a0_0 = 4
    · subst p4
      rw [if_pos rfl]
      split
      · exact tick_4a _ _ _ _ _ _ _ _ ‹_›
      · exact tick_4b _ _ _ _ _ _ _ _ ‹_›
    rw [if_neg p4]
    by_cases p5 : a0_0 = 5
    · subst p5
      rw [if_pos rfl]
      split
      · exact tick_5a _ _ _ _ _ _ _ _ ‹_›
      · exact tick_5b _ _ _ _ _ _ _ _ ‹_›
    rw [if_neg p5]
    exact tick_0 _ _ _ _ _ _ _ _ _ p1 p2 p3 p4 p5
  exact key
end Go.Proofs.Ytmjmdnpenpdmhaa.P
