/- What a door's functions compute, in closed form: plain Lean, no program. -/
import Derived.Test.YtmjmdnpenpdmhaaP0door
import Derived.Test.YtmjmdnpenpdmhaaDa
namespace Go.Proofs.Ytmjmdnpenpdmhaa.P
open Go.RowKit Go.Proofs.YtmjmdnpenpdmhaaW.PrintWords Go.Proofs.YtmjmdnpenpdmhaaW.PrintLast Go.Proofs.YtmjmdnpenpdmhaaW.PrintMore
set_option linter.unusedSimpArgs false
set_option linter.unusedVariables false
theorem wsm (x : Int) (h : -1000000000000 ≤ x) (h2 : x ≤ 1000000000000) : wrap64 x = x := by unfold wrap64; omega

/-- A valid rule. -/
abbrev dRule (w dw rt : Int) : Prop := 1 ≤ w ∧ w ≤ 20 ∧ 1 ≤ dw ∧ dw ≤ 50 ∧ 0 ≤ rt ∧ rt ≤ 5
/-- A door whose numbers are in their ranges. -/
abbrev dRange (x l t w dw rt : Int) : Prop := 0 ≤ x ∧ x ≤ w ∧ 0 ≤ l ∧ l ≤ dw ∧ 0 ≤ t ∧ t ≤ rt
/-- A door of the right form. -/
abbrev dForm (p x l t w dw rt : Int) : Prop :=
  (p = 2 ∧ 0 < l ∨ p ≠ 2 ∧ l ≤ 0) ∧ (p = 0 ∧ x = 0 ∧ t = 0 ∨ p = 1 ∧ x < w ∨ p = 2 ∧ x = w ∨ p = 3 ∧ 0 < x ∨ p = 4 ∧ t = rt ∧ 0 < x ∨ p = 5 ∧ 0 < x)
def dchk (p x l t w dw rt : Int) : Int :=
  if dRule w dw rt then (if 0 ≤ p ∧ p ≤ 5 then (if dRange x l t w dw rt then (if dForm p x l t w dw rt then 0 else 3) else 2) else 11) else 2
structure dV (p x l t w dw rt : Int) : Prop where
  rule : dRule w dw rt
  part : 0 ≤ p ∧ p ≤ 5
  range : dRange x l t w dw rt
  form : dForm p x l t w dw rt

theorem dchk_zero {p x l t w dw rt : Int} : dchk p x l t w dw rt = 0 ↔ dV p x l t w dw rt := by
  unfold dchk
  constructor
  · intro h
    by_cases h1 : dRule w dw rt
    · rw [if_pos h1] at h
      by_cases h2 : 0 ≤ p ∧ p ≤ 5
      · rw [if_pos h2] at h
        by_cases h3 : dRange x l t w dw rt
        · rw [if_pos h3] at h
          by_cases h4 : dForm p x l t w dw rt
          · exact ⟨h1, h2, h3, h4⟩
          · rw [if_neg h4] at h; exact absurd h (by decide)
        · rw [if_neg h3] at h; exact absurd h (by decide)
      · rw [if_neg h2] at h; exact absurd h (by decide)
    · rw [if_neg h1] at h; exact absurd h (by decide)
  · intro h
    rw [if_pos h.rule, if_pos h.part, if_pos h.range, if_pos h.form]

theorem Rule_eq (w dw rt : Int) : door_Rule.f w dw rt = some (if dRule w dw rt then 0 else 2) := by
  unfold door_Rule.f
  by_cases h : dRule w dw rt
  · rw [if_pos h]
    repeat' split
    all_goals first | rfl | (exfalso; omega)
  · rw [if_neg h]
    repeat' split
    all_goals first | rfl | (exfalso; omega)

theorem door_Check_eq (k : Nat) (p x l t w dw rt : Int) : door_Check.f (k + 2) p x l t w dw rt = some (dchk p x l t w dw rt) := by
  unfold door_Check.f dchk
  rw [Rule_eq, Option.bind_some]
  by_cases h1 : dRule w dw rt
  · rw [if_pos h1, if_pos rfl, if_pos h1]
    by_cases h2 : 0 ≤ p ∧ p ≤ 5
    · rw [if_pos h2, if_neg (by omega), decide_eq_false (by omega), door_Check.j0, if_neg (by decide)]
      by_cases h3 : dRange x l t w dw rt
      · rw [if_pos h3, if_neg (by omega), if_neg (by omega), if_neg (by omega), if_neg (by omega), if_neg (by omega), decide_eq_false (by omega), door_Check.j1, if_neg (by decide)]
        have e1 : (p == 2) = decide (p = 2) := rfl
        by_cases h4 : dForm p x l t w dw rt
        · rw [if_pos h4]
          by_cases hp : p = 2
          · subst hp
            rw [decide_eq_true (show l > 0 by omega)]
            simp
            omega
          · rw [e1, decide_eq_false hp, decide_eq_false (show ¬ l > 0 by omega), if_neg (by decide)]
            repeat' split
            all_goals first | rfl | (exfalso; omega)
        · rw [if_neg h4]
          by_cases hp : p = 2
          · subst hp
            by_cases hl : l > 0
            · rw [decide_eq_true hl]
              simp
              omega
            · rw [decide_eq_false hl]
              simp
          · rw [e1, decide_eq_false hp]
            by_cases hl : l > 0
            · rw [decide_eq_true hl, if_pos (by decide)]
            · rw [decide_eq_false hl, if_neg (by decide)]
              repeat' split
              all_goals first | rfl | (exfalso; omega)
      · rw [if_neg h3]
        have e : ∀ k, door_Check.j1 (k + 1) true p x l t w dw rt = some 2 := fun k => by rw [door_Check.j1, if_pos rfl]
        repeat' split
        all_goals first | exact e _ | (rw [decide_eq_true (by omega)]; exact e _)
    · rw [if_neg h2]
      have e : ∀ k, door_Check.j0 (k + 1) true p x l t w dw rt = some 11 := fun k => by rw [door_Check.j0, if_pos rfl]
      split
      · exact e _
      · rw [decide_eq_true (by omega)]; exact e _
  · rw [if_neg h1, if_neg (by decide), if_neg h1]

/-- A door after a tick. -/
def dtk (p x l t w dw rt : Int) (o : Bool) : Int × Int × Int × Int :=
  if p = 1 then (if x + 1 = w then (2, x + 1, dw, t) else (1, x + 1, l, t))
  else if p = 2 then (if l - 1 = 0 then (3, x, l - 1, t) else (2, x, l - 1, t))
  else if p = 3 then (if o = true then (if t < rt then (if x = w then (2, x, dw, t + 1) else (1, x, l, t + 1)) else (if x - 1 = 0 then (0, 0, 0, 0) else (4, x - 1, l, t))) else (if x - 1 = 0 then (0, 0, 0, 0) else (3, x - 1, l, t)))
  else if p = 4 then (if x - 1 = 0 then (0, 0, 0, 0) else (4, x - 1, l, t))
  else if p = 5 then (if x - 1 = 0 then (0, 0, 0, 0) else (5, x - 1, l, t))
  else (p, x, l, t)

theorem door_tick_eq (p x l t w dw rt : Int) (o : Bool) (h : dV p x l t w dw rt) : door_tick.f p x l t w dw rt o = some (dtk p x l t w dw rt o) := by
  obtain ⟨h1, h2, h3, h4⟩ := h
  unfold door_tick.f dtkw dtk
  rw [wsm (x + 1) (by omega) (by omega), wsm (l - 1) (by omega) (by omega), wsm (x - 1) (by omega) (by omega), wsm (t + 1) (by omega) (by omega)]

/-- A tick leaves a valid door. -/
theorem dtk_ok {p x l t w dw rt : Int} (o : Bool) (h : dV p x l t w dw rt) : dV (dtk p x l t w dw rt o).1 (dtk p x l t w dw rt o).2.1 (dtk p x l t w dw rt o).2.2.1 (dtk p x l t w dw rt o).2.2.2 w dw rt := by
  obtain ⟨h1, h2, h3, h4⟩ := h
  unfold dtk
  repeat' split
  all_goals refine ⟨h1, ?_, ?_, ?_⟩ <;> dsimp only <;> omega

theorem Worst_in (w dw rt : Int) (h : dRule w dw rt) : wrap64 ((wrap64 ((wrap64 (2 * w)) + dw)) + (wrap64 (rt * (wrap64 ((wrap64 ((wrap64 (2 * w)) - 1)) + dw))))) = 2 * w + dw + rt * (2 * w - 1 + dw) := by
  have b : 0 ≤ rt * (2 * w - 1 + dw) ∧ rt * (2 * w - 1 + dw) ≤ 500 := by
    constructor
    · exact Int.mul_nonneg (by omega) (by omega)
    · exact Int.le_trans (Int.mul_le_mul (show rt ≤ 5 by omega) (show 2 * w - 1 + dw ≤ 100 by omega) (by omega) (by omega)) (by decide)
  rw [wsm (2 * w) (by omega) (by omega), wsm (2 * w + dw) (by omega) (by omega), wsm (2 * w - 1) (by omega) (by omega), wsm (2 * w - 1 + dw) (by omega) (by omega), wsm (rt * (2 * w - 1 + dw)) (by omega) (by omega), wsm _ (by omega) (by omega)]

/-- How many ticks a door takes at least, and at most. -/
def dleast (p x l w dw : Int) : Int := if p = 0 then 0 else if p = 1 then w - x + dw + w else if p = 2 then l + w else x
def dmost (p x l t w dw rt : Int) : Int := if p = 0 then 0 else if p = 1 then w - x + dw + w + (rt - t) * (2 * w - 1 + dw) else if p = 2 then l + w + (rt - t) * (2 * w - 1 + dw) else if p = 3 then x + (rt - t) * (2 * w - 1 + dw) else x

theorem dprod {t w dw rt : Int} (h1 : dRule w dw rt) (h2 : 0 ≤ t) (h3 : t ≤ rt) : 0 ≤ (rt - t) * (2 * w - 1 + dw) ∧ (rt - t) * (2 * w - 1 + dw) ≤ 445 := by
  constructor
  · exact Int.mul_nonneg (by omega) (by omega)
  · exact Int.le_trans (Int.mul_le_mul (show rt - t ≤ 5 by omega) (show 2 * w - 1 + dw ≤ 89 by omega) (by omega) (by omega)) (by decide)
theorem dprod_succ (t w dw rt : Int) : (rt - (t + 1)) * (2 * w - 1 + dw) = (rt - t) * (2 * w - 1 + dw) - (2 * w - 1 + dw) := by
  rw [show rt - (t + 1) = (rt - t) - 1 by omega, Int.sub_mul, Int.one_mul]

theorem dmost_bound {p x l t w dw rt : Int} (h : dV p x l t w dw rt) : 0 ≤ dmost p x l t w dw rt ∧ dmost p x l t w dw rt ≤ 600 ∧ (dmost p x l t w dw rt = 0 ↔ p = 0) := by
  obtain ⟨h1, h2, h3, h4⟩ := h
  have := dprod h1 h3.2.2.2.2.1 h3.2.2.2.2.2
  unfold dmost
  generalize (rt - t) * (2 * w - 1 + dw) = m at this ⊢
  repeat' split
  all_goals omega
theorem dleast_bound {p x l t w dw rt : Int} (h : dV p x l t w dw rt) : 0 ≤ dleast p x l w dw ∧ dleast p x l w dw ≤ 600 ∧ (dleast p x l w dw = 0 ↔ p = 0) := by
  obtain ⟨h1, h2, h3, h4⟩ := h
  unfold dleast
  repeat' split
  all_goals omega

/-- Without an obstruction the least number falls by one. -/
theorem dleast_step {p x l t w dw rt : Int} (h : dV p x l t w dw rt) (hp : p ≠ 0) : dleast (dtk p x l t w dw rt false).1 (dtk p x l t w dw rt false).2.1 (dtk p x l t w dw rt false).2.2.1 w dw = dleast p x l w dw - 1 := by
  obtain ⟨h1, h2, h3, h4⟩ := h
  unfold dtk dleast
  simp only [Bool.false_eq_true, if_false]
  repeat' split
  all_goals first | omega | (dsimp only at * <;> omega)

theorem dmost_eq0 (x l t w dw rt : Int) : dmost 0 x l t w dw rt = 0 := rfl
theorem dmost_eq1 (x l t w dw rt : Int) : dmost 1 x l t w dw rt = w - x + dw + w + (rt - t) * (2 * w - 1 + dw) := rfl
theorem dmost_eq2 (x l t w dw rt : Int) : dmost 2 x l t w dw rt = l + w + (rt - t) * (2 * w - 1 + dw) := rfl
theorem dmost_eq3 (x l t w dw rt : Int) : dmost 3 x l t w dw rt = x + (rt - t) * (2 * w - 1 + dw) := rfl
theorem dmost_eq4 (x l t w dw rt : Int) : dmost 4 x l t w dw rt = x := rfl
theorem dmost_eq5 (x l t w dw rt : Int) : dmost 5 x l t w dw rt = x := rfl
/-- The greatest number of the door after a tick. -/
def dmostT (q : Int × Int × Int × Int) (w dw rt : Int) : Int := dmost q.1 q.2.1 q.2.2.1 q.2.2.2 w dw rt
theorem dmostT_mk (p x l t w dw rt : Int) : dmostT (p, x, l, t) w dw rt = dmost p x l t w dw rt := rfl

/-- The greatest number falls by one, at the worse tick. -/
theorem dmost_step {p x l t w dw rt : Int} (h : dV p x l t w dw rt) (hp : p ≠ 0) :
    (p ≠ 3 → dmostT (dtk p x l t w dw rt false) w dw rt = dmost p x l t w dw rt - 1) ∧
    (p = 3 → dmostT (dtk p x l t w dw rt false) w dw rt ≤ dmost p x l t w dw rt - 1 ∧ dmostT (dtk p x l t w dw rt true) w dw rt ≤ dmost p x l t w dw rt - 1) ∧
    (p = 3 → dmostT (dtk p x l t w dw rt (decide (x = 1 ∧ t < rt))) w dw rt = dmost p x l t w dw rt - 1) := by
  obtain ⟨h1, h2, h3, h4⟩ := h
  have hb := dprod h1 h3.2.2.2.2.1 h3.2.2.2.2.2
  have hs := dprod_succ t w dw rt
  have hz : t = rt → (rt - t) * (2 * w - 1 + dw) = 0 := fun e => by rw [e, Int.sub_self, Int.zero_mul]
  have hq : t < rt → 2 * w - 1 + dw ≤ (rt - t) * (2 * w - 1 + dw) := fun e => by
    have := (dprod h1 (show 0 ≤ t + 1 by omega) (show t + 1 ≤ rt by omega)).1
    rw [hs] at this; omega
  have hf : p = 3 → dtk p x l t w dw rt false = if x - 1 = 0 then (0, 0, 0, 0) else (3, x - 1, l, t) := fun e => by subst e; rfl
  have ht : p = 3 → dtk p x l t w dw rt true = if t < rt then (if x = w then (2, x, dw, t + 1) else (1, x, l, t + 1)) else (if x - 1 = 0 then (0, 0, 0, 0) else (4, x - 1, l, t)) := fun e => by subst e; rfl
  have hm : p = 3 → dmost p x l t w dw rt = x + (rt - t) * (2 * w - 1 + dw) := fun e => by subst e; rfl
  have htt : p = 3 → t < rt → dmostT (dtk p x l t w dw rt true) w dw rt = (rt - t) * (2 * w - 1 + dw) - x + (if x = w then 1 - w + x else 1) := fun e e2 => by
    rw [ht e, if_pos e2]
    split
    · rw [dmostT_mk, dmost_eq2, hs]; omega
    · rw [dmostT_mk, dmost_eq1, hs]; omega
  refine ⟨fun hp3 => ?_, fun hp3 => ⟨?_, ?_⟩, fun hp3 => ?_⟩
  · have h6 : p = 1 ∨ p = 2 ∨ p = 4 ∨ p = 5 := by omega
    rcases h6 with e | e | e | e <;> subst e
    · by_cases hx : x + 1 = w
      · rw [show dtk 1 x l t w dw rt false = (2, x + 1, dw, t) from by unfold dtk; rw [if_pos rfl, if_pos hx], dmostT_mk, dmost_eq2, dmost_eq1]; omega
      · rw [show dtk 1 x l t w dw rt false = (1, x + 1, l, t) from by unfold dtk; rw [if_pos rfl, if_neg hx], dmostT_mk, dmost_eq1, dmost_eq1]; omega
    · by_cases hx : l - 1 = 0
      · rw [show dtk 2 x l t w dw rt false = (3, x, l - 1, t) from by unfold dtk; rw [if_neg (by decide), if_pos rfl, if_pos hx], dmostT_mk, dmost_eq3, dmost_eq2]; omega
      · rw [show dtk 2 x l t w dw rt false = (2, x, l - 1, t) from by unfold dtk; rw [if_neg (by decide), if_pos rfl, if_neg hx], dmostT_mk, dmost_eq2, dmost_eq2]; omega
    · by_cases hx : x - 1 = 0
      · rw [show dtk 4 x l t w dw rt false = (0, 0, 0, 0) from by unfold dtk; rw [if_neg (by decide), if_neg (by decide), if_neg (by decide), if_pos rfl, if_pos hx], dmostT_mk, dmost_eq4, dmost_eq0]; omega
      · rw [show dtk 4 x l t w dw rt false = (4, x - 1, l, t) from by unfold dtk; rw [if_neg (by decide), if_neg (by decide), if_neg (by decide), if_pos rfl, if_neg hx], dmostT_mk, dmost_eq4, dmost_eq4]
    · by_cases hx : x - 1 = 0
      · rw [show dtk 5 x l t w dw rt false = (0, 0, 0, 0) from by unfold dtk; rw [if_neg (by decide), if_neg (by decide), if_neg (by decide), if_neg (by decide), if_pos rfl, if_pos hx], dmostT_mk, dmost_eq5, dmost_eq0]; omega
      · rw [show dtk 5 x l t w dw rt false = (5, x - 1, l, t) from by unfold dtk; rw [if_neg (by decide), if_neg (by decide), if_neg (by decide), if_neg (by decide), if_pos rfl, if_neg hx], dmostT_mk, dmost_eq5, dmost_eq5]
  · rw [hf hp3, hm hp3]
    split
    · rw [dmostT_mk, dmost_eq0]; omega
    · rw [dmostT_mk, dmost_eq3]; omega
  · rw [hm hp3]
    by_cases e2 : t < rt
    · rw [htt hp3 e2]; split <;> omega
    · rw [ht hp3, if_neg e2]
      split
      · rw [dmostT_mk, dmost_eq0]; omega
      · rw [dmostT_mk, dmost_eq4]; omega
  · rw [hm hp3]
    by_cases e2 : x = 1 ∧ t < rt
    · rw [decide_eq_true e2, htt hp3 e2.2]; split <;> omega
    · rw [decide_eq_false e2, hf hp3]
      split
      · rw [dmostT_mk, dmost_eq0]; omega
      · rw [dmostT_mk, dmost_eq3]; omega
end Go.Proofs.Ytmjmdnpenpdmhaa.P
