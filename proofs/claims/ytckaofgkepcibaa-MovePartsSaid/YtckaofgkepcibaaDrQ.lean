/- What a drive's tick computes, in closed form: plain Lean, no program. -/
import Derived.Test.YtckaofgkepcibaaNi
namespace Go.Proofs.Ytckaofgkepcibaa.P
open Go.RowKit Go.Proofs.YtckaofgkepcibaaW.PrintWords Go.Proofs.YtckaofgkepcibaaW.PrintLast Go.Proofs.YtckaofgkepcibaaW.PrintMore
set_option linter.unusedVariables false
set_option linter.unusedSimpArgs false

theorem ptri_succ (v : Int) : ptri (v + 1) = ptri v + (v + 1) := by
  unfold ptri
  rw [show (v + 1) * (v + 1 + 1) = v * (v + 1) + (v + 1) * 2 from by rw [Int.mul_add (v + 1) (v + 1) 1, Int.mul_one, Int.mul_comm v (v + 1), Int.mul_add (v + 1) v 1, Int.mul_one]; omega, Int.add_mul_ediv_right _ _ (by decide)]
theorem ptri_nn (v : Int) (h : -1 ≤ v) : 0 ≤ ptri v := by
  unfold ptri
  by_cases h0 : v = -1
  · subst h0; decide
  · exact Int.ediv_nonneg (Int.mul_nonneg (by omega) (by omega)) (by decide)
/-- The way that is left. -/
def lf (p g : Int) : Int := if p ≤ g then g - p else p - g

/-- The next speed of a drive that can stop. -/
theorem pnext_ok {s L sp : Int} (h0 : 0 ≤ s) (h1 : s ≤ sp) (h2 : 1 ≤ sp) (hL : 1 ≤ L) (ht : ptri (s - 1) ≤ L) :
    ∃ v, pnext s L sp = (v, true) ∧ 1 ≤ v ∧ v ≤ sp ∧ v ≤ L ∧ ptri (v - 1) ≤ L - v ∧ s - 1 ≤ v ∧ v ≤ s + 1 ∧ ptri v ≤ L ∧
      ((v = s + 1) ∨ (v = s ∧ ¬ pok (s + 1) L sp) ∨ (v = s - 1 ∧ ¬ pok (s + 1) L sp ∧ ¬ pok s L sp)) := by
  have fin : ∀ v, 1 ≤ v → ptri v ≤ L → v ≤ L ∧ ptri (v - 1) ≤ L - v := by
    intro v hv hp
    have e := ptri_succ (v - 1)
    rw [show v - 1 + 1 = v from by omega] at e
    have := ptri_nn (v - 1) (by omega)
    omega
  have h11 : ptri 1 = 1 := by decide
  by_cases c1 : pok (s + 1) L sp
  · refine ⟨s + 1, by unfold pnext; rw [if_pos c1], ?_⟩
    obtain ⟨g1, g2, g3⟩ := c1
    have := fin (s + 1) (by omega) g3
    exact ⟨by omega, by omega, this.1, this.2, by omega, by omega, g3, .inl rfl⟩
  · by_cases c2 : pok s L sp
    · have hs : 1 ≤ s := by
        by_cases hs : s = 0
        · subst hs; exact absurd ⟨by omega, by omega, by rw [show (0 : Int) + 1 = 1 from rfl, h11]; exact hL⟩ c1
        · omega
      refine ⟨s, by unfold pnext; rw [if_neg c1, if_pos c2], ?_⟩
      obtain ⟨g1, g2, g3⟩ := c2
      have := fin s hs g3
      exact ⟨by omega, by omega, this.1, this.2, by omega, by omega, g3, .inr (.inl ⟨rfl, c1⟩)⟩
    · have hs : 2 ≤ s := by
        by_cases hs : s = 0
        · subst hs; exact absurd ⟨by omega, by omega, by show ptri 0 ≤ L; rw [show ptri 0 = 0 from by decide]; omega⟩ c2
        · by_cases hs1 : s = 1
          · subst hs1; exact absurd ⟨by omega, by omega, by rw [h11]; exact hL⟩ c2
          · omega
      refine ⟨s - 1, by unfold pnext; rw [if_neg c1, if_neg c2, if_pos ⟨by omega, by omega, ht⟩], ?_⟩
      have := fin (s - 1) (by omega) ht
      exact ⟨by omega, by omega, this.1, this.2, by omega, by omega, ht, .inr (.inr ⟨rfl, c1, c2⟩)⟩

/-- A drive that is valid under a rule. -/
structure DV (sp br p g s part left : Int) : Prop where
  rule : 1 ≤ sp ∧ sp ≤ 20 ∧ 0 ≤ br ∧ br ≤ 1000
  place : 0 ≤ p ∧ p ≤ 63000 ∧ 0 ≤ g ∧ g ≤ 63000
  form : part = 0 ∧ g = p ∧ s = 0 ∧ left = 0 ∨ part = 1 ∧ g ≠ p ∧ s = 0 ∧ 0 < left ∧ left ≤ br ∨ part = 2 ∧ g ≠ p ∧ left = 0 ∧ 0 ≤ s ∧ s ≤ sp ∧ ptri (s - 1) ≤ lf p g ∨ part = 3 ∧ g = p ∧ s = 0 ∧ 0 < left ∧ left ≤ br
/-- A tick of a valid drive. -/
def tk (sp br p g s part left : Int) : Int × Int × Int × Int × Int × Bool :=
  if part = 2 then
    (if (if g < p then p - (pnext s (lf p g) sp).1 else p + (pnext s (lf p g) sp).1) = g then (g, g, 0, (if br = 0 then 0 else 3), br, true)
     else ((if g < p then p - (pnext s (lf p g) sp).1 else p + (pnext s (lf p g) sp).1), g, (pnext s (lf p g) sp).1, 2, left, true))
  else if part = 1 then (p, g, s, (if left - 1 = 0 then 2 else 1), left - 1, false)
  else if part = 3 then (p, g, s, (if left - 1 = 0 then 0 else 3), left - 1, false)
  else (p, g, s, part, left, false)
/-- More than the ticks that it takes. -/
def dms (br p g part left : Int) : Int := if part = 0 then 0 else if part = 3 then left else if part = 2 then lf p g + br + 1 else left + lf p g + br + 1

theorem lf_le {p g : Int} (h : 0 ≤ p ∧ p ≤ 63000 ∧ 0 ≤ g ∧ g ≤ 63000) : 0 ≤ lf p g ∧ lf p g ≤ 63000 ∧ (g ≠ p → 1 ≤ lf p g) := by unfold lf; split <;> omega
theorem tk_ok {sp br p g s part left : Int} (h : DV sp br p g s part left) (hp : part ≠ 0) :
    DV sp br (tk sp br p g s part left).1 (tk sp br p g s part left).2.1 (tk sp br p g s part left).2.2.1 (tk sp br p g s part left).2.2.2.1 (tk sp br p g s part left).2.2.2.2.1 ∧
    0 ≤ dms br (tk sp br p g s part left).1 (tk sp br p g s part left).2.1 (tk sp br p g s part left).2.2.2.1 (tk sp br p g s part left).2.2.2.2.1 ∧
    dms br (tk sp br p g s part left).1 (tk sp br p g s part left).2.1 (tk sp br p g s part left).2.2.2.1 (tk sp br p g s part left).2.2.2.2.1 < dms br p g part left := by
  obtain ⟨hr, hpl, hf⟩ := h
  have hl := lf_le hpl
  rcases hf with ⟨e, _⟩ | ⟨rfl, e2, rfl, e4, e5⟩ | ⟨rfl, e2, rfl, e4, e5, e6⟩ | ⟨rfl, rfl, rfl, e4, e5⟩
  · exact absurd e hp
  · unfold tk
    rw [if_neg (by decide), if_pos rfl]
    dsimp only
    by_cases c : left - 1 = 0
    · rw [if_pos c, c]
      refine ⟨⟨hr, hpl, .inr (.inr (.inl ⟨rfl, e2, rfl, by omega, by omega, by rw [show (0 : Int) - 1 = -1 from rfl, show ptri (-1) = 0 from by decide]; omega⟩))⟩, ?_, ?_⟩
      · unfold dms; rw [if_neg (by decide), if_neg (by decide), if_pos rfl]; omega
      · unfold dms; rw [if_neg (by decide), if_neg (by decide), if_pos rfl, if_neg (by decide), if_neg (by decide), if_neg (by decide)]; omega
    · rw [if_neg c]
      refine ⟨⟨hr, hpl, .inr (.inl ⟨rfl, e2, rfl, by omega, by omega⟩)⟩, ?_, ?_⟩
      · unfold dms; rw [if_neg (by decide), if_neg (by decide), if_neg (by decide)]; omega
      · unfold dms; rw [if_neg (by decide), if_neg (by decide), if_neg (by decide), if_neg (by decide), if_neg (by decide), if_neg (by decide)]; omega
  · obtain ⟨v, hv, v1, v2, v3, v4, v5, v6, v7, _⟩ := pnext_ok e4 e5 hr.1 (hl.2.2 e2) e6
    unfold tk
    rw [if_pos rfl, hv]
    dsimp only
    obtain ⟨q, hq⟩ : ∃ q, q = (if g < p then p - v else p + v) := ⟨_, rfl⟩
    rw [← hq]
    have hq2 : lf q g = lf p g - v ∧ 0 ≤ q ∧ q ≤ 63000 ∧ (q = g ↔ lf p g = v) := by
      by_cases c : g < p
      · have e1 : lf p g = p - g := by unfold lf; rw [if_neg (by omega)]
        rw [if_pos c] at hq
        have e3 : lf q g = q - g := by unfold lf; split <;> omega
        omega
      · have e1 : lf p g = g - p := by unfold lf; rw [if_pos (by omega)]
        rw [if_neg c] at hq
        have e3 : lf q g = g - q := by unfold lf; split <;> omega
        omega
    by_cases c : q = g
    · rw [if_pos c]
      dsimp only
      by_cases cb : br = 0
      · rw [if_pos cb]
        refine ⟨⟨hr, by omega, .inl ⟨rfl, rfl, rfl, cb⟩⟩, ?_, ?_⟩
        · unfold dms; rw [if_pos rfl]; omega
        · unfold dms; rw [if_pos rfl, if_neg (by decide), if_neg (by decide), if_pos rfl]; omega
      · rw [if_neg cb]
        refine ⟨⟨hr, by omega, .inr (.inr (.inr ⟨rfl, rfl, rfl, by omega, by omega⟩))⟩, ?_, ?_⟩
        · unfold dms; rw [if_neg (by decide), if_pos rfl]; omega
        · unfold dms; rw [if_neg (by decide), if_pos rfl, if_neg (by decide), if_neg (by decide), if_pos rfl]; omega
    · rw [if_neg c]
      dsimp only
      refine ⟨⟨hr, by omega, .inr (.inr (.inl ⟨rfl, by omega, rfl, by omega, by omega, by rw [hq2.1]; exact v4⟩))⟩, ?_, ?_⟩
      · unfold dms; rw [if_neg (by decide), if_neg (by decide), if_pos rfl]; omega
      · unfold dms; rw [if_neg (by decide), if_neg (by decide), if_pos rfl, if_neg (by decide), if_neg (by decide), if_pos rfl]; omega
  · unfold tk
    rw [if_neg (by decide), if_neg (by decide), if_pos rfl]
    dsimp only
    by_cases c : left - 1 = 0
    · rw [if_pos c, c]
      refine ⟨⟨hr, hpl, .inl ⟨rfl, rfl, rfl, rfl⟩⟩, ?_, ?_⟩
      · unfold dms; rw [if_pos rfl]; omega
      · unfold dms; rw [if_pos rfl, if_neg (by decide), if_pos rfl]; omega
    · rw [if_neg c]
      refine ⟨⟨hr, hpl, .inr (.inr (.inr ⟨rfl, rfl, rfl, by omega, by omega⟩))⟩, ?_, ?_⟩
      · unfold dms; rw [if_neg (by decide), if_pos rfl]; omega
      · unfold dms; rw [if_neg (by decide), if_pos rfl, if_neg (by decide), if_pos rfl]; omega
theorem mx_lf (p g : Int) (h : 0 ≤ p ∧ p ≤ 63000 ∧ 0 ≤ g ∧ g ≤ 63000) : mx (wrap64 (g - p)) (wrap64 (p - g)) = lf p g := by
  rw [wsm (g - p) (by omega) (by omega), wsm (p - g) (by omega) (by omega)]
  unfold mx lf
  split <;> split <;> omega
theorem limits_ok (L sp : Int) (h : 0 ≤ L ∧ L ≤ 63000) (h2 : 1 ≤ sp ∧ sp ≤ 20) : profile_limits.f L sp = some true := by
  unfold profile_limits.f
  rw [if_pos (by omega), if_pos (by omega), if_pos (by omega), decide_eq_true (by omega)]
theorem Next_ok (k : Nat) {s L sp v : Int} (h : 0 ≤ L ∧ L ≤ 63000) (h2 : 1 ≤ sp ∧ sp ≤ 20) (h0 : 0 ≤ s) (h1 : s ≤ sp) (hv : pnext s L sp = (v, true)) : profile_Next.f (k + 1) s L sp = some (v, 0) := by
  unfold profile_Next.f
  rw [limits_ok L sp h h2, Option.bind_some, if_pos rfl, if_neg (by omega), decide_eq_false (by omega), profile_Next.j0, if_neg (by decide)]
  unfold profile_next.f
  rw [if_pos (by omega), hv, Option.bind_some]
  rfl
theorem tick_eq (k : Nat) {sp br p g s part left : Int} (h : DV sp br p g s part left) (hp : part ≠ 0) : drive_rule_tick.f (k + 1) sp br p g s part left = some (tk sp br p g s part left) := by
  obtain ⟨hr, hpl, hf⟩ := h
  have hl := lf_le hpl
  unfold drive_rule_tick.f
  rcases hf with ⟨e, _⟩ | ⟨rfl, e2, rfl, e4, e5⟩ | ⟨rfl, e2, rfl, e4, e5, e6⟩ | ⟨rfl, rfl, rfl, e4, e5⟩
  · exact absurd e hp
  · rw [if_neg (by decide), if_pos rfl, drive_rule_tick.j1, if_pos (by decide), wsm (left - 1) (by omega) (by omega)]
    by_cases c : left - 1 = 0
    · rw [if_pos c, if_pos rfl]
      unfold tk
      rw [if_neg (by decide), if_pos rfl, if_pos c]
    · rw [if_neg c]
      unfold tk
      rw [if_neg (by decide), if_pos rfl, if_neg c]
  · obtain ⟨v, hv, v1, v2, v3, v4, v5, v6, v7, _⟩ := pnext_ok e4 e5 hr.1 (hl.2.2 e2) e6
    rw [if_pos rfl]
    unfold drive_left.f
    rw [mx_lf p g hpl, Option.bind_some, Next_ok k ⟨hl.1, hl.2.1⟩ ⟨hr.1, hr.2.1⟩ e4 e5 hv, Option.bind_some]
    dsimp only
    have hj : ∀ q : Int, 0 ≤ q ∧ q ≤ 63000 → drive_rule_tick.j0 (k + 1) v sp br q g s 2 0 = some (if q = g then (g, g, 0, (if br = 0 then 0 else 3), br, true) else (q, g, v, 2, 0, true)) := by
      intro q hq
      have hlq := lf_le (p := q) (g := g) ⟨hq.1, hq.2, hpl.2.2⟩
      rw [drive_rule_tick.j0]
      unfold drive_left.f
      rw [mx_lf q g ⟨hq.1, hq.2, hpl.2.2⟩, Option.bind_some]
      by_cases c : q = g
      · subst c
        rw [if_pos (by unfold lf; rw [if_pos (Int.le_refl _)]; omega), if_pos rfl]
        by_cases cb : br = 0
        · rw [if_pos cb, if_pos cb]
        · rw [if_neg cb, if_neg cb]
      · have := hlq.2.2 (fun e => c e.symm)
        rw [if_neg (by omega), if_neg c]
    unfold tk
    rw [if_pos rfl, hv]
    dsimp only
    by_cases c : g < p
    · have e1 : lf p g = p - g := by unfold lf; rw [if_neg (by omega)]
      rw [if_pos c, wsm (p - v) (by omega) (by omega), hj _ (by omega), if_pos c]
    · have e1 : lf p g = g - p := by unfold lf; rw [if_pos (by omega)]
      rw [if_neg c, wsm (p + v) (by omega) (by omega), hj _ (by omega), if_neg c]
  · rw [if_neg (by decide), if_neg (by decide), drive_rule_tick.j1, if_pos (by decide), wsm (left - 1) (by omega) (by omega)]
    by_cases c : left - 1 = 0
    · rw [if_pos c, if_neg (by decide)]
      unfold tk
      rw [if_neg (by decide), if_neg (by decide), if_pos rfl, if_pos c]
    · rw [if_neg c]
      unfold tk
      rw [if_neg (by decide), if_neg (by decide), if_pos rfl, if_neg c]
/-- A valid drive comes to rest. -/
theorem cnt_ok {sp br : Int} : ∀ (m K : Nat) (p g s part left : Int), DV sp br p g s part left → dms br p g part left ≤ m → m < K → ∃ T, T ≤ m ∧ dcnt sp br K (p, g, s, part, left) = some T := by
  intro m
  induction m with
  | zero =>
    intro K p g s part left h hm hK
    obtain ⟨K, rfl⟩ : ∃ K', K = K' + 1 := ⟨K - 1, by omega⟩
    refine ⟨0, Nat.le_refl _, ?_⟩
    rw [dcnt]
    by_cases c : part = 0
    · rw [if_pos c]
    · have := tk_ok h c
      omega
  | succ m ih =>
    intro K p g s part left h hm hK
    obtain ⟨K, rfl⟩ : ∃ K', K = K' + 1 := ⟨K - 1, by omega⟩
    rw [dcnt]
    by_cases c : part = 0
    · exact ⟨0, by omega, by rw [if_pos c]⟩
    · have ht := tk_ok h c
      obtain ⟨T, hT, hc⟩ := ih K _ _ _ _ _ ht.1 (by omega) (by omega)
      refine ⟨T + 1, by omega, ?_⟩
      rw [if_neg c]
      unfold dtick?
      rw [show 20 = 19 + 1 from rfl, tick_eq 19 h c, Option.bind_some, hc]
      rfl
end Go.Proofs.Ytckaofgkepcibaa.P
