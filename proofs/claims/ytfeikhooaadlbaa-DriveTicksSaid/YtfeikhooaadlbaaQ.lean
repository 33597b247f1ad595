/- What the reference computes for drives, in closed form: plain Lean, no program. -/
import Derived.Test.YtfeikhooaadlbaaDrQ
import Derived.Test.YtfeikhooaadlbaaP0tipstaffref13d
import Derived.Test.YtfeikhooaadlbaaP1drive
import Derived.Test.YtfeikhooaadlbaaP1tipstafflaw13
namespace Go.Proofs.Ytfeikhooaadlbaa.P
open Go.RowKit Go.Proofs.YtfeikhooaadlbaaW.PrintWords Go.Proofs.YtfeikhooaadlbaaW.PrintLast Go.Proofs.YtfeikhooaadlbaaW.PrintMore
set_option linter.unusedSimpArgs false
set_option linter.unusedVariables false

theorem awake_true (k : Nat) : q_awake.f (k + 30) = some true := by
  have h : q_awake.f 30 = some true := by decide +kernel
  induction k with
  | zero => exact h
  | succ k ih => exact q_awake.mono _ _ ih

theorem in_eq (a lo hi : Int) : ref_in.f a lo hi = some (decide (lo ≤ a ∧ a ≤ hi)) := by
  unfold ref_in.f
  by_cases h : a ≥ lo
  · rw [if_pos h]
    by_cases h2 : a ≤ hi
    · rw [decide_eq_true h2, decide_eq_true ⟨h, h2⟩]
    · rw [decide_eq_false h2, decide_eq_false (fun q => h2 q.2)]
  · rw [if_neg h, decide_eq_false (fun q => h q.1)]
theorem tri_eq (v : Int) (h : 0 ≤ v) (h2 : v ≤ 2000) : ref_triangle.f v = some (ptri v) := ptri_eq v h h2
theorem nx_hit (k : Nat) {L x : Int} (h : 0 < x) (h2 : x ≤ 2000) (h3 : ptri x ≤ L) : ref_next.l0 (k + 1) L x = some x := by
  rw [ref_next.l0, if_pos h, tri_eq x (by omega) h2, Option.bind_some, if_pos h3]
theorem nx_miss (k : Nat) {L x : Int} (h : 0 < x) (h2 : x ≤ 2000) (h3 : ¬ ptri x ≤ L) : ref_next.l0 (k + 1) L x = ref_next.l0 k L (x - 1) := by
  rw [ref_next.l0, if_pos h, tri_eq x (by omega) h2, Option.bind_some, if_neg h3, wsm (x - 1) (by omega) (by omega)]
theorem next_eq (k : Nat) {s L sp v : Int} (h0 : 0 ≤ s) (h1 : s ≤ sp) (h2 : 1 ≤ sp) (h20 : sp ≤ 20) (v1 : 1 ≤ v) (v7 : ptri v ≤ L) (vsp : v ≤ sp)
    (hc : (v = s + 1) ∨ (v = s ∧ ¬ pok (s + 1) L sp) ∨ (v = s - 1 ∧ ¬ pok (s + 1) L sp ∧ ¬ pok s L sp)) : ref_next.f (k + 3) s L sp = some v := by
  unfold ref_next.f mn
  rw [wsm (s + 1) (by omega) (by omega)]
  rcases hc with rfl | ⟨rfl, c1⟩ | ⟨rfl, c1, c2⟩
  · rw [if_neg (by omega)]
    exact nx_hit (k + 2) (by omega) (by omega) v7
  · by_cases c : sp < v + 1
    · rw [if_pos c, show sp = v from by omega]
      exact nx_hit (k + 2) (by omega) (by omega) v7
    · rw [if_neg c, nx_miss (k + 2) (by omega) (by omega) (fun q => c1 ⟨by omega, by omega, q⟩), show v + 1 - 1 = v from by omega]
      exact nx_hit (k + 1) (by omega) (by omega) v7
  · have m2 : ¬ ptri s ≤ L := fun q => c2 ⟨h0, h1, q⟩
    by_cases c : sp < s + 1
    · rw [if_pos c, show sp = s from by omega, nx_miss (k + 2) (by omega) (by omega) m2]
      exact nx_hit (k + 1) (by omega) (by omega) v7
    · rw [if_neg c, nx_miss (k + 2) (by omega) (by omega) (fun q => c1 ⟨by omega, by omega, q⟩), show s + 1 - 1 = s from by omega, nx_miss (k + 1) (by omega) (by omega) m2]
      exact nx_hit k (by omega) (by omega) v7
theorem left_eq (p g s part left : Int) (h : 0 ≤ p ∧ p ≤ 63000 ∧ 0 ≤ g ∧ g ≤ 63000) : ref_left.f p g s part left = some (lf p g) := by
  unfold ref_left.f mx mn lf
  congr 1
  by_cases c : p < g
  · rw [if_pos c, if_neg (by omega), if_pos (by omega)]; exact wsm _ (by omega) (by omega)
  · by_cases c2 : g < p
    · rw [if_neg c, if_pos c2, if_neg (by omega)]; exact wsm _ (by omega) (by omega)
    · rw [if_neg c, if_neg c2, if_pos (by omega)]; rw [wsm _ (by omega) (by omega)]; omega
theorem step_eq (k : Nat) {sp br p g s part left : Int} (h : DV sp br p g s part left) (hp : part ≠ 0) : ref_step.f (k + 3) p g s part left sp br = some (tk sp br p g s part left) := by
  obtain ⟨hr, hpl, hf⟩ := h
  have hl := lf_le hpl
  unfold ref_step.f
  rw [if_neg hp]
  rcases hf with ⟨e, _⟩ | ⟨rfl, e2, rfl, e4, e5⟩ | ⟨rfl, e2, rfl, e4, e5, e6⟩ | ⟨rfl, rfl, rfl, e4, e5⟩
  · exact absurd e hp
  · rw [if_neg (by decide), wsm (left - 1) (by omega) (by omega)]
    by_cases c : left - 1 = 0
    · rw [if_pos c, ref_step.j0, if_pos (by decide)]
      unfold tk
      rw [if_neg (by decide), if_pos rfl, if_pos c]
    · rw [if_neg c, ref_step.j0, if_neg (by decide), if_neg c]
      unfold tk
      rw [if_neg (by decide), if_pos rfl, if_neg c]
  · obtain ⟨v, hv, v1, v2, v3, v4, v5, v6, v7, v8⟩ := pnext_ok e4 e5 hr.1 (hl.2.2 e2) e6
    rw [if_pos rfl]
    unfold ref_run.f
    rw [left_eq p g s 2 0 hpl, Option.bind_some, next_eq k e4 e5 hr.1 hr.2.1 v1 v7 v2 v8, Option.bind_some]
    have hj : ∀ q : Int, ref_run.j0 (k + 3) br q g v 2 0 = some (if q = g then (g, g, 0, (if br = 0 then 0 else 3), br) else (q, g, v, 2, 0)) := by
      intro q
      rw [show k + 3 = (k + 2) + 1 from rfl, ref_run.j0]
      by_cases c : q = g
      · subst c
        rw [if_pos rfl, if_pos rfl]
        by_cases cb : br = 0
        · rw [if_pos cb, if_pos cb]
        · rw [if_neg cb, if_neg cb]
      · rw [if_neg c, if_neg c]
    unfold tk
    rw [if_pos rfl, hv]
    dsimp only
    by_cases c : g < p
    · have e1 : lf p g = p - g := by unfold lf; rw [if_neg (by omega)]
      rw [if_neg (by omega), wsm (p - v) (by omega) (by omega), hj, Option.bind_some, if_pos c]
      split <;> rfl
    · have e1 : lf p g = g - p := by unfold lf; rw [if_pos (by omega)]
      rw [if_pos (by omega), wsm (p + v) (by omega) (by omega), hj, Option.bind_some, if_neg c]
      split <;> rfl
  · rw [if_neg (by decide), wsm (left - 1) (by omega) (by omega)]
    by_cases c : left - 1 = 0
    · rw [if_pos c, ref_step.j0, if_neg (by decide), if_pos c]
      unfold tk
      rw [if_neg (by decide), if_neg (by decide), if_pos rfl, if_pos c]
    · rw [if_neg c, ref_step.j0, if_neg (by decide), if_neg c]
      unfold tk
      rw [if_neg (by decide), if_neg (by decide), if_pos rfl, if_neg c]
theorem needs_loop {sp br : Int} : ∀ (K : Nat) (p g s part left : Int) (T : Nat) (n : Int) (k : Nat), DV sp br p g s part left → dcnt sp br K (p, g, s, part, left) = some T → 0 ≤ n → n + T ≤ 1000000000 →
    ref_Needs.l0 (k + T + 10) sp br n p g s part left = some (n + T, 0) := by
  intro K
  induction K with
  | zero => intro p g s part left T n k h hT; cases hT
  | succ K ih =>
    intro p g s part left T n k h hT h0 hn
    rw [dcnt] at hT
    by_cases c : part = 0
    · rw [if_pos c] at hT
      obtain rfl := Option.some.inj hT
      rw [show k + 0 + 10 = (k + 9) + 1 from rfl, ref_Needs.l0, if_pos c]
      congr 2
      omega
    · rw [if_neg c] at hT
      unfold dtick? at hT
      rw [show 20 = 19 + 1 from rfl, tick_eq 19 h c, Option.bind_some] at hT
      obtain ⟨m, hm, rfl⟩ := Option.map_eq_some_iff.mp hT
      have ht := tk_ok h c
      rw [show k + (m + 1) + 10 = (k + m + 7 + 3) + 1 from by omega, ref_Needs.l0, if_neg c, step_eq _ h c, Option.bind_some, wsm (n + 1) (by omega) (by omega)]
      have := ih _ _ _ _ _ m (n + 1) k ht.1 hm (by omega) (by omega)
      rw [show k + m + 7 + 3 = k + m + 10 from rfl, this]
      congr 2
      omega
end Go.Proofs.Ytfeikhooaadlbaa.P
