/- A cycle that passes by, and the panels of a cycle without an obstruction: plain Lean, no program. -/
import Derived.Test.YtmjmdnpenpdmhaaPp
namespace Go.Proofs.Ytmjmdnpenpdmhaa.P
open Go.RowKit Go.Proofs.YtmjmdnpenpdmhaaW.PrintWords Go.Proofs.YtmjmdnpenpdmhaaW.PrintLast Go.Proofs.YtmjmdnpenpdmhaaW.PrintMore
set_option linter.unusedSimpArgs false
set_option linter.unusedVariables false

def ost (w dw k : Int) : Int × Int × Int × Int :=
  if k < w then (1, k, 0, 0) else if k < w + dw then (2, w, dw - (k - w), 0) else if k < 2 * w + dw then (3, w - (k - w - dw), 0, 0) else (0, 0, 0, 0)
theorem ost_step {w dw rt k : Int} (h : dRule w dw rt) (hk : 0 ≤ k) : dtk (ost w dw k).1 (ost w dw k).2.1 (ost w dw k).2.2.1 (ost w dw k).2.2.2 w dw rt false = ost w dw (k + 1) := by
  obtain ⟨h1, h2, h3, h4, h5⟩ := h
  unfold ost
  by_cases c1 : k < w
  · rw [if_pos c1]
    dsimp only [dtk]
    rw [if_pos rfl]
    by_cases c2 : k + 1 = w
    · rw [if_pos c2, if_neg (by omega), if_pos (by omega), c2, Int.sub_self, Int.sub_zero]
    · rw [if_neg c2, if_pos (by omega)]
  · rw [if_neg c1, if_neg (show ¬ k + 1 < w by omega)]
    by_cases c2 : k < w + dw
    · rw [if_pos c2]
      dsimp only [dtk]
      rw [if_neg (by decide), if_pos rfl]
      by_cases c3 : k + 1 < w + dw
      · rw [if_neg (by omega), if_pos c3, show dw - (k - w) - 1 = dw - (k + 1 - w) by omega]
      · rw [if_pos (by omega), if_neg c3, if_pos (by omega), show dw - (k - w) - 1 = 0 by omega, show w - (k + 1 - w - dw) = w by omega]
    · rw [if_neg c2, if_neg (show ¬ k + 1 < w + dw by omega)]
      by_cases c3 : k < 2 * w + dw
      · rw [if_pos c3]
        dsimp only [dtk]
        rw [if_neg (by decide), if_neg (by decide), if_pos rfl, if_neg (by decide)]
        by_cases c4 : k + 1 < 2 * w + dw
        · rw [if_neg (by omega), if_pos c4, show w - (k - w - dw) - 1 = w - (k + 1 - w - dw) by omega]
        · rw [if_pos (by omega), if_neg c4]
      · rw [if_neg c3, if_neg (by omega)]
        rfl
theorem cst_free {w dw rt : Int} (h : dRule w dw rt) : ∀ k : Nat, cst w dw rt [] 0 false k = ost w dw k
  | 0 => by
    obtain ⟨h1, _⟩ := h
    rw [cst]
    unfold ost
    rw [if_pos (by omega)]
    rfl
  | k + 1 => by
    have e : cst w dw rt [] 0 false (k + 1) = dtk (cst w dw rt [] 0 false k).1 (cst w dw rt [] 0 false k).2.1 (cst w dw rt [] 0 false k).2.2.1 (cst w dw rt [] 0 false k).2.2.2 w dw rt false := by rw [cst]; rfl
    rw [e, cst_free h k, ost_step h (by omega)]
    rfl
/-- The panels of a cycle without an obstruction. -/
theorem free_panel {w dw rt : Int} (h : dRule w dw rt) (k : Nat) : ((cst w dw rt [] 0 false (k + 1)).2.1 = w ↔ (w - 1 ≤ k ∧ (k : Int) < w + dw)) ∧ (2 * w + dw - 1 ≤ (k : Int) → (cst w dw rt [] 0 false (k + 1)).2.1 = 0) := by
  rw [cst_free h]
  obtain ⟨h1, h2, h3, h4, h5⟩ := h
  have e : ((k + 1 : Nat) : Int) = (k : Int) + 1 := by omega
  rw [e]
  unfold ost
  by_cases c1 : (k : Int) + 1 < w
  · rw [if_pos c1]; dsimp only; omega
  · rw [if_neg c1]
    by_cases c2 : (k : Int) + 1 < w + dw
    · rw [if_pos c2]; dsimp only; omega
    · rw [if_neg c2]
      by_cases c3 : (k : Int) + 1 < 2 * w + dw
      · rw [if_pos c3]; dsimp only; omega
      · rw [if_neg c3]; dsimp only; omega
theorem cv_passes {w dw rt : Int} (h : dRule w dw rt) : ∀ k : Nat, (k : Int) ≤ cwst w dw rt → CV 0 0 0 0 k true w dw rt
  | 0, _ => cv_pass h
  | k + 1, hk => by
    have := cv_tick false (cv_passes h k (by omega)) (by omega)
    rw [dtk_zero false rfl] at this
    exact this
theorem PStep_ok {w dw rt : Int} (h : dRule w dw rt) (k : Nat) (hk : (k : Int) < cwst w dw rt) (o : Bool) : cycle_Step.f 9 0 0 0 0 k true w dw rt o = some (0, 0, 0, 0, (k : Int) + 1, true, false, 0) := by
  rw [show (9 : Nat) = 4 + 5 from rfl, cycle_Step_eq]
  unfold cstep
  rw [if_pos (cchk_zero.2 (cv_passes h k (by omega))), if_neg (by omega), dtk_zero o rfl]
  rfl
theorem worst_most {w dw rt : Int} (h : dRule w dw rt) : 2 * w + dw ≤ cwst w dw rt := by
  have b : 0 ≤ rt * (2 * w - 1 + dw) := by obtain ⟨_, _, _, _, _, _⟩ := h; exact Int.mul_nonneg (by omega) (by omega)
  unfold cwst
  omega
end Go.Proofs.Ytmjmdnpenpdmhaa.P
