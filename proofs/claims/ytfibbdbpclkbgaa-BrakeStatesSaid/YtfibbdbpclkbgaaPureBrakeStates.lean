/- In which ticks a brake is open that is released, and applied some ticks later: for every time and every number of ticks. No condition. -/
import Derived.Test.YtfibbdbpclkbgaaLBrakeStates
import Derived.Test.YtfibbdbpclkbgaaQ
namespace Go.Proofs.Ytfibbdbpclkbgaa.Pure
open Go.RowKit Go.Proofs.Ytfibbdbpclkbgaa.P Go.Proofs.YtfibbdbpclkbgaaW.PrintWords Go.Proofs.YtfibbdbpclkbgaaW.PrintLast
set_option linter.unusedSimpArgs false

theorem biter_open (n : Nat) (hn : 1 ≤ n) (j : Nat) : biter j 1 n = if j < n then (1, (n : Int) - j) else (2, 0) := by
  induction j with
  | zero => rw [if_pos (by omega)]; simp [biter]
  | succ j ih =>
    rw [biter, ih]
    by_cases h : j < n
    · rw [if_pos h]
      unfold bstep
      by_cases h2 : j + 1 < n
      · rw [if_pos h2]; simp only [if_true]; rw [if_pos (by omega)]; simp; omega
      · rw [if_neg h2]; simp only [if_true]; rw [if_neg (by omega)]; simp; omega
    · rw [if_neg h, if_neg (by omega)]; rfl
theorem biter_shut (n : Nat) (hn : 1 ≤ n) (j : Nat) : biter j 3 n = if j < n then (3, (n : Int) - j) else (0, 0) := by
  induction j with
  | zero => rw [if_pos (by omega)]; simp [biter]
  | succ j ih =>
    rw [biter, ih]
    by_cases h : j < n
    · rw [if_pos h]
      unfold bstep
      by_cases h2 : j + 1 < n
      · rw [if_pos h2]; simp; rw [if_pos (by omega)]; simp; omega
      · rw [if_neg h2]; simp; rw [if_neg (by omega)]; simp; omega
    · rw [if_neg h, if_neg (by omega)]; rfl
theorem biter_two (j : Nat) : biter j 2 0 = (2, 0) := by
  induction j with
  | zero => rfl
  | succ j ih => rw [biter, ih]; rfl

theorem rd_bseq (k1 k2 : Nat) (s1 l1 s2 l2 : Int) (i : Nat) (h : i < k1 + k2) : rd (bseq k1 s1 l1 ++ bseq k2 s2 l2) (i : Int) = if i < k1 then (biter (i + 1) s1 l1).1 else (biter (i - k1 + 1) s2 l2).1 := by
  unfold rd
  rw [Int.toNat_natCast, List.getD_eq_getElem?_getD]
  by_cases h1 : i < k1
  · rw [if_pos h1, List.getElem?_append_left (by rw [bseq_len]; exact h1)]
    simp [bseq, h1]
  · rw [if_neg h1, List.getElem?_append_right (by rw [bseq_len]; omega), bseq_len]
    simp [bseq, show i - k1 < k2 by omega]

/-- What the list holds at i. -/
def want (n t i : Nat) : Int := if i < n + t then (if i + 1 < n then 1 else 2) else (if i + 1 < 2 * n + t then 3 else 0)
theorem rd_want (n t : Nat) (hn : n ≤ 5) (ht : t ≤ 1000) : ∃ xs, brake_States.f n t = some (xs, 0) ∧ xs.length = 2 * n + t ∧ ∀ i : Nat, i < 2 * n + t → rd xs (i : Int) = want n t i := by
  unfold brake_States.f
  rw [if_neg (by omega), show ((n : Int) + (t : Int)).toNat = n + t from by omega, show ((n : Int)).toNat = n from by omega]
  by_cases h0 : (n : Int) = 0
  · have : n = 0 := by omega
    subst this
    rw [if_pos h0]
    refine ⟨_, rfl, by simp [bseq_len], fun i hi => ?_⟩
    rw [rd_bseq _ _ _ _ _ _ i (by omega), if_pos (by omega)]
    unfold want
    rw [if_pos (by omega), if_neg (by omega), h0, biter_two]
  · rw [if_neg h0]
    refine ⟨_, rfl, by simp [bseq_len]; omega, fun i hi => ?_⟩
    rw [rd_bseq _ _ _ _ _ _ i (by omega)]
    unfold want
    by_cases h1 : i < n + t
    · rw [if_pos h1, if_pos h1, biter_open n (by omega)]
      split <;> rfl
    · rw [if_neg h1, if_neg h1, biter_shut n (by omega)]
      by_cases h2 : i + 1 < 2 * n + t
      · rw [if_pos h2, if_pos (by omega)]
      · rw [if_neg h2, if_neg (by omega)]

theorem states_loop (n t : Nat) (xs : List Int) (hn : n ≤ 5) (ht : t ≤ 1000) (hl : xs.length = 2 * n + t) (hx : ∀ i : Nat, i < 2 * n + t → rd xs (i : Int) = want n t i) (d : Nat) :
    ∀ (k i : Nat), i + d = 2 * n + t → tipstafflaw10_BrakeStates.l0 (k + d + 11) n t xs i = some true := by
  induction d with
  | zero =>
    intro k i hi
    rw [show k + 0 + 11 = (k + 10) + 1 from rfl, tipstafflaw10_BrakeStates.l0, if_neg (by omega), awake_true k]
    rfl
  | succ d ih =>
    intro k i hi
    have e := ih k (i + 1) (by omega)
    have hr := hx i (by omega)
    have hm : mx 0 ((n : Int) - 1) = (n : Int) - 1 ∨ n = 0 ∧ mx 0 ((n : Int) - 1) = 0 := by
      unfold mx
      by_cases h : n = 0
      · right; subst h; exact ⟨rfl, by simp⟩
      · left; split <;> omega
    have hle : ((i : Int) ≥ mx 0 ((n : Int) - 1)) ↔ n ≤ i + 1 := by
      rcases hm with h | ⟨h, h2⟩
      · rw [h]; omega
      · rw [h2]; omega
    rw [show k + (d + 1) + 11 = (k + d + 11) + 1 from by omega, tipstafflaw10_BrakeStates.l0, if_pos (by omega), hr, wsm ((n : Int) - 1) (by omega) (by omega), wsm ((n : Int) + t) (by omega) (by omega), wsm ((i : Int) + 1) (by omega) (by omega), wsm ((xs.length : Int) - 1) (by omega) (by omega)]
    rw [show ((i : Int) + 1) = ((i + 1 : Nat) : Int) from by omega, e]
    unfold want
    by_cases h1 : n ≤ i + 1
    · rw [if_pos (hle.mpr h1), if_pos (by omega)]
      by_cases h2 : i < n + t
      · rw [if_pos h2, if_neg (show ¬ i + 1 < n by omega), decide_eq_true (show (i : Int) < (n : Int) + t by omega), if_neg (by decide), if_pos (by omega)]
      · rw [if_neg h2, decide_eq_false (show ¬ (i : Int) < (n : Int) + t by omega)]
        by_cases h3 : i + 1 < 2 * n + t
        · rw [if_pos h3, if_neg (by decide), if_neg (show ¬ (i : Int) < (n : Int) + t by omega), if_neg (by decide)]
        · rw [if_neg h3, if_neg (by decide), if_neg (show ¬ (i : Int) < (n : Int) + t by omega), if_pos rfl, if_pos (by omega)]
    · rw [if_neg (fun h => h1 (hle.mp h)), if_pos (by omega), if_pos (show i < n + t by omega), if_pos (show i + 1 < n by omega), if_neg (by decide), if_neg (by decide)]

theorem BrakeStates : tipstafflaw10_BrakeStates.Pure := by
  intro a b _ _
  obtain ⟨n, hn, hn0, hn1⟩ := mod_eq a 6 (by omega) (by omega)
  obtain ⟨t, ht, ht0, ht1⟩ := mod_eq b 301 (by omega) (by omega)
  obtain ⟨n, rfl⟩ := Int.eq_ofNat_of_zero_le hn0
  obtain ⟨t, rfl⟩ := Int.eq_ofNat_of_zero_le ht0
  obtain ⟨xs, h1, h2, h3⟩ := rd_want n t (by omega) (by omega)
  obtain ⟨K, hK⟩ : ∃ K, K = 0 + (2 * n + t) + 11 := ⟨_, rfl⟩
  refine ⟨K + 1, ?_⟩
  unfold tipstafflaw10_BrakeStates.f
  rw [hn, ht]
  simp only [Option.bind_some]
  rw [h1, Option.bind_some, if_pos rfl]
  rw [wsm (2 * (n : Int)) (by omega) (by omega), wsm _ (by omega) (by omega), h2, show ((2 * n + t : Nat) : Int) = 2 * (n : Int) + t from by omega, bne_self_eq_false, tipstafflaw10_BrakeStates.j0, if_neg (by simp)]
  have e := states_loop n t xs (by omega) (by omega) h2 h3 (2 * n + t) 0 0 (by omega)
  rw [show ((0 : Nat) : Int) = 0 from rfl, ← hK] at e
  exact e

end Go.Proofs.Ytfibbdbpclkbgaa.Pure
