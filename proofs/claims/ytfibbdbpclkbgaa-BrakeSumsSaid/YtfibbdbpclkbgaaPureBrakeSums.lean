/- Some ticks and more ticks are their sum, and Ends says how many lead to the end: for every time, state, what is left and two numbers of ticks. No condition. -/
import Derived.Test.YtfibbdbpclkbgaaLBrakeSums
import Derived.Test.YtfibbdbpclkbgaaQ
namespace Go.Proofs.Ytfibbdbpclkbgaa.Pure
open Go.RowKit Go.Proofs.Ytfibbdbpclkbgaa.P Go.Proofs.YtfibbdbpclkbgaaW.PrintWords Go.Proofs.YtfibbdbpclkbgaaW.PrintLast
set_option linter.unusedSimpArgs false

theorem biter_left (d : Nat) : ∀ (s l : Int), bok s l → l = d → (biter d s l).2 = 0 := by
  induction d with
  | zero => intro s l h hl; simpa [biter] using hl
  | succ d ih =>
    intro s l h hl
    have hs : s = 1 ∨ s = 3 := by obtain ⟨_, _, _, _, _, _⟩ := h; omega
    rw [biter_succ']
    exact ih _ _ (bok_step s l h) (by rw [bstep_le s l hs]; omega)

theorem sums_j1 (s l n x y : Int) (hc : bchk s l n = 0) : tipstafflaw10_BrakeSums.j1 20 x y n s l = some true := by
  obtain ⟨p, hp, hp0, hp1⟩ := mod_eq x 500 (by omega) (by omega)
  obtain ⟨q, hq, hq0, hq1⟩ := mod_eq y 500 (by omega) (by omega)
  have hok := bok_of s l n hc
  have hl0 : 0 ≤ l := hok.2.2.1
  have hl5 : l ≤ 5 := hok.2.2.2.1
  have hrun : ∀ s' l' t : Int, bchk s' l' n = 0 → 0 ≤ t → t ≤ 1000 → brake_Run.f s' l' n t = some ((biter t.toNat s' l').1, (biter t.toNat s' l').2, 0) := by
    intro s' l' t h h1 h2
    unfold brake_Run.f
    rw [if_neg (show ¬ (bchk s' l' n ≠ 0) by simpa using h), if_neg (by omega)]
  have hkeep : ∀ (k : Nat) (s' l' : Int), bchk s' l' n = 0 → bchk (biter k s' l').1 (biter k s' l').2 n = 0 := by
    intro k
    induction k with
    | zero => intro s' l' h; exact h
    | succ k ih => intro s' l' h; exact chk_step _ _ _ (ih s' l' h)
  rw [tipstafflaw10_BrakeSums.j1, show 19 = 17 + 2 from rfl, brake_Check_eq]
  simp only [Option.bind_some]
  rw [if_pos hc, hp]
  simp only [Option.bind_some]
  rw [hq]
  simp only [Option.bind_some]
  rw [hrun s l p hc hp0 (by omega)]
  simp only [Option.bind_some]
  rw [hrun _ _ q (hkeep _ s l hc) hq0 (by omega), wsm (p + q) (by omega) (by omega), hrun s l (p + q) hc (by omega) (by omega)]
  simp only [Option.bind_some]
  unfold brake_Ends.f
  rw [brake_Check_eq]
  simp only [Option.bind_some]
  rw [if_pos hc, hrun s l l hc hl0 (by omega)]
  simp only [Option.bind_some]
  rw [show mx 0 l = l from by unfold mx; split <;> omega, hrun s l l hc hl0 (by omega)]
  have e1 : (p + q).toNat = p.toNat + q.toNat := by omega
  have e2 : (biter l.toNat s l).2 = 0 := biter_left l.toNat s l hok (by omega)
  have e3 := awake_true 9
  simp only [Option.bind_some, e1, biter_add, beq_self_eq_true, Bool.and_self, if_true, e2, show (17 : Nat) + 2 = 9 + 10 from rfl, e3]

theorem sums_bad (s l n x y : Int) (hn : n = 0) (hc : bchk s l n ≠ 0) : tipstafflaw10_BrakeSums.j1 20 x y n s l = some true := by
  rw [tipstafflaw10_BrakeSums.j1, show 19 = 17 + 2 from rfl, brake_Check_eq]
  simp only [Option.bind_some]
  rw [if_neg hc, if_pos hn, show (17 : Nat) + 2 = 9 + 10 from rfl, awake_true 9]
  rfl

/-- A brake of a state, with what is left where it moves. -/
theorem sums_all (s l n x y : Int) (h : bchk s l n = 0 ∨ n = 0) : tipstafflaw10_BrakeSums.j1 20 x y n s l = some true := by
  by_cases hc : bchk s l n = 0
  · exact sums_j1 s l n x y hc
  · exact sums_bad s l n x y (by omega) hc

theorem BrakeSums : tipstafflaw10_BrakeSums.Pure := by
  intro a b c x y _ _ _ _ _
  refine ⟨21, ?_⟩
  obtain ⟨n, hn, hn0, hn1⟩ := mod_eq a 6 (by omega) (by omega)
  obtain ⟨s, hs, hs0, hs1⟩ := mod_eq b 4 (by omega) (by omega)
  unfold tipstafflaw10_BrakeSums.f
  rw [hn, hs]
  simp only [Option.bind_some, tipstafflaw10_at.f]
  by_cases h0 : n > 0
  · rw [if_pos h0]
    obtain ⟨q, hq, hq0, hq1⟩ := mod_eq c n (by omega) (by omega)
    by_cases h1 : s = 1
    · subst h1
      rw [if_pos rfl, tipstafflaw10_BrakeSums.j0, if_pos rfl, hq]
      simp only [Option.bind_some]
      rw [wsm (1 + q) (by omega) (by omega)]
      exact sums_all 1 (1 + q) n x y (Or.inl (by unfold bchk; simp; omega))
    · rw [if_neg h1]
      by_cases h3 : s = 3
      · subst h3
        rw [tipstafflaw10_BrakeSums.j0, if_pos (by simp), hq]
        simp only [Option.bind_some]
        rw [wsm (1 + q) (by omega) (by omega)]
        exact sums_all 3 (1 + q) n x y (Or.inl (by unfold bchk; simp; omega))
      · rw [beq_eq_false_iff_ne.mpr h3, tipstafflaw10_BrakeSums.j0, if_neg (by simp)]
        have hc : bchk s 0 n = 0 := by
          have : s = 0 ∨ s = 2 := by omega
          unfold bchk
          rcases this with rfl | rfl <;> simp <;> omega
        exact sums_all s 0 n x y (Or.inl hc)
  · rw [if_neg h0, tipstafflaw10_BrakeSums.j0, if_neg (by simp)]
    exact sums_all s 0 n x y (Or.inr (by omega))

end Go.Proofs.Ytfibbdbpclkbgaa.Pure
