/- A brake stays valid, whatever it is told, and an order that is refused is one that its state refuses: for every time and every list of orders. No condition. -/
import Derived.Test.YtfibbdbpclkbgaaLBrakeValid
import Derived.Test.YtfibbdbpclkbgaaQ
namespace Go.Proofs.Ytfibbdbpclkbgaa.Pure
open Go.RowKit Go.Proofs.Ytfibbdbpclkbgaa.P Go.Proofs.YtfibbdbpclkbgaaW.PrintWords Go.Proofs.YtfibbdbpclkbgaaW.PrintLast
set_option linter.unusedSimpArgs false

/-- What an order leads to: a valid brake, or the refusal by a state. -/
theorem order_release (s l n : Int) (h : bchk s l n = 0) : ∃ x y e, brake_Release.f s l n = some (x, y, e) ∧ (e = 0 ∧ bchk x y n = 0 ∨ e = 9 ∧ s ≠ 0) := by
  obtain ⟨h1, h2, h3⟩ := of_bchk s l n h
  unfold brake_Release.f brake_turned.f
  rw [if_neg (show ¬ (bchk s l n ≠ 0) by simpa using h)]
  by_cases hs : s = 0
  · rw [if_neg (by simpa using hs)]
    by_cases hn : n = 0
    · rw [if_pos hn]; exact ⟨_, _, _, rfl, Or.inl ⟨rfl, bchk_of _ _ _ h1 h2 (by simp; omega)⟩⟩
    · rw [if_neg hn]; exact ⟨_, _, _, rfl, Or.inl ⟨rfl, bchk_of _ _ _ h1 h2 (by simp; omega)⟩⟩
  · rw [if_pos hs]; exact ⟨_, _, _, rfl, Or.inr ⟨rfl, hs⟩⟩
theorem order_apply (s l n : Int) (h : bchk s l n = 0) : ∃ x y e, brake_Apply.f s l n = some (x, y, e) ∧ (e = 0 ∧ bchk x y n = 0 ∨ e = 9 ∧ s ≠ 2) := by
  obtain ⟨h1, h2, h3⟩ := of_bchk s l n h
  unfold brake_Apply.f brake_turned.f
  rw [if_neg (show ¬ (bchk s l n ≠ 0) by simpa using h)]
  by_cases hs : s = 2
  · rw [if_neg (by simpa using hs)]
    by_cases hn : n = 0
    · rw [if_pos hn]; exact ⟨_, _, _, rfl, Or.inl ⟨rfl, bchk_of _ _ _ h1 h2 (by simp; omega)⟩⟩
    · rw [if_neg hn]; exact ⟨_, _, _, rfl, Or.inl ⟨rfl, bchk_of _ _ _ h1 h2 (by simp; omega)⟩⟩
  · rw [if_pos hs]; exact ⟨_, _, _, rfl, Or.inr ⟨rfl, hs⟩⟩
theorem order_step (s l n : Int) (h : bchk s l n = 0) : ∃ x y, brake_Step.f s l n = some (x, y, 0) ∧ bchk x y n = 0 := by
  unfold brake_Step.f brake_Run.f
  rw [if_neg (show ¬ (bchk s l n ≠ 0) by simpa using h), if_neg (by omega)]
  exact ⟨_, _, rfl, chk_step s l n h⟩

theorem valid_loop (xs : List Int) (n : Int) (hn : 0 ≤ n) (hn5 : n ≤ 5) (d : Nat) : ∀ (k i : Nat) (s l : Int), bchk s l n = 0 → i + d = 31 → tipstafflaw10_BrakeValid.l0 (k + 5 * d + 20) xs n i s l = some true := by
  induction d with
  | zero =>
    intro k i s l h hi
    have : i = 31 := by omega
    subst this
    have e := awake_true (k + 8)
    rw [show k + 5 * 0 + 20 = (k + 18) + 1 + 1 from rfl, tipstafflaw10_BrakeValid.l0]
    split
    · rw [decide_eq_false (by omega), tipstafflaw10_BrakeValid.j1, if_neg (by decide), show k + 18 = k + 8 + 10 from rfl, e]; rfl
    · rw [tipstafflaw10_BrakeValid.j1, if_neg (by decide), show k + 18 = k + 8 + 10 from rfl, e]; rfl
  | succ d ih =>
    intro k i s l h hi
    have e := awake_true (k + 5 * d + 13)
    rw [show k + 5 * (d + 1) + 20 = (k + 5 * d + 23) + 1 + 1 from by omega, tipstafflaw10_BrakeValid.l0]
    by_cases hlt : (i : Int) < xs.length
    · rw [if_pos hlt]
      by_cases h30 : (i : Int) < 30
      · rw [decide_eq_true h30, tipstafflaw10_BrakeValid.j1, if_pos rfl, if_pos (by omega), if_pos hlt]
        obtain ⟨q, hq, hq0, hq1⟩ := mod_eq (rd xs i) 5 (by omega) (by omega)
        rw [hq]
        simp only [Option.bind_some]
        have go : ∀ (x y : Int), bchk x y n = 0 → tipstafflaw10_BrakeValid.l0 (k + 5 * d + 22) xs n (wrap64 ((i : Int) + 1)) x y = some true := by
          intro x y hxy
          rw [wsm _ (by omega) (by omega), show (i : Int) + 1 = ((i + 1 : Nat) : Int) from by omega, show k + 5 * d + 22 = (k + 2) + 5 * d + 20 from by omega]
          exact ih (k + 2) (i + 1) x y hxy (by omega)
        have go1 : ∀ (x y : Int), bchk x y n = 0 → tipstafflaw10_BrakeValid.l0 (k + 5 * d + 21) xs n (wrap64 ((i : Int) + 1)) x y = some true := by
          intro x y hxy
          rw [wsm _ (by omega) (by omega), show (i : Int) + 1 = ((i + 1 : Nat) : Int) from by omega, show k + 5 * d + 21 = (k + 1) + 5 * d + 20 from by omega]
          exact ih (k + 1) (i + 1) x y hxy (by omega)
        have good : ∀ (q x y : Int), bchk x y n = 0 → tipstafflaw10_BrakeValid.j2 (k + 5 * d + 23) xs n i 0 q s l x y = some true := by
          intro q x y hxy
          rw [tipstafflaw10_BrakeValid.j2, if_pos rfl, show k + 5 * d + 22 = (k + 5 * d + 20) + 2 from rfl, brake_Check_eq]
          simp only [Option.bind_some]
          rw [if_pos hxy]
          exact go x y hxy
        have next : tipstafflaw10_BrakeValid.j3 (k + 5 * d + 22) xs n i false s l = some true := by
          rw [tipstafflaw10_BrakeValid.j3, if_neg (by decide)]
          exact go1 s l h
        by_cases q0 : q = 0
        · subst q0
          rw [if_pos rfl]
          obtain ⟨x, y, e, hx, hxy⟩ := order_release s l n h
          rw [hx]
          simp only [Option.bind_some]
          rcases hxy with ⟨rfl, hxy⟩ | ⟨rfl, hs⟩
          · exact good 0 x y hxy
          · rw [tipstafflaw10_BrakeValid.j2, if_neg (by decide), if_pos rfl, if_pos rfl, if_neg hs, if_neg (by decide), decide_eq_false (by decide)]
            exact next
        · rw [if_neg q0]
          by_cases q1 : q = 1
          · subst q1
            rw [if_pos rfl]
            obtain ⟨x, y, e, hx, hxy⟩ := order_apply s l n h
            rw [hx]
            simp only [Option.bind_some]
            rcases hxy with ⟨rfl, hxy⟩ | ⟨rfl, hs⟩
            · exact good 1 x y hxy
            · rw [tipstafflaw10_BrakeValid.j2, if_neg (by decide), if_pos rfl, if_neg (by decide), if_pos rfl, if_neg hs, decide_eq_false (by decide)]
              exact next
          · rw [if_neg q1]
            by_cases q2 : q = 2
            · subst q2
              rw [if_pos rfl]
              simp only [brake_Force.f, brake_New.f, Option.bind_some]
              exact good 2 0 0 (bchk_of 0 0 n hn hn5 (by simp))
            · rw [if_neg q2]
              obtain ⟨x, y, hx, hxy⟩ := order_step s l n h
              rw [hx]
              simp only [Option.bind_some]
              exact good q x y hxy
      · rw [decide_eq_false h30, tipstafflaw10_BrakeValid.j1, if_neg (by decide), show k + 5 * d + 23 = k + 5 * d + 13 + 10 from rfl, e]; rfl
    · rw [if_neg hlt, tipstafflaw10_BrakeValid.j1, if_neg (by decide), show k + 5 * d + 23 = k + 5 * d + 13 + 10 from rfl, e]; rfl

theorem BrakeValid : tipstafflaw10_BrakeValid.Pure := by
  intro a xs _ _ _ _
  obtain ⟨n, hn, hn0, hn1⟩ := mod_eq a 6 (by omega) (by omega)
  refine ⟨0 + 5 * 31 + 20, ?_⟩
  unfold tipstafflaw10_BrakeValid.f
  rw [hn]
  simp only [Option.bind_some, brake_New.f]
  have e := valid_loop xs n hn0 (by omega) 31 0 0 0 0 (bchk_of 0 0 n hn0 (by omega) (by simp)) (by omega)
  rw [show ((0 : Nat) : Int) = 0 from rfl] at e
  exact e

end Go.Proofs.Ytfibbdbpclkbgaa.Pure
