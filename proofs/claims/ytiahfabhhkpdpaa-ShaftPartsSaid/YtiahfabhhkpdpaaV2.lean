/- Gaps made of numbers, and what lies between, for the laws of this chapter: plain Lean, no program. -/
import Derived.Test.YtiahfabhhkpdpaaV
import Derived.Test.YtiahfabhhkpdpaaLShaftKnown
namespace Go.Proofs.Ytiahfabhhkpdpaa.P
open Go.RowKit Go.Proofs.YtiahfabhhkpdpaaW.PrintWords Go.Proofs.YtiahfabhhkpdpaaW.PrintLast Go.Proofs.YtiahfabhhkpdpaaW.PrintMore
set_option linter.unusedVariables false
theorem known_true (k : Nat) : tipstafflaw07_ShaftKnown.f (k + 40) = some true := by
  have h : tipstafflaw07_ShaftKnown.f 40 = some true := by decide +kernel
  induction k with
  | zero => exact h
  | succ k ih => exact tipstafflaw07_ShaftKnown.mono _ _ ih

theorem made_loop (xs : List Int) : ∀ (d k i : Nat) (out : List Int), i + d = 40 → out.length = i + 1 → (∀ x ∈ out, 1 ≤ x ∧ x ≤ 30) →
    ∃ g, tipstafflaw07_made.l0 (k + d + 1) xs out i = some g ∧ 1 ≤ g.length ∧ g.length ≤ 41 ∧ ∀ x ∈ g, 1 ≤ x ∧ x ≤ 30 := by
  intro d
  induction d with
  | zero =>
    intro k i out hi ho hx
    refine ⟨out, ?_, by omega, by omega, hx⟩
    rw [tipstafflaw07_made.l0]
    split
    · rw [if_neg (by omega)]
    · rfl
  | succ d ih =>
    intro k i out hi ho hx
    rw [show k + (d + 1) + 1 = (k + d + 1) + 1 from by omega, tipstafflaw07_made.l0]
    by_cases h : (i : Int) < xs.length
    · obtain ⟨q, hq, h0, h1⟩ := mod_eq (rd xs i) 30 (by omega) (by omega)
      rw [if_pos h, if_pos (by omega), if_pos (by omega), hq, Option.bind_some, if_pos (by omega), wsm (1 + q) (by omega) (by omega), wsm _ (by omega) (by omega), show (i : Int) + 1 = ((i + 1 : Nat) : Int) from by omega]
      refine ih k (i + 1) _ (by omega) (by simp; omega) (fun x hx2 => ?_)
      rcases List.mem_append.1 hx2 with h2 | h2
      · exact hx x h2
      · simp at h2; omega
    · rw [if_neg h]
      exact ⟨out, rfl, by omega, by omega, hx⟩
theorem made_ok (xs : List Int) (k : Nat) : ∃ g, tipstafflaw07_made.f (k + 50) xs = some g ∧ gok g := by
  obtain ⟨q, hq, h0, h1⟩ := mod_eq (xs.length : Int) 7 (by omega) (by omega)
  obtain ⟨g, h2, h3, h4, h5⟩ := made_loop xs 40 (k + 9) 0 [1 + q] (by omega) rfl (fun x hx => by simp at hx; omega)
  rw [show ((0 : Nat) : Int) = 0 from rfl] at h2
  refine ⟨g, ?_, h3, by omega, fun j hj => ?_⟩
  · unfold tipstafflaw07_made.f
    rw [hq, Option.bind_some, wsm (1 + q) (by omega) (by omega)]
    exact h2
  · have hm : g[j] ∈ g := List.getElem_mem hj
    have := h5 _ hm
    unfold rd
    rw [Int.toNat_natCast, List.getD_eq_getElem?_getD, List.getElem?_eq_getElem hj]
    simp
    omega

theorem btw_all (xs : List Int) (lo hi : Int) : ∀ (d i : Nat), (∀ j, i ≤ j → j < i + d → lo ≤ rd xs j ∧ rd xs j ≤ hi) → btw xs lo hi i d = (List.range d).map fun j : Nat => ((i + j : Nat) : Int) := by
  intro d
  induction d with
  | zero => intro i _; rfl
  | succ d ih =>
    intro i h
    have := h i (by omega) (by omega)
    rw [btw, if_pos (by omega), ih (i + 1) (fun j h1 h2 => h j (by omega) (by omega)), List.range_succ_eq_map]
    simp only [List.map_cons, List.map_map, Nat.add_zero]
    congr 1
    apply List.map_congr_left
    intro j _
    simp only [Function.comp]
    omega
theorem btw_posns (l : List Int) (h : gok l) : btw (posns l) 0 (pos l l.length) 0 (l.length + 1) = (List.range (l.length + 1)).map fun j : Nat => (j : Int) := by
  rw [btw_all]
  · apply List.map_congr_left
    intro j _
    omega
  · intro j _ h2
    rw [posns_rd l j (by omega)]
    exact ⟨(pos_top l h j (by omega)).1, pos_le l h j l.length (by omega) (by omega)⟩
theorem rd_range (n : Nat) (j : Nat) (h : j < n) : rd ((List.range n).map fun j : Nat => (j : Int)) j = j := by
  unfold rd
  rw [Int.toNat_natCast, List.getD_eq_getElem?_getD]
  simp [h]

/-- A cut parts what lies between. -/
theorem btw_cut (l : List Int) (h : gok l) (c : Int) : ∀ (d i : Nat), i + d = l.length + 1 → btw (posns l) 0 c i d ++ btw (posns l) (c + 1) (pos l l.length) i d = btw (posns l) 0 (pos l l.length) i d := by
  have low : ∀ (d i : Nat), i + d ≤ l.length + 1 → (∀ j, i ≤ j → j < i + d → rd (posns l) j > c) → btw (posns l) 0 c i d = [] ∧ btw (posns l) (c + 1) (pos l l.length) i d = btw (posns l) 0 (pos l l.length) i d := by
    intro d
    induction d with
    | zero => intro i _ _; exact ⟨rfl, rfl⟩
    | succ d ih =>
      intro i hi hj
      have h1 := hj i (by omega) (by omega)
      obtain ⟨e1, e2⟩ := ih (i + 1) (by omega) (fun j a b => hj j (by omega) (by omega))
      have ht := pos_top l h i (by omega)
      rw [posns_rd l i (by omega)] at h1
      constructor
      · rw [btw, if_neg (by rw [posns_rd l i (by omega)]; omega), e1]
      · rw [btw, btw, e2, posns_rd l i (by omega)]
        by_cases h2 : pos l i ≤ pos l l.length
        · rw [if_pos (by omega), if_pos (by omega)]
        · rw [if_neg (by omega), if_neg (by omega)]
  intro d
  induction d with
  | zero => intro i _; rfl
  | succ d ih =>
    intro i hi
    have ht := pos_top l h i (by omega)
    have hle := pos_le l h i l.length (by omega) (by omega)
    by_cases hc : pos l i ≤ c
    · have e := ih (i + 1) (by omega)
      rw [btw, if_pos (by rw [posns_rd l i (by omega)]; omega), btw, if_neg (by rw [posns_rd l i (by omega)]; omega), btw, if_pos (by rw [posns_rd l i (by omega)]; omega), ← e]
      rfl
    · obtain ⟨e1, e2⟩ := low (d + 1) i (by omega) (fun j a b => by
        rw [posns_rd l j (by omega)]
        have := pos_le l h i j a (by omega)
        omega)
      rw [e1, e2, List.nil_append]
theorem near_own (l : List Int) (h : gok l) (i : Nat) (hi : i ≤ l.length) : near l (pos l i) i := by
  refine ⟨hi, fun j hj => ⟨by unfold dst; omega, fun hlt => ?_⟩⟩
  have := pos_lt l h j i hlt hi
  unfold dst
  omega
end Go.Proofs.Ytiahfabhhkpdpaa.P
