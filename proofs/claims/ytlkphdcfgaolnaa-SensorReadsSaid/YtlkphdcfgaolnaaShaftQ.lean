/- What the positions of floors and their reference compute, in closed form: plain Lean, no program. -/
import Derived.Test.YtlkphdcfgaolnaaP0tipstaffref07
import Derived.Test.YtlkphdcfgaolnaaSa
namespace Go.Proofs.Ytlkphdcfgaolnaa.P
open Go.RowKit Go.Proofs.YtlkphdcfgaolnaaW.PrintWords Go.Proofs.YtlkphdcfgaolnaaW.PrintLast Go.Proofs.YtlkphdcfgaolnaaW.PrintMore
set_option linter.unusedVariables false
set_option linter.unusedSimpArgs false

theorem wsm (x : Int) (h : -1000000000000 ≤ x) (h2 : x ≤ 1000000000000) : wrap64 x = x := by unfold wrap64; omega

/-- Gaps that are valid. -/
def gok (l : List Int) : Prop := 1 ≤ l.length ∧ l.length < 64 ∧ ∀ j : Nat, j < l.length → 1 ≤ rd l j ∧ rd l j ≤ 1000

theorem sfb_all (l : List Int) : ∀ (d i : Nat), (∀ j, i ≤ j → j < i + d → 1 ≤ rd l j ∧ rd l j ≤ 1000) → sfb l i d = -1 := by
  intro d
  induction d with
  | zero => intro i _; rfl
  | succ d ih =>
    intro i h
    have := h i (by omega) (by omega)
    rw [sfb, if_neg (by simp [gbad]; omega)]
    exact ih (i + 1) (fun j h1 h2 => h j (by omega) (by omega))
theorem check_ok (l : List Int) (h : gok l) : shaft_Check.f l = some (0, 0) := by
  obtain ⟨h1, h2, h3⟩ := h
  unfold shaft_Check.f
  rw [if_neg (by omega), if_neg (by omega), sfb_all l l.length 0 (fun j _ hj => h3 j (by omega)), if_neg (by omega)]
theorem check_bad (l : List Int) (h : ¬ gok l) : ∃ e i, shaft_Check.f l = some (e, i) ∧ e ≠ 0 := by
  unfold shaft_Check.f
  by_cases h1 : l.length < 1
  · rw [if_pos h1]; exact ⟨_, _, rfl, by decide⟩
  · rw [if_neg h1]
    by_cases h2 : l.length ≥ 64
    · rw [if_pos h2]; exact ⟨_, _, rfl, by decide⟩
    · rw [if_neg h2]
      by_cases h3 : sfb l 0 l.length ≥ 0
      · rw [if_pos h3]; exact ⟨_, _, rfl, by decide⟩
      · exact absurd ⟨by omega, by omega, fun j hj => sfb_good l l.length 0 (by omega) j (by omega) (by omega)⟩ h
theorem check_some (l : List Int) : ∃ e i, shaft_Check.f l = some (e, i) := by
  by_cases h : gok l
  · exact ⟨_, _, check_ok l h⟩
  · obtain ⟨e, i, h, _⟩ := check_bad l h; exact ⟨e, i, h⟩

theorem posns_len (l : List Int) : (posns l).length = l.length + 1 := by simp [posns]
theorem posns_rd (l : List Int) (k : Nat) (h : k ≤ l.length) : rd (posns l) k = pos l k := by
  unfold rd
  rw [Int.toNat_natCast, List.getD_eq_getElem?_getD]
  simp [posns, show k < l.length + 1 by omega]
theorem pos_lt (l : List Int) (h : gok l) (i j : Nat) (hij : i < j) (hj : j ≤ l.length) : pos l i < pos l j := by
  induction j with
  | zero => omega
  | succ j ih =>
    have hs := pos_succ l j (by omega)
    have := (h.2.2 j (by omega)).1
    by_cases e : i = j
    · subst e; omega
    · have := ih (by omega) (by omega); omega
theorem pos_le (l : List Int) (h : gok l) (i j : Nat) (hij : i ≤ j) (hj : j ≤ l.length) : pos l i ≤ pos l j := by
  by_cases e : i = j
  · subst e; omega
  · have := pos_lt l h i j (by omega) hj; omega
theorem pos_zero (l : List Int) : pos l 0 = 0 := by simp [pos]
theorem pos_top (l : List Int) (h : gok l) (k : Nat) (hk : k ≤ l.length) : 0 ≤ pos l k ∧ pos l k ≤ 64000 := by
  have := pos_bound l h.2.2 k hk
  have := h.2.1
  omega

theorem positions_ok (l : List Int) (h : gok l) : shaft_Positions.f l = some (posns l, 0) := by
  unfold shaft_Positions.f
  rw [check_ok l h]
  rfl
theorem positions_err (l : List Int) (e i : Int) (h : shaft_Check.f l = some (e, i)) (he : e ≠ 0) : shaft_Positions.f l = some ([], e) := by
  unfold shaft_Positions.f
  rw [h, Option.bind_some, if_neg he]

/-! ### the reference -/
theorem ref_Check_loop (l : List Int) (hl : l.length ≤ 1000) : ∀ (d k i : Nat), i + d = l.length →
    r07_Check.l0 (k + d + 1) l i = some (if sfb l i d ≥ 0 then (2, sfb l i d) else (0, 0)) := by
  intro d
  induction d with
  | zero =>
    intro k i hi
    rw [r07_Check.l0, if_neg (by omega), sfb, if_neg (by omega)]
  | succ d ih =>
    intro k i hi
    rw [show k + (d + 1) + 1 = (k + d + 1) + 1 from by omega, r07_Check.l0, if_pos (by omega), if_pos (by omega), sfb]
    by_cases h1 : rd l i < 1
    · rw [if_pos h1, if_pos (show gbad (rd l i) = true by simp [gbad, h1]), if_pos (by omega)]
    · rw [if_neg h1]
      by_cases h2 : rd l i > 1000
      · rw [if_pos h2, if_pos (show gbad (rd l i) = true by simp [gbad]; omega), if_pos (by omega)]
      · rw [if_neg h2, if_neg (show ¬ gbad (rd l i) = true by simp [gbad]; omega), wsm _ (by omega) (by omega), show (i : Int) + 1 = ((i + 1 : Nat) : Int) from by omega]
        exact ih k (i + 1) (by omega)
theorem ref_Check_eq (l : List Int) (k : Nat) : r07_Check.f (k + 70) l = shaft_Check.f l := by
  unfold r07_Check.f shaft_Check.f
  rw [show k + 70 = (k + 69) + 1 from rfl]
  by_cases h1 : l.length < 1
  · rw [if_pos h1, if_pos (by omega), r07_Check.j0, if_pos rfl]
  · rw [if_neg h1, if_neg (by omega), r07_Check.j0]
    by_cases h2 : l.length ≥ 64
    · rw [if_pos h2, decide_eq_true (by omega), if_pos rfl]
    · rw [if_neg h2, decide_eq_false (by omega), if_neg (by decide)]
      have e := ref_Check_loop l (by omega) l.length (k + 68 - l.length) 0 (by omega)
      rw [show k + 68 - l.length + l.length + 1 = k + 69 from by omega, show ((0 : Nat) : Int) = 0 from rfl] at e
      rw [e]
      split <;> rfl

theorem ref_pos_loop (l : List Int) (h : gok l) : ∀ (d k i : Nat), i + d = l.length →
    r07_positions.l0 (k + d + 1) l ((List.range (i + 1)).map (pos l)) i = some (posns l) := by
  intro d
  induction d with
  | zero =>
    intro k i hi
    rw [r07_positions.l0, if_neg (by omega)]
    unfold posns
    rw [show i = l.length from by omega]
  | succ d ih =>
    intro k i hi
    have hb := pos_top l h i (by omega)
    have hg := h.2.2 i (by omega)
    have hl := h.2.1
    have hr : rd ((List.range (i + 1)).map (pos l)) i = pos l i := by
      unfold rd
      rw [Int.toNat_natCast, List.getD_eq_getElem?_getD]
      simp
    rw [show k + (d + 1) + 1 = (k + d + 1) + 1 from by omega, r07_positions.l0, if_pos (by omega), if_pos (by omega), if_pos (by simp; omega), if_pos (by simp; omega), hr, wsm _ (by omega) (by omega), wsm _ (by omega) (by omega), ← pos_succ l i (by omega)]
    have e := ih k (i + 1) (by omega)
    rw [List.range_succ, List.map_append] at e
    rw [show (i : Int) + 1 = ((i + 1 : Nat) : Int) from by omega]
    exact e
theorem ref_positions_eq (l : List Int) (h : gok l) (k : Nat) : r07_positions.f (k + 70) l = some (posns l) := by
  have hl := h.2.1
  have e := ref_pos_loop l h l.length (k + 69 - l.length) 0 (by omega)
  rw [show k + 69 - l.length + l.length + 1 = k + 70 from by omega, show ((0 : Nat) : Int) = 0 from rfl] at e
  unfold r07_positions.f
  rw [← e]
  rfl
theorem ref_Height_ok (l : List Int) (h : gok l) (k : Nat) : r07_Height.f (k + 70) l = some (pos l l.length, 0) := by
  unfold r07_Height.f
  rw [ref_Check_eq, check_ok l h, Option.bind_some, if_pos rfl, ref_positions_eq l h, Option.bind_some, if_pos (by omega), if_pos (by rw [posns_len]; omega), posns_rd l l.length (by omega)]
theorem ref_Height_err (l : List Int) (e i : Int) (h : shaft_Check.f l = some (e, i)) (he : e ≠ 0) (k : Nat) : r07_Height.f (k + 70) l = some (0, e) := by
  unfold r07_Height.f
  rw [ref_Check_eq, h, Option.bind_some, if_neg he]
/-- What 'asked' answers of valid gaps. -/
def askedB (l : List Int) (p f t : Int) : Bool := decide (p < 0) || decide (p > pos l l.length) || decide (f < 0) || decide (f > l.length) || decide (t < 0) || decide (t > 20)
theorem ref_asked_ok (l : List Int) (h : gok l) (p f t : Int) (k : Nat) : r07_asked.f (k + 70) l p f t = some (if askedB l p f t then 2 else 0) := by
  unfold r07_asked.f askedB
  rw [ref_Height_ok l h, Option.bind_some, if_pos rfl]
  dsimp only
  repeat' split
  all_goals first | rfl | (simp_all; done) | (exfalso; simp_all; omega)
theorem ref_asked_err (l : List Int) (e i : Int) (h : shaft_Check.f l = some (e, i)) (he : e ≠ 0) (p f t : Int) (k : Nat) : r07_asked.f (k + 70) l p f t = some e := by
  unfold r07_asked.f
  rw [ref_Height_err l e i h he, Option.bind_some, if_neg he]
end Go.Proofs.Ytlkphdcfgaolnaa.P
