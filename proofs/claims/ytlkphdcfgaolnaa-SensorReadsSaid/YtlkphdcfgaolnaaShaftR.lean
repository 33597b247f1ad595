/- The nearest floor, the level floor, the distance and what lies between, of the program and of the reference, in closed form: plain Lean, no program. -/
import Derived.Test.YtlkphdcfgaolnaaShaftQ
import Derived.Test.YtlkphdcfgaolnaaP2shaft
namespace Go.Proofs.Ytlkphdcfgaolnaa.P
open Go.RowKit Go.Proofs.YtlkphdcfgaolnaaW.PrintWords Go.Proofs.YtlkphdcfgaolnaaW.PrintLast Go.Proofs.YtlkphdcfgaolnaaW.PrintMore
set_option linter.unusedVariables false
set_option linter.unusedSimpArgs false

theorem Height_ok (l : List Int) (h : gok l) : shaft_Height.f l = some (pos l l.length, 0) := by
  have hl := h.2.1
  unfold shaft_Height.f
  rw [positions_ok l h, Option.bind_some, if_pos rfl]
  dsimp only
  rw [posns_len, wsm _ (by omega) (by omega), if_pos (by omega), if_pos (by omega), show (((l.length + 1 : Nat) : Int) - 1) = ((l.length : Nat) : Int) from by omega, posns_rd l l.length (by omega)]
theorem Height_err (l : List Int) (e i : Int) (h : shaft_Check.f l = some (e, i)) (he : e ≠ 0) : shaft_Height.f l = some (0, e) := by
  unfold shaft_Height.f
  rw [positions_err l e i h he, Option.bind_some, if_neg he]
theorem placed_ok (l : List Int) (h : gok l) (p : Int) : shaft_placed.f l p = some (if p < 0 ∨ p > pos l l.length then ([], 2) else (posns l, 0)) := by
  have hl := h.2.1
  unfold shaft_placed.f
  rw [positions_ok l h, Option.bind_some, if_pos rfl]
  dsimp only
  rw [posns_len, wsm _ (by omega) (by omega), if_pos (show (0 : Int) ≤ ((l.length + 1 : Nat) : Int) - 1 by omega), if_pos (show (((l.length + 1 : Nat) : Int) - 1) < ((l.length + 1 : Nat) : Int) by omega), show (((l.length + 1 : Nat) : Int) - 1) = ((l.length : Nat) : Int) from by omega, posns_rd l l.length (by omega)]
  by_cases h1 : p < 0
  · rw [if_pos h1, if_pos (Or.inl h1)]
  · rw [if_neg h1]
    by_cases h2 : p > pos l l.length
    · rw [if_pos h2, if_pos (Or.inr h2)]
    · rw [if_neg h2, if_neg (by omega)]
theorem placed_err (l : List Int) (e i : Int) (h : shaft_Check.f l = some (e, i)) (he : e ≠ 0) (p : Int) : shaft_placed.f l p = some ([], e) := by
  unfold shaft_placed.f
  rw [positions_err l e i h he, Option.bind_some, if_neg he]

def dst (a b : Int) : Int := max (a - b) (b - a)
theorem far_eq (a b : Int) (h1 : -1000000 ≤ a) (h2 : a ≤ 1000000) (h3 : -1000000 ≤ b) (h4 : b ≤ 1000000) : shaft_far.f a b = some (dst a b) := by
  unfold shaft_far.f dst
  rw [wsm _ (by omega) (by omega), wsm _ (by omega) (by omega)]
  congr 1
  unfold mx
  split <;> omega
theorem apart_eq (a b : Int) (h1 : -1000000 ≤ a) (h2 : a ≤ 1000000) (h3 : -1000000 ≤ b) (h4 : b ≤ 1000000) : r07_apart.f a b = some (dst a b) := by
  unfold r07_apart.f dst
  congr 1
  unfold mx mn
  rw [wsm]
  · split <;> split <;> omega
  · split <;> split <;> omega
  · split <;> split <;> omega

/-- The nearest floor, the lower of two. -/
def near (l : List Int) (p : Int) (m : Nat) : Prop := m ≤ l.length ∧ ∀ i : Nat, i ≤ l.length → dst (pos l m) p ≤ dst (pos l i) p ∧ (i < m → dst (pos l m) p < dst (pos l i) p)
theorem near_unique (l : List Int) (p : Int) (m n : Nat) (h1 : near l p m) (h2 : near l p n) : m = n := by
  obtain ⟨a1, b1⟩ := h1
  obtain ⟨a2, b2⟩ := h2
  have c1 := b1 n a2
  have c2 := b2 m a1
  by_cases e : m < n
  · have := c2.2 e; omega
  · by_cases e2 : n < m
    · have := c1.2 e2; omega
    · omega

theorem less_eq (a b : Int) : cmp_Less_int.f a b = some (decide (a < b)) := by
  simp [cmp_Less_int.f, cmp_isNaN_int.f]
theorem u64_small (x : Int) (h : 0 ≤ x) (h2 : x ≤ 1000000000) : IntKind.u64.wrap x = x := by
  simp [IntKind.wrap, IntKind.signed, IntKind.bits]
  omega

theorem bs_loop (l : List Int) (h : gok l) (t : Int) : ∀ (d k lo hi : Nat), lo ≤ hi → hi ≤ l.length + 1 → hi - lo ≤ d → (∀ j : Nat, j < lo → pos l j < t) → (∀ j : Nat, hi ≤ j → j ≤ l.length → t ≤ pos l j) →
    ∃ (i : Nat) (f : Bool), slices_BinarySearch_int_int.l0 (k + d + 1) (posns l) t ((l.length + 1 : Nat) : Int) lo hi = some ((i : Int), f) ∧ i ≤ l.length + 1 ∧ (∀ j : Nat, j < i → pos l j < t) ∧ (∀ j : Nat, i ≤ j → j ≤ l.length → t ≤ pos l j) ∧ (f = true ↔ i ≤ l.length ∧ pos l i = t) := by
  have hl := h.2.1
  intro d
  induction d with
  | zero =>
    intro k lo hi h1 h2 h3 h4 h5
    have e : lo = hi := by omega
    subst e
    refine ⟨lo, decide (lo ≤ l.length ∧ pos l lo = t), ?_, h2, h4, h5, by simp⟩
    rw [slices_BinarySearch_int_int.l0, if_neg (by omega)]
    by_cases h6 : lo ≤ l.length
    · rw [if_pos (by omega), if_pos (by omega), if_pos (by rw [posns_len]; omega), posns_rd l lo h6]
      by_cases h7 : pos l lo = t
      · rw [if_pos h7]; simp [h6, h7]
      · rw [if_neg h7]; simp [slices_isNaN_int.f, h7]
    · rw [if_neg (by omega)]; simp [h6]
  | succ d ih =>
    intro k lo hi h1 h2 h3 h4 h5
    by_cases e : lo = hi
    · subst e
      refine ⟨lo, decide (lo ≤ l.length ∧ pos l lo = t), ?_, h2, h4, h5, by simp⟩
      rw [show k + (d + 1) + 1 = (k + d + 1) + 1 from by omega, slices_BinarySearch_int_int.l0, if_neg (by omega)]
      by_cases h6 : lo ≤ l.length
      · rw [if_pos (by omega), if_pos (by omega), if_pos (by rw [posns_len]; omega), posns_rd l lo h6]
        by_cases h7 : pos l lo = t
        · rw [if_pos h7]; simp [h6, h7]
        · rw [if_neg h7]; simp [slices_isNaN_int.f, h7]
      · rw [if_neg (by omega)]; simp [h6]
    · obtain ⟨m, hm⟩ : ∃ m : Nat, m = (lo + hi) / 2 := ⟨_, rfl⟩
      have em : wrap64 (IntKind.u64.wrap (wrap64 ((lo : Int) + hi)) / 2) = (m : Int) := by
        rw [wsm ((lo : Int) + hi) (by omega) (by omega), u64_small ((lo : Int) + hi) (by omega) (by omega), wsm _ (by omega) (by omega)]
        omega
      rw [show k + (d + 1) + 1 = (k + d + 1) + 1 from by omega, slices_BinarySearch_int_int.l0, if_pos (by omega), em, if_pos (by omega), if_pos (by rw [posns_len]; omega), posns_rd l m (by omega), less_eq, Option.bind_some]
      by_cases h6 : pos l m < t
      · rw [decide_eq_true h6, if_pos rfl, wsm _ (by omega) (by omega), show (m : Int) + 1 = ((m + 1 : Nat) : Int) from by omega]
        exact ih k (m + 1) hi (by omega) h2 (by omega) (fun j hj => by have := pos_le l h j m (by omega) (by omega); omega) h5
      · rw [decide_eq_false h6, if_neg (by decide)]
        exact ih k lo m (by omega) (by omega) (by omega) h4 (fun j hj hj2 => by have := pos_le l h m j hj hj2; omega)

theorem nearest_eq (l : List Int) (h : gok l) (p : Int) (h0 : 0 ≤ p) (h1 : p ≤ pos l l.length) (k : Nat) : ∃ m : Nat, shaft_nearest.f (k + 70) (posns l) p = some (m : Int) ∧ near l p m := by
  have hl := h.2.1
  obtain ⟨i, f, hb, hi, hlo, hhi, hf⟩ := bs_loop l h p (l.length + 1) (k + 68 - l.length) 0 (l.length + 1) (by omega) (by omega) (by omega) (fun j hj => by omega) (fun j hj hj2 => by omega)
  have hi2 : i ≤ l.length := by
    by_cases e : i = l.length + 1
    · have := hlo l.length (by omega); omega
    · omega
  rw [show k + 68 - l.length + (l.length + 1) + 1 = k + 70 from by omega, show ((0 : Nat) : Int) = 0 from rfl] at hb
  unfold shaft_nearest.f slices_BinarySearch_int_int.f
  rw [posns_len, hb, Option.bind_some, show k + 70 = (k + 69) + 1 from rfl]
  dsimp only
  have hpi := hhi i (by omega) hi2
  have hti := pos_top l h i hi2
  have far0 : ∀ j : Nat, i ≤ j → j ≤ l.length → pos l i ≤ pos l j := fun j a b => pos_le l h i j a b
  by_cases hfe : f = true
  · subst hfe
    have := (hf.mp rfl).2
    refine ⟨i, by rw [if_pos rfl, shaft_nearest.j0, if_pos rfl], hi2, fun j hj => ?_⟩
    unfold dst
    refine ⟨by omega, fun hj2 => ?_⟩
    have := hlo j hj2
    omega
  · rw [if_neg hfe]
    by_cases h00 : i = 0
    · subst h00
      refine ⟨0, by rw [shaft_nearest.j0, if_pos (by simp)], by omega, fun j hj => ?_⟩
      have := far0 j (by omega) hj
      unfold dst
      exact ⟨by omega, fun hj2 => by omega⟩
    · have hlo1 := hlo (i - 1) (by omega)
      have hb0 := pos_top l h (i - 1) (by omega)
      have e1 : wrap64 ((i : Int) - 1) = ((i - 1 : Nat) : Int) := by rw [wsm _ (by omega) (by omega)]; omega
      have below : ∀ j : Nat, j < i - 1 → pos l j < pos l (i - 1) := fun j hj => pos_lt l h j (i - 1) hj (by omega)
      rw [shaft_nearest.j0, if_neg (show ¬ ((i : Int) == 0) = true by simp; omega), e1, if_pos (by omega), if_pos (by rw [posns_len]; omega), if_pos (by omega), if_pos (by rw [posns_len]; omega), posns_rd l (i - 1) (by omega), posns_rd l i hi2, wsm _ (by omega) (by omega), wsm _ (by omega) (by omega)]
      by_cases hc : p - pos l (i - 1) ≤ pos l i - p
      · refine ⟨i - 1, by rw [if_pos hc], by omega, fun j hj => ?_⟩
        unfold dst
        constructor
        · by_cases a : i ≤ j
          · have := far0 j a hj; omega
          · by_cases b : j = i - 1
            · subst b; omega
            · have := below j (by omega); omega
        · intro hj2
          have := below j hj2
          omega
      · refine ⟨i, by rw [if_neg hc], hi2, fun j hj => ?_⟩
        unfold dst
        constructor
        · by_cases a : i ≤ j
          · have := far0 j a hj; omega
          · by_cases b : j = i - 1
            · subst b; omega
            · have := below j (by omega); omega
        · intro hj2
          by_cases b : j = i - 1
          · subst b; omega
          · have := below j (by omega); omega

theorem ref_near_loop (l : List Int) (h : gok l) (p : Int) (h0 : 0 ≤ p) (h1 : p ≤ pos l l.length) : ∀ (d k b f : Nat), f + d = l.length + 1 → b < f → (∀ i : Nat, i < f → dst (pos l b) p ≤ dst (pos l i) p ∧ (i < b → dst (pos l b) p < dst (pos l i) p)) →
    ∃ m : Nat, r07_Nearest.l0 (k + d + 1) p (posns l) b f = some ((m : Int), 0) ∧ near l p m := by
  have hl := h.2.1
  have hp := pos_top l h l.length (by omega)
  intro d
  induction d with
  | zero =>
    intro k b f hf hb hm
    refine ⟨b, ?_, by omega, fun i hi => hm i (by omega)⟩
    rw [r07_Nearest.l0, if_neg (by rw [posns_len]; omega)]
  | succ d ih =>
    intro k b f hf hb hm
    have t1 := pos_top l h f (by omega)
    have t2 := pos_top l h b (by omega)
    rw [show k + (d + 1) + 1 = (k + d + 1) + 1 from by omega, r07_Nearest.l0, if_pos (by rw [posns_len]; omega), if_pos (by omega), posns_rd l f (by omega), apart_eq _ _ (by omega) (by omega) (by omega) (by omega), Option.bind_some, if_pos (by omega), if_pos (by rw [posns_len]; omega), posns_rd l b (by omega), apart_eq _ _ (by omega) (by omega) (by omega) (by omega), Option.bind_some, wsm _ (by omega) (by omega), show (f : Int) + 1 = ((f + 1 : Nat) : Int) from by omega]
    by_cases hc : dst (pos l f) p < dst (pos l b) p
    · rw [if_pos hc]
      refine ih k f (f + 1) (by omega) (by omega) (fun i hi => ?_)
      by_cases e : i = f
      · subst e; exact ⟨Int.le_refl _, fun h => by omega⟩
      · have := hm i (by omega)
        exact ⟨by omega, fun _ => by omega⟩
    · rw [if_neg hc]
      refine ih k b (f + 1) (by omega) (by omega) (fun i hi => ?_)
      by_cases e : i = f
      · subst e; exact ⟨by omega, fun h => by omega⟩
      · exact hm i (by omega)

theorem ref_near_eq (l : List Int) (h : gok l) (p : Int) (h0 : 0 ≤ p) (h1 : p ≤ pos l l.length) (k : Nat) : ∃ m : Nat, r07_Nearest.l0 (k + 70) p (posns l) 0 1 = some ((m : Int), 0) ∧ near l p m := by
  have hl := h.2.1
  obtain ⟨m, h2, h3⟩ := ref_near_loop l h p h0 h1 l.length (k + 69 - l.length) 0 1 (by omega) (by omega) (fun i hi => (show i = 0 by omega) ▸ ⟨Int.le_refl _, fun h => by omega⟩)
  rw [show k + 69 - l.length + l.length + 1 = k + 70 from by omega, show ((0 : Nat) : Int) = 0 from rfl, show ((1 : Nat) : Int) = 1 from rfl] at h2
  exact ⟨m, h2, h3⟩
end Go.Proofs.Ytlkphdcfgaolnaa.P
