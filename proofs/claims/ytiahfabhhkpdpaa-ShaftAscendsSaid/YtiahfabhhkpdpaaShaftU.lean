/- Distances and what lies between two positions: the program and the reference, in closed form: plain Lean, no program. -/
import Derived.Test.YtiahfabhhkpdpaaShaftT
import Derived.Test.YtiahfabhhkpdpaaP0tipstaffkit
namespace Go.Proofs.Ytiahfabhhkpdpaa.P
open Go.RowKit Go.Proofs.YtiahfabhhkpdpaaW.PrintWords Go.Proofs.YtiahfabhhkpdpaaW.PrintLast Go.Proofs.YtiahfabhhkpdpaaW.PrintMore
set_option linter.unusedVariables false
set_option linter.unusedSimpArgs false

theorem Distance_in (l : List Int) (h : gok l) (a b : Nat) (ha : a ≤ l.length) (hb : b ≤ l.length) : shaft_Distance.f l a b = some (dst (pos l a) (pos l b), 0) := by
  have t1 := pos_top l h a ha
  have t2 := pos_top l h b hb
  unfold shaft_Distance.f
  rw [positions_ok l h, Option.bind_some, if_pos rfl]
  dsimp only
  rw [posns_len, if_neg (by unfold mn; split <;> omega), if_neg (by unfold mx; split <;> omega), if_pos (by omega), if_pos (by omega), if_pos (by omega), if_pos (by omega), posns_rd l a ha, posns_rd l b hb, far_eq _ _ (by omega) (by omega) (by omega) (by omega)]
  rfl
theorem Distance_same (l : List Int) (a b : Int) (k : Nat) : ∃ x e, shaft_Distance.f l a b = some (x, e) ∧ tipstaffref07_Distance.f (k + 71) l a b = some (x, e) := by
  by_cases h : gok l
  · have b0 := pos_top l h l.length (by omega)
    have p0 := pos_zero l
    by_cases ha : 0 ≤ a ∧ a ≤ l.length
    · by_cases hb : 0 ≤ b ∧ b ≤ l.length
      · obtain ⟨m, rfl⟩ := Int.eq_ofNat_of_zero_le ha.1
        obtain ⟨n, rfl⟩ := Int.eq_ofNat_of_zero_le hb.1
        have t1 := pos_top l h m (by omega)
        have t2 := pos_top l h n (by omega)
        refine ⟨_, _, Distance_in l h m n (by omega) (by omega), ?_⟩
        unfold tipstaffref07_Distance.f
        rw [show k + 71 = (k + 1) + 70 from by omega, ref_asked_ok l h, asked_in l 0 m 0 (by omega) (by omega) (by omega) (by omega) (by omega) (by omega), Option.bind_some]
        simp only [Bool.false_eq_true, if_false, if_true]
        rw [ref_asked_ok l h, asked_in l 0 n 0 (by omega) (by omega) (by omega) (by omega) (by omega) (by omega), Option.bind_some]
        simp only [Bool.false_eq_true, if_false, if_true]
        rw [show k + 1 + 70 = (k + 70) + 1 from by omega, tipstaffref07_Distance.j0, if_pos rfl, ref_positions_eq l h, Option.bind_some, if_pos (by omega), if_pos (by rw [posns_len]; omega), if_pos (by omega), if_pos (by rw [posns_len]; omega), posns_rd l m (by omega), posns_rd l n (by omega), apart_eq _ _ (by omega) (by omega) (by omega) (by omega)]
        rfl
      · refine ⟨0, 2, ?_, ?_⟩
        · unfold shaft_Distance.f
          rw [positions_ok l h, Option.bind_some, if_pos rfl]
          dsimp only
          rw [posns_len]
          by_cases h1 : mn a b < 0
          · rw [if_pos h1]
          · rw [if_neg h1, if_pos (by unfold mn at h1; unfold mx; split at h1 <;> split <;> omega)]
        · unfold tipstaffref07_Distance.f
          rw [show k + 71 = (k + 1) + 70 from by omega, ref_asked_ok l h, asked_in l 0 a 0 (by omega) (by omega) ha.1 ha.2 (by omega) (by omega), Option.bind_some]
          simp only [Bool.false_eq_true, if_false, if_true]
          rw [ref_asked_ok l h, asked_out l 0 b 0 (by omega), Option.bind_some, show k + 1 + 70 = (k + 70) + 1 from by omega, tipstaffref07_Distance.j0]
          rfl
    · refine ⟨0, 2, ?_, ?_⟩
      · unfold shaft_Distance.f
        rw [positions_ok l h, Option.bind_some, if_pos rfl]
        dsimp only
        rw [posns_len]
        by_cases h1 : mn a b < 0
        · rw [if_pos h1]
        · rw [if_neg h1, if_pos (by unfold mn at h1; unfold mx; split at h1 <;> split <;> omega)]
      · unfold tipstaffref07_Distance.f
        rw [show k + 71 = (k + 1) + 70 from by omega, ref_asked_ok l h, asked_out l 0 a 0 (by omega), Option.bind_some]
        simp only [if_true]
        rw [if_neg (by decide), show k + 1 + 70 = (k + 70) + 1 from by omega, tipstaffref07_Distance.j0]
        rfl
  · obtain ⟨e, i, hc, he⟩ := check_bad l h
    refine ⟨0, e, ?_, ?_⟩
    · unfold shaft_Distance.f
      rw [positions_err l e i hc he, Option.bind_some, if_neg he]
    · unfold tipstaffref07_Distance.f
      rw [show k + 71 = (k + 1) + 70 from by omega, ref_asked_err l e i hc he, Option.bind_some, if_neg he, show k + 1 + 70 = (k + 70) + 1 from by omega, tipstaffref07_Distance.j0, if_neg he]

/-- The indexes from i on, among d, whose numbers lie between two. -/
def btw (xs : List Int) (lo hi : Int) (i : Nat) : Nat → List Int
  | 0 => []
  | d + 1 => if rd xs i ≥ lo ∧ rd xs i ≤ hi then (i : Int) :: btw xs lo hi (i + 1) d else btw xs lo hi (i + 1) d
theorem btw_len (xs : List Int) (lo hi : Int) (d : Nat) : ∀ i, (btw xs lo hi i d).length ≤ d := by
  induction d with
  | zero => intro i; simp [btw]
  | succ d ih => intro i; have := ih (i + 1); rw [btw]; split <;> simp <;> omega
theorem between_loop (xs : List Int) (lo hi : Int) (hx : xs.length ≤ 1000) : ∀ (d k i : Nat) (out : List Int), i + d = xs.length → out.length ≤ i →
    shaft_Between.l0 (k + d + 1) lo hi out xs (xs.length : Int) i = some (out ++ btw xs lo hi i d, 0) := by
  intro d
  induction d with
  | zero => intro k i out hi2 ho; rw [shaft_Between.l0, if_neg (by omega)]; simp [btw]
  | succ d ih =>
    intro k i out hi2 ho
    rw [show k + (d + 1) + 1 = (k + d + 1) + 1 from by omega, shaft_Between.l0, if_pos (by omega), if_pos (by omega), if_pos (by omega), wsm _ (by omega) (by omega), show (i : Int) + 1 = ((i + 1 : Nat) : Int) from by omega, btw]
    by_cases h1 : rd xs i ≥ lo
    · rw [if_pos h1]
      by_cases h2 : rd xs i ≤ hi
      · rw [if_pos h2, if_pos (by omega), if_pos ⟨h1, h2⟩, ih k (i + 1) _ (by omega) (by simp; omega)]
        simp
      · rw [if_neg h2, if_neg (fun h => h2 h.2), ih k (i + 1) out (by omega) (by omega)]
    · rw [if_neg h1, if_neg (fun h => h1 h.1), ih k (i + 1) out (by omega) (by omega)]
theorem ref_between_loop (xs : List Int) (lo hi : Int) (hx : xs.length ≤ 1000) : ∀ (d k i : Nat) (out : List Int), i + d = xs.length → out.length ≤ i →
    tipstaffref07_Between.l0 (k + d + 1) lo hi xs out i = some (out ++ btw xs lo hi i d, 0) := by
  intro d
  induction d with
  | zero => intro k i out hi2 ho; rw [tipstaffref07_Between.l0, if_neg (by omega)]; simp [btw]
  | succ d ih =>
    intro k i out hi2 ho
    rw [show k + (d + 1) + 1 = (k + d + 1) + 1 from by omega, tipstaffref07_Between.l0, if_pos (by omega), if_pos (by omega), wsm _ (by omega) (by omega), show (i : Int) + 1 = ((i + 1 : Nat) : Int) from by omega, btw]
    by_cases h1 : rd xs i ≥ lo
    · rw [if_pos h1]
      by_cases h2 : rd xs i ≤ hi
      · rw [if_pos h2, if_pos (by omega), if_pos ⟨h1, h2⟩, ih k (i + 1) _ (by omega) (by simp; omega)]
        simp
      · rw [if_neg h2, if_neg (fun h => h2 h.2), ih k (i + 1) out (by omega) (by omega)]
    · rw [if_neg h1, if_neg (fun h => h1 h.1), ih k (i + 1) out (by omega) (by omega)]

theorem Between_in (l : List Int) (h : gok l) (a b : Int) (ha : 0 ≤ a) (hab : a ≤ b) (hb : b ≤ pos l l.length) (k : Nat) : shaft_Between.f (k + 80) l a b = some (btw (posns l) a b 0 (l.length + 1), 0) := by
  have hl := h.2.1
  have e := between_loop (posns l) a b (by rw [posns_len]; omega) (l.length + 1) (k + 78 - (l.length + 1)) 0 [] (by rw [posns_len]; omega) (by simp)
  rw [show k + 78 - (l.length + 1) + (l.length + 1) + 1 = k + 79 from by omega, show ((0 : Nat) : Int) = 0 from rfl] at e
  unfold shaft_Between.f
  rw [placed_ok l h, if_neg (by omega), Option.bind_some, if_pos rfl, if_neg (by omega), show k + 80 = (k + 79) + 1 from rfl]
  dsimp only
  rw [posns_len, wsm _ (by omega) (by omega), if_pos (by omega), if_pos (by omega), show ((l.length + 1 : Nat) : Int) - 1 = ((l.length : Nat) : Int) from by omega, posns_rd l l.length (by omega), decide_eq_false (by omega), shaft_Between.j0, if_neg (by decide), e]
  rfl
theorem Between_same (l : List Int) (a b : Int) (k : Nat) : ∃ x e, shaft_Between.f (k + 80) l a b = some (x, e) ∧ tipstaffref07_Between.f (k + 80) l a b = some (x, e) ∧ x.length ≤ 100 := by
  by_cases h : gok l
  · have hl := h.2.1
    have b0 := pos_top l h l.length (by omega)
    by_cases ha : 0 ≤ a ∧ a ≤ pos l l.length
    · by_cases hb : a ≤ b ∧ b ≤ pos l l.length
      · refine ⟨_, _, Between_in l h a b ha.1 hb.1 hb.2 k, ?_, by have := btw_len (posns l) a b (l.length + 1) 0; omega⟩
        have e := ref_between_loop (posns l) a b (by rw [posns_len]; omega) (l.length + 1) (k + 76 - (l.length + 1)) 0 [] (by rw [posns_len]; omega) (by simp)
        rw [show k + 76 - (l.length + 1) + (l.length + 1) + 1 = k + 77 from by omega, show ((0 : Nat) : Int) = 0 from rfl] at e
        unfold tipstaffref07_Between.f
        rw [show k + 80 = (k + 10) + 70 from by omega, ref_asked_ok l h, asked_in l a 0 0 ha.1 ha.2 (by omega) (by omega) (by omega) (by omega), Option.bind_some]
        simp only [Bool.false_eq_true, if_false, if_true]
        rw [ref_asked_ok l h, asked_in l b 0 0 (by omega) hb.2 (by omega) (by omega) (by omega) (by omega), Option.bind_some]
        simp only [Bool.false_eq_true, if_false, if_true]
        rw [show k + 10 + 70 = (k + 77) + 1 + 1 + 1 from by omega, tipstaffref07_Between.j0, if_pos rfl, decide_eq_false (by omega), tipstaffref07_Between.j1, if_neg (by decide), tipstaffref07_Between.j2, if_pos rfl, show k + 77 = (k + 7) + 70 from by omega, ref_positions_eq l h, Option.bind_some, show k + 7 + 70 = k + 77 from by omega, e]
        rfl
      · refine ⟨[], 2, ?_, ?_, by simp⟩
        · unfold shaft_Between.f
          rw [placed_ok l h, if_neg (by omega), Option.bind_some, if_pos rfl, show k + 80 = (k + 79) + 1 from rfl]
          dsimp only
          by_cases h1 : b < a
          · rw [if_pos h1, shaft_Between.j0, if_pos rfl]
          · rw [if_neg h1, posns_len, wsm _ (by omega) (by omega), if_pos (by omega), if_pos (by omega), show ((l.length + 1 : Nat) : Int) - 1 = ((l.length : Nat) : Int) from by omega, posns_rd l l.length (by omega), decide_eq_true (by omega), shaft_Between.j0, if_pos rfl]
        · unfold tipstaffref07_Between.f
          rw [show k + 80 = (k + 10) + 70 from by omega, ref_asked_ok l h, asked_in l a 0 0 ha.1 ha.2 (by omega) (by omega) (by omega) (by omega), Option.bind_some]
          simp only [Bool.false_eq_true, if_false, if_true]
          rw [ref_asked_ok l h, Option.bind_some, show k + 10 + 70 = (k + 77) + 1 + 1 + 1 from by omega]
          by_cases h2 : askedB l b 0 0 = true
          · rw [h2, if_pos rfl, tipstaffref07_Between.j0, if_neg (by decide), tipstaffref07_Between.j1, if_neg (by decide), tipstaffref07_Between.j2, if_neg (by decide)]
          · have h3 : askedB l b 0 0 = false := by simpa using h2
            have h4 : a > b := by
              by_cases h5 : 0 ≤ b ∧ b ≤ pos l l.length
              · omega
              · exact absurd (asked_out l b 0 0 (by omega)) h2
            rw [h3, if_neg (by decide), tipstaffref07_Between.j0, if_pos rfl, decide_eq_true h4, tipstaffref07_Between.j1, if_pos rfl, tipstaffref07_Between.j2, if_neg (by decide)]
    · refine ⟨[], 2, ?_, ?_, by simp⟩
      · unfold shaft_Between.f
        rw [placed_ok l h, if_pos (by omega), Option.bind_some, if_neg (by decide)]
      · unfold tipstaffref07_Between.f
        rw [show k + 80 = (k + 10) + 70 from by omega, ref_asked_ok l h, asked_out l a 0 0 (by omega), Option.bind_some]
        simp only [if_true]
        rw [if_neg (by decide), show k + 10 + 70 = (k + 77) + 1 + 1 + 1 from by omega, tipstaffref07_Between.j0, if_neg (by decide), tipstaffref07_Between.j1, if_neg (by decide), tipstaffref07_Between.j2, if_neg (by decide)]
  · obtain ⟨e, i, hc, he⟩ := check_bad l h
    refine ⟨[], e, ?_, ?_, by simp⟩
    · unfold shaft_Between.f
      rw [placed_err l e i hc he, Option.bind_some, if_neg he]
    · unfold tipstaffref07_Between.f
      rw [show k + 80 = (k + 10) + 70 from by omega, ref_asked_err l e i hc he, Option.bind_some, if_neg he, show k + 10 + 70 = (k + 77) + 1 + 1 + 1 from by omega, tipstaffref07_Between.j0, if_neg he, tipstaffref07_Between.j1, if_neg (by decide), tipstaffref07_Between.j2, if_neg he]

theorem same_loop (l : List Int) (hl : l.length ≤ 100000) (d : Nat) : ∀ (k : Nat) (i : Int), 0 ≤ i → (l.length : Int) - i = d → tipstaffkit_SameInts.l0 (k + d + 1) l l i = some true := by
  induction d with
  | zero => intro k i h0 h1; rw [tipstaffkit_SameInts.l0, if_neg (by omega)]
  | succ d ih =>
    intro k i h0 h1
    rw [show k + (d + 1) + 1 = (k + d + 1) + 1 from by omega, tipstaffkit_SameInts.l0, if_pos (by omega), if_pos h0, if_pos (by omega), if_pos rfl, wsm (i + 1) (by omega) (by omega)]
    exact ih k (i + 1) (by omega) (by omega)
theorem same_refl (l : List Int) (n : Nat) (hl : l.length ≤ n) (hn : n ≤ 100000) (k : Nat) : tipstaffkit_SameInts.f (k + n + 1) l l = some true := by
  unfold tipstaffkit_SameInts.f
  rw [if_pos rfl]
  have e := same_loop l (by omega) l.length (k + n - l.length) 0 (by omega) (by omega)
  rw [show k + n - l.length + l.length + 1 = k + n + 1 from by omega] at e
  exact e
theorem mod_eq (a m : Int) (hm : 1 ≤ m) (hm2 : m ≤ 1000000) : ∃ r, tipstaffkit_Mod.f a m = some r ∧ 0 ≤ r ∧ r < m := by
  unfold tipstaffkit_Mod.f
  rw [if_neg (by omega), if_neg (by omega)]
  have h1 := Int.tmod_lt_of_pos a (show 0 < m by omega)
  have h2 : -m < Int.tmod a m := by
    have h3 := Int.tmod_lt_of_pos (-a) (show 0 < m by omega)
    rw [Int.neg_tmod] at h3
    omega
  by_cases h : Int.tmod a m < 0
  · rw [if_pos h]
    exact ⟨_, rfl, by rw [wsm _ (by omega) (by omega)]; omega, by rw [wsm _ (by omega) (by omega)]; omega⟩
  · rw [if_neg h]
    exact ⟨_, rfl, by omega, by omega⟩
end Go.Proofs.Ytiahfabhhkpdpaa.P
