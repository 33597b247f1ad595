/- Package shaft: where a position is level, the program and its reference: plain Lean, no program. -/
import Derived.Test.YtlkphdcfgaolnaaShaftR
namespace Go.Proofs.Ytlkphdcfgaolnaa.P
open Go.RowKit Go.Proofs.YtlkphdcfgaolnaaW.PrintWords Go.Proofs.YtlkphdcfgaolnaaW.PrintLast Go.Proofs.YtlkphdcfgaolnaaW.PrintMore
set_option linter.unusedVariables false
set_option linter.unusedSimpArgs false

theorem Height_same (l : List Int) (k : Nat) : ∃ x e, shaft_Height.f l = some (x, e) ∧ r07_Height.f (k + 70) l = some (x, e) := by
  by_cases h : gok l
  · exact ⟨_, _, Height_ok l h, ref_Height_ok l h k⟩
  · obtain ⟨e, i, hc, he⟩ := check_bad l h
    exact ⟨_, _, Height_err l e i hc he, ref_Height_err l e i hc he k⟩

theorem asked_in (l : List Int) (p f t : Int) (hp : 0 ≤ p) (hp2 : p ≤ pos l l.length) (hf : 0 ≤ f) (hf2 : f ≤ l.length) (ht : 0 ≤ t) (ht2 : t ≤ 20) : askedB l p f t = false := by
  simp [askedB]; omega
theorem asked_out (l : List Int) (p f t : Int) (h : p < 0 ∨ p > pos l l.length ∨ f < 0 ∨ f > l.length ∨ t < 0 ∨ t > 20) : askedB l p f t = true := by
  simp [askedB]; omega

theorem Nearest_in (l : List Int) (h : gok l) (p : Int) (hp : 0 ≤ p) (hp2 : p ≤ pos l l.length) (k : Nat) : ∃ m : Nat, r07_Nearest.f (k + 70) l p = some ((m : Int), 0) ∧ shaft_nearest.f (k + 70) (posns l) p = some (m : Int) ∧ near l p m := by
  obtain ⟨m, h1, h2⟩ := nearest_eq l h p hp hp2 k
  obtain ⟨m', h3, h4⟩ := ref_near_eq l h p hp hp2 k
  have e := near_unique l p m m' h2 h4
  subst e
  refine ⟨m, ?_, h1, h2⟩
  unfold r07_Nearest.f
  rw [ref_asked_ok l h, asked_in l p 0 0 hp hp2 (by omega) (by omega) (by omega) (by omega), Option.bind_some]
  simp only [Bool.false_eq_true, if_false, if_true]
  rw [ref_positions_eq l h, Option.bind_some, h3]
theorem At_in (l : List Int) (h : gok l) (p t : Int) (hp : 0 ≤ p) (hp2 : p ≤ pos l l.length) (ht : 0 ≤ t) (ht2 : t ≤ 20) (m : Nat) (hm : near l p m) (k : Nat) :
    shaft_At.f (k + 71) l p t = some (if dst (pos l m) p > t then (0, 6) else ((m : Int), 0)) ∧ r07_At.f (k + 71) l p t = some (if dst (pos l m) p > t then (0, 6) else ((m : Int), 0)) := by
  have b1 := pos_top l h m hm.1
  have b2 := pos_top l h l.length (by omega)
  obtain ⟨m1, _, h1, h2⟩ := Nearest_in l h p hp hp2 k
  have e := near_unique l p m1 m h2 hm
  subst e
  obtain ⟨m2, h3, _, h4⟩ := Nearest_in l h p hp hp2 (k + 1)
  have e := near_unique l p m2 m1 h4 h2
  subst e
  constructor
  · unfold shaft_At.f
    rw [placed_ok l h, if_neg (by omega), Option.bind_some, if_pos rfl, if_neg (by omega), show k + 71 = (k + 70) + 1 from rfl, shaft_At.j0, decide_eq_false (by omega), if_neg (by decide)]
    dsimp only
    rw [h1, Option.bind_some, if_pos (by omega), if_pos (by rw [posns_len]; have := hm.1; omega), posns_rd l m2 hm.1, far_eq _ _ (by omega) (by omega) (by omega) (by omega), Option.bind_some]
    split <;> rfl
  · unfold r07_At.f
    rw [show k + 71 = (k + 1) + 70 from by omega, ref_asked_ok l h, asked_in l p 0 t hp hp2 (by omega) (by omega) ht ht2, Option.bind_some]
    simp only [Bool.false_eq_true, if_false, if_true]
    rw [h3, Option.bind_some, ref_positions_eq l h, Option.bind_some]
    dsimp only
    rw [if_pos (by omega), if_pos (by rw [posns_len]; have := hm.1; omega), posns_rd l m2 hm.1, apart_eq _ _ (by omega) (by omega) (by omega) (by omega), Option.bind_some]
    split <;> rfl
theorem near_some (l : List Int) (h : gok l) (p : Int) (hp : 0 ≤ p) (hp2 : p ≤ pos l l.length) : ∃ m, near l p m := by
  obtain ⟨m, _, h⟩ := nearest_eq l h p hp hp2 0
  exact ⟨m, h⟩
theorem At_same (l : List Int) (p t : Int) (k : Nat) : ∃ x e, shaft_At.f (k + 71) l p t = some (x, e) ∧ r07_At.f (k + 71) l p t = some (x, e) := by
  by_cases h : gok l
  · by_cases hp : 0 ≤ p ∧ p ≤ pos l l.length
    · by_cases ht : 0 ≤ t ∧ t ≤ 20
      · obtain ⟨m, hm⟩ := near_some l h p hp.1 hp.2
        obtain ⟨h1, h2⟩ := At_in l h p t hp.1 hp.2 ht.1 ht.2 m hm k
        by_cases hd : dst (pos l m) p > t
        · rw [if_pos hd] at h1 h2; exact ⟨_, _, h1, h2⟩
        · rw [if_neg hd] at h1 h2; exact ⟨_, _, h1, h2⟩
      · refine ⟨0, 2, ?_, ?_⟩
        · unfold shaft_At.f
          rw [placed_ok l h, if_neg (by omega), Option.bind_some, if_pos rfl, show k + 71 = (k + 70) + 1 from rfl]
          by_cases h1 : t < 0
          · rw [if_pos h1, shaft_At.j0, if_pos rfl]
          · rw [if_neg h1, decide_eq_true (by omega), shaft_At.j0, if_pos rfl]
        · unfold r07_At.f
          rw [show k + 71 = (k + 1) + 70 from by omega, ref_asked_ok l h, asked_out l p 0 t (by omega), Option.bind_some]
          rfl
    · refine ⟨0, 2, ?_, ?_⟩
      · unfold shaft_At.f
        rw [placed_ok l h, if_pos (by omega), Option.bind_some, if_neg (by decide)]
      · unfold r07_At.f
        rw [show k + 71 = (k + 1) + 70 from by omega, ref_asked_ok l h, asked_out l p 0 t (by omega), Option.bind_some]
        rfl
  · obtain ⟨e, i, hc, he⟩ := check_bad l h
    refine ⟨0, e, ?_, ?_⟩
    · unfold shaft_At.f
      rw [placed_err l e i hc he, Option.bind_some, if_neg he]
    · unfold r07_At.f
      rw [show k + 71 = (k + 1) + 70 from by omega, ref_asked_err l e i hc he, Option.bind_some, if_neg he]
end Go.Proofs.Ytlkphdcfgaolnaa.P
