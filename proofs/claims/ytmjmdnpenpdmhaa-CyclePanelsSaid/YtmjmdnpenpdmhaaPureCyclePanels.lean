/- The panels of a whole cycle, also of one that is forced: the program answers as the reference, and the obstructions are not changed. No condition. -/
import Derived.Test.YtmjmdnpenpdmhaaLCyclePanels
import Derived.Test.YtmjmdnpenpdmhaaQ
namespace Go.Proofs.Ytmjmdnpenpdmhaa.Pure
open Go.RowKit Go.Proofs.Ytmjmdnpenpdmhaa.P Go.Proofs.YtmjmdnpenpdmhaaW.PrintWords Go.Proofs.YtmjmdnpenpdmhaaW.PrintLast
set_option linter.unusedSimpArgs false
set_option linter.unusedVariables false

theorem awake_true (k : Nat) : q_awake.f (k + 40) = some true := by
  have h : q_awake.f 40 = some true := by decide +kernel
  induction k with
  | zero => exact h
  | succ k ih => exact q_awake.mono _ _ ih
theorem same_loop (l : List Int) (hl : l.length ≤ 100000) (d : Nat) : ∀ (k : Nat) (i : Int), 0 ≤ i → (l.length : Int) - i = d → kit_SameInts.l0 (k + d + 1) l l i = some true := by
  induction d with
  | zero => intro k i h0 h; rw [kit_SameInts.l0, if_neg (by omega)]
  | succ d ih =>
    intro k i h0 h
    rw [kit_SameInts.l0, if_pos (by omega), if_pos h0, if_pos (by omega), if_pos rfl, wsm (i + 1) (by omega) (by omega)]
    exact ih k (i + 1) (by omega) (by omega)
theorem same_refl (l : List Int) (n : Nat) (hl : l.length ≤ n) (hn : n ≤ 100000) (k : Nat) : kit_SameInts.f (k + n + 1) l l = some true := by
  unfold kit_SameInts.f
  rw [if_pos rfl, show k + n + 1 = (k + (n - l.length)) + l.length + 1 from by omega]
  exact same_loop l (by omega) l.length _ 0 (by omega) (by omega)
theorem sameb_loop (l : List Bool) (hl : l.length ≤ 100000) (d : Nat) : ∀ (k : Nat) (i : Int), 0 ≤ i → (l.length : Int) - i = d → kit_SameBools.l0 (k + d + 1) l l i = some true := by
  induction d with
  | zero => intro k i h0 h; rw [kit_SameBools.l0, if_neg (by omega)]
  | succ d ih =>
    intro k i h0 h
    rw [kit_SameBools.l0, if_pos (by omega), if_pos h0, if_pos (by omega), bne_self_eq_false, if_neg (by decide), wsm (i + 1) (by omega) (by omega)]
    exact ih k (i + 1) (by omega) (by omega)
theorem sameb_refl (l : List Bool) (n : Nat) (hl : l.length ≤ n) (hn : n ≤ 100000) (k : Nat) : kit_SameBools.f (k + n + 1) l l = some true := by
  unfold kit_SameBools.f
  rw [if_pos rfl, show k + n + 1 = (k + (n - l.length)) + l.length + 1 from by omega]
  exact sameb_loop l (by omega) l.length _ 0 (by omega) (by omega)
theorem cst_not (w dw rt : Int) (l : List Bool) (a b : Int) : ∀ k, cst w dw rt l a false k = cst w dw rt l b false k
  | 0 => rfl
  | k + 1 => by
    rw [cst, cst, cst_not w dw rt l a b k]
    rfl
theorem cpl_not (w dw rt : Int) (l : List Bool) (a b : Int) : ∀ k, cpl w dw rt l a false k = cpl w dw rt l b false k
  | 0 => rfl
  | k + 1 => by rw [cpl, cpl, cpl_not w dw rt l a b k, cst_not w dw rt l a b]
theorem rd_out (l : List Bool) (u : Nat) (h : ¬ (u : Int) < (l.length : Int)) : rdOf false l (u : Int) = false := by
  unfold rdOf
  rw [Int.toNat_natCast, List.getD_eq_getElem?_getD, List.getElem?_eq_none (by omega)]
  rfl
theorem step_ok {p x l t a : Int} {ps : Bool} {w dw rt : Int} (o : Bool) (h : CV p x l t a ps w dw rt) (ha : a ≠ cwst w dw rt) (k : Nat) :
    ref_Step.f (k + 710) p x l t a ps w dw rt o = some ((dtk p x l t w dw rt o).1, (dtk p x l t w dw rt o).2.1, (dtk p x l t w dw rt o).2.2.1, (dtk p x l t w dw rt o).2.2.2, a + 1, ps, dop p x w, 0) := by
  rw [ref_Step_eq]
  unfold cstep
  rw [if_pos (cchk_zero.2 h), if_neg ha]
/-- The reference's loop. -/
theorem ref_loop (w dw rt at_ : Int) (l : List Bool) (W : Nat) (hW : cwst w dw rt = W) (hW6 : W ≤ 600) : ∀ (d k u : Nat) (ps : Bool), u + d = W →
    CV (cst w dw rt l at_ (decide (0 ≤ at_)) u).1 (cst w dw rt l at_ (decide (0 ≤ at_)) u).2.1 (cst w dw rt l at_ (decide (0 ≤ at_)) u).2.2.1 (cst w dw rt l at_ (decide (0 ≤ at_)) u).2.2.2 u ps w dw rt →
    ref_panels.l0 (k + d + 712) l at_ W (cpl w dw rt l at_ (decide (0 ≤ at_)) u) u w dw rt (cst w dw rt l at_ (decide (0 ≤ at_)) u).1 (cst w dw rt l at_ (decide (0 ≤ at_)) u).2.1 (cst w dw rt l at_ (decide (0 ≤ at_)) u).2.2.1 (cst w dw rt l at_ (decide (0 ≤ at_)) u).2.2.2 u ps = some (cpl w dw rt l at_ (decide (0 ≤ at_)) W, 0) := by
  intro d
  induction d with
  | zero =>
    intro k u ps hu hV
    obtain rfl : u = W := hu
    rw [show k + 0 + 712 = (k + 711) + 1 from rfl, ref_panels.l0, if_neg (by omega)]
  | succ d ih =>
    intro k u ps hu hV
    have hlen := cpl_len w dw rt l at_ (decide (0 ≤ at_)) u
    have hcp : cpl w dw rt l at_ (decide (0 ≤ at_)) (u + 1) = cpl w dw rt l at_ (decide (0 ≤ at_)) u ++ [(cst w dw rt l at_ (decide (0 ≤ at_)) (u + 1)).2.1] := rfl
    have hcs : cst w dw rt l at_ (decide (0 ≤ at_)) (u + 1) = dtk (cfo (cst w dw rt l at_ (decide (0 ≤ at_)) u) (decide (0 ≤ at_) && ((u : Int) == at_))).1 (cfo (cst w dw rt l at_ (decide (0 ≤ at_)) u) (decide (0 ≤ at_) && ((u : Int) == at_))).2.1 (cfo (cst w dw rt l at_ (decide (0 ≤ at_)) u) (decide (0 ≤ at_) && ((u : Int) == at_))).2.2.1 (cfo (cst w dw rt l at_ (decide (0 ≤ at_)) u) (decide (0 ≤ at_) && ((u : Int) == at_))).2.2.2 w dw rt (rdOf false l u) := rfl
    have ih := fun ps => ih k (u + 1) ps (by omega)
    rw [hcp] at ih
    have hw1 : wrap64 ((u : Int) + 1) = ((u + 1 : Nat) : Int) := by rw [wsm _ (by omega) (by omega)]; rfl
    have hne : (u : Int) ≠ cwst w dw rt := by omega
    rw [show k + (d + 1) + 712 = (k + d + 712) + 1 from by omega, ref_panels.l0, if_pos (by omega), hlen]
    generalize cst w dw rt l at_ (decide (0 ≤ at_)) u = q at hV hcs ⊢
    obtain ⟨q0, q1, q2, q3⟩ := q
    dsimp only at hV hcs ⊢
    by_cases hat : (u : Int) = at_
    · have hf := cv_force hV
      rw [decide_eq_true (show 0 ≤ at_ by omega), beq_iff_eq.mpr hat] at hcs
      have hcs : cst w dw rt l at_ true (u + 1) = dtk (dfc q0 q1 q2 q3).1 (dfc q0 q1 q2 q3).2.1 (dfc q0 q1 q2 q3).2.2.1 (dfc q0 q1 q2 q3).2.2.2 w dw rt (rdOf false l u) := hcs
      rw [if_pos hat, show k + d + 712 = (k + d + 2) + 710 from by omega, ref_Force_eq]
      unfold cforce
      rw [if_pos (cchk_zero.2 hV), Option.bind_some]
      dsimp only
      rw [decide_eq_true (show 0 ≤ at_ by omega)] at ih ⊢
      rw [hcs] at ih
      have ht := ih _ (cv_tick (rdOf false l u) hf hne)
      by_cases hl : (u : Int) < (l.length : Int)
      · rw [if_pos hl, if_pos (by omega), step_ok _ hf hne, Option.bind_some]
        dsimp only
        rw [if_pos (by omega), hw1, show k + d + 2 + 710 = k + d + 712 from by omega]
        exact ht
      · rw [if_neg hl, ← rd_out l u hl, step_ok _ hf hne, Option.bind_some]
        dsimp only
        rw [if_pos (by omega), hw1, show k + d + 2 + 710 = k + d + 712 from by omega]
        exact ht
    · rw [show ((u : Int) == at_) = false from beq_eq_false_iff_ne.mpr hat, Bool.and_false] at hcs
      have hcs : cst w dw rt l at_ (decide (0 ≤ at_)) (u + 1) = dtk q0 q1 q2 q3 w dw rt (rdOf false l u) := hcs
      rw [hcs] at ih
      have ht := ih _ (cv_tick (rdOf false l u) hV hne)
      rw [if_neg hat, show k + d + 712 = (k + d + 2) + 710 from by omega]
      by_cases hl : (u : Int) < (l.length : Int)
      · rw [if_pos hl, if_pos (by omega), step_ok _ hV hne, Option.bind_some]
        dsimp only
        rw [if_pos (by omega), hw1, show k + d + 2 + 710 = k + d + 712 from by omega]
        exact ht
      · rw [if_neg hl, ← rd_out l u hl, step_ok _ hV hne, Option.bind_some]
        dsimp only
        rw [if_pos (by omega), hw1, show k + d + 2 + 710 = k + d + 712 from by omega]
        exact ht
def rpan (w dw rt : Int) (l : List Bool) (at_ : Int) : List Int × Int :=
  if dRule w dw rt then (if (l.length : Int) > cwst w dw rt then ([], 4) else if at_ < -1 ∨ at_ ≥ cwst w dw rt then ([], 2) else (cpl w dw rt l at_ (decide (0 ≤ at_)) (cwst w dw rt).toNat, 0)) else ([], 2)
theorem ref_panels_eq (k : Nat) (w dw rt : Int) (l : List Bool) (at_ : Int) : ref_panels.f (k + 1400) w dw rt l at_ = some (rpan w dw rt l at_) := by
  unfold ref_panels.f rpan
  rw [r18_Worst_eq, Option.bind_some]
  by_cases h : dRule w dw rt
  · have hb := cwst_bound h
    rw [if_pos h, if_pos h]
    dsimp only
    rw [if_pos rfl, show k + 1400 = (k + 1399) + 1 from rfl, ref_panels.j0]
    by_cases hl : (l.length : Int) > cwst w dw rt
    · rw [decide_eq_true hl, if_pos rfl, if_pos hl, show k + 1399 = (k + 1398) + 1 from rfl, ref_panels.j1, if_neg (by decide)]
    · rw [decide_eq_false hl, if_neg (by decide), if_neg hl, show k + 1399 = (k + 1398) + 1 from rfl, ref_panels.j1, if_pos rfl]
      have e : ∀ k, ref_panels.j2 (k + 1) l at_ (cwst w dw rt) true w dw rt = some ([], 2) := fun k => by rw [ref_panels.j2, if_pos rfl]
      by_cases ha : at_ < -1 ∨ at_ ≥ cwst w dw rt
      · rw [if_pos ha]
        by_cases h0 : at_ < -1
        · rw [if_pos h0]; exact e _
        · rw [if_neg h0, decide_eq_true (by omega)]; exact e _
      · rw [if_neg ha, if_neg (by omega), decide_eq_false (by omega), show k + 1398 = (k + 1397) + 1 from rfl, ref_panels.j2, if_neg (by decide), show k + 1397 = (k + 1395) + 2 from rfl, ref_Begin_eq, if_pos h, if_pos rfl, Option.bind_some]
        dsimp only
        obtain ⟨W, hW⟩ : ∃ W : Nat, cwst w dw rt = W := ⟨(cwst w dw rt).toNat, by omega⟩
        have hl := ref_loop w dw rt at_ l W hW (by omega) W (k + 685 - W) 0 false (by omega) (cv_begin h)
        rw [hW, Int.toNat_natCast, show k + 1395 + 2 = k + 685 - W + W + 712 from by omega]
        exact hl
  · rw [if_neg h, if_neg h]
    dsimp only
    rw [if_neg (by decide), show k + 1400 = (k + 1399) + 1 from rfl, ref_panels.j0, if_neg (by decide), show k + 1399 = (k + 1398) + 1 from rfl, ref_panels.j1, if_neg (by decide)]
theorem panels_same (w dw rt : Int) (l : List Bool) (hl : l.length ≤ 600) : cycle_panels.f w dw rt l 0 false = some (rpan w dw rt l (-1)) := by
  unfold cycle_panels.f rpan
  by_cases h : dRule w dw rt
  · have hb := cwst_bound h
    rw [if_pos h, if_pos h]
    by_cases hc : (l.length : Int) > cwst w dw rt
    · rw [if_pos hc, if_pos hc, if_pos (by omega)]
    · rw [if_neg hc, if_neg hc, if_neg (fun q => by cases q.1), if_neg (by omega), decide_eq_false (by omega), cpl_not w dw rt l 0 (-1)]
  · rw [if_neg h, if_neg h]
theorem pan_len (w dw rt : Int) (l : List Bool) (a : Int) : (rpan w dw rt l a).1.length ≤ 600 := by
  unfold rpan
  by_cases h : dRule w dw rt
  · have hb := cwst_bound h
    rw [if_pos h]
    split
    · exact Nat.zero_le _
    · split
      · exact Nat.zero_le _
      · dsimp only
        rw [cpl_len]; omega
  · rw [if_neg h]; exact Nat.zero_le _
theorem forced_same (w dw rt : Int) (l : List Bool) (hl : l.length ≤ 600) (a : Int) (k : Nat) : ∃ r e, cycle_panels.f w dw rt l a true = some (r, e) ∧ ref_Forced.f (k + 1401) w dw rt l a = some (r, e) ∧ r.length ≤ 600 := by
  unfold ref_Forced.f
  rw [show k + 1401 = (k + 1) + 1400 from by omega, ref_panels_eq, Option.bind_some, show k + 1 + 1400 = (k + 1400) + 1 from rfl]
  by_cases h : dRule w dw rt
  · have hb := cwst_bound h
    by_cases hc : (l.length : Int) > cwst w dw rt
    · refine ⟨[], 4, ?_, ?_, Nat.zero_le _⟩
      · unfold cycle_panels.f; rw [if_pos h, if_pos hc, if_pos (by omega)]
      · unfold rpan; rw [if_pos h, if_pos hc]; dsimp only; rw [if_neg (by decide), ref_Forced.j0, if_neg (by decide), if_neg (by decide)]
    · have e0 : (rpan w dw rt l (-1)).2 = 0 := by unfold rpan; rw [if_pos h, if_neg hc, if_neg (by omega)]
      rw [e0, if_pos rfl, ref_Forced.j0]
      by_cases ha : a < 0
      · refine ⟨[], 2, ?_, ?_, Nat.zero_le _⟩
        · unfold cycle_panels.f; rw [if_pos h, if_neg hc, if_pos ⟨rfl, .inl ha⟩]
        · rw [decide_eq_true ha, if_pos rfl]
      · rw [decide_eq_false ha, if_neg (by decide), if_pos rfl, ref_panels_eq, Option.bind_some]
        refine ⟨_, _, ?_, rfl, pan_len w dw rt l a⟩
        unfold cycle_panels.f rpan
        rw [if_pos h, if_pos h, if_neg hc, if_neg hc]
        by_cases h2 : a ≥ cwst w dw rt
        · rw [if_pos ⟨rfl, .inr h2⟩, if_pos (.inr h2)]
        · rw [if_neg (fun q => by have := q.2; omega), if_neg (by omega), decide_eq_true (by omega)]
  · refine ⟨[], 2, ?_, ?_, Nat.zero_le _⟩
    · unfold cycle_panels.f; rw [if_neg h]
    · unfold rpan; rw [if_neg h]; dsimp only; rw [if_neg (by decide), ref_Forced.j0, if_neg (by decide), if_neg (by decide)]
theorem CyclePanels : q_CyclePanels.Pure := by
  intro w dw rt l a _ _ _ _ _ _
  refine ⟨1500, ?_⟩
  unfold q_CyclePanels.f
  by_cases hl : (l.length : Int) > 600
  · rw [if_pos hl, show 1500 = 1460 + 40 from rfl, awake_true]; simp only [Option.bind_some, if_true]
  · obtain ⟨r, e, h1, h2, h3⟩ := forced_same w dw rt l (by omega) a 99
    have hp := panels_same w dw rt l (by omega)
    have hlen := pan_len w dw rt l (-1)
    rw [if_neg hl]
    unfold kit_OwnBools.f cycle_Panels.f ref_Panels.f cycle_Forced.f
    simp only [Option.bind_some]
    rw [if_pos (by simp; omega)]
    simp only [Option.bind_some, List.nil_append]
    rw [hp, show 1500 = 100 + 1400 from rfl, ref_panels_eq, h1, show 100 + 1400 = 99 + 1401 from rfl, h2]
    simp only [Option.bind_some]
    rw [show 99 + 1401 = 899 + 600 + 1 from rfl, same_refl _ 600 hlen (by omega), same_refl _ 600 h3 (by omega), sameb_refl l 600 (by omega) (by omega)]
    simp only [Option.bind_some, if_true]
    rw [show 899 + 600 + 1 = 1460 + 40 from rfl, awake_true]
    simp only [Option.bind_some, if_true]
end Go.Proofs.Ytmjmdnpenpdmhaa.Pure
