/- What the laws of whole cycles lean on: rules and samples made of numbers, and the panels of a cycle: plain Lean, no program. -/
import Derived.Test.YtmjmdnpenpdmhaaLCycleKnown
import Derived.Test.YtmjmdnpenpdmhaaQp
import Derived.Test.YtmjmdnpenpdmhaaP0tipstafflaw19
import Derived.Test.YtmjmdnpenpdmhaaP2cycle
import Derived.Test.YtmjmdnpenpdmhaaP2cyclea
import Derived.Test.YtmjmdnpenpdmhaaP0cycle
namespace Go.Proofs.Ytmjmdnpenpdmhaa.P
open Go.RowKit Go.Proofs.YtmjmdnpenpdmhaaW.PrintWords Go.Proofs.YtmjmdnpenpdmhaaW.PrintLast Go.Proofs.YtmjmdnpenpdmhaaW.PrintMore
set_option linter.unusedSimpArgs false
set_option linter.unusedVariables false

theorem wrap_worst {w dw rt : Int} (h : dRule w dw rt) : wrap64 (wrap64 (wrap64 (2 * w) + dw) + wrap64 (rt * wrap64 (wrap64 (wrap64 (2 * w) - 1) + dw))) = cwst w dw rt := by
  have b : 0 ≤ rt * (2 * w - 1 + dw) ∧ rt * (2 * w - 1 + dw) ≤ 445 := by
    constructor
    · exact Int.mul_nonneg (by omega) (by omega)
    · exact Int.le_trans (Int.mul_le_mul (show rt ≤ 5 by omega) (show 2 * w - 1 + dw ≤ 89 by omega) (by omega) (by omega)) (by decide)
  rw [wsm (2 * w) (by omega) (by omega), wsm (2 * w + dw) (by omega) (by omega), wsm (2 * w - 1) (by omega) (by omega), wsm (2 * w - 1 + dw) (by omega) (by omega), wsm (rt * (2 * w - 1 + dw)) (by omega) (by omega), wsm _ (by omega) (by omega)]
  rfl
theorem known_true (k : Nat) : q_CycleKnown.f (k + 40) = some true := by
  have h : q_CycleKnown.f 40 = some true := by decide +kernel
  induction k with
  | zero => exact h
  | succ k ih => exact q_CycleKnown.mono _ _ ih
theorem mod_eq (a m : Int) (hm : 1 ≤ m) (hm2 : m ≤ 10000000) : ∃ r, kit_Mod.f a m = some r ∧ 0 ≤ r ∧ r < m := by
  unfold kit_Mod.f
  rw [if_neg (by omega), if_neg (by omega)]
  have h1 := Int.tmod_lt_of_pos a (show 0 < m by omega)
  have h2 : -m < Int.tmod a m := by
    have h3 := Int.tmod_lt_of_pos (-a) (show 0 < m by omega)
    rw [Int.neg_tmod] at h3
    omega
  by_cases c : Int.tmod a m < 0
  · rw [if_pos c]
    exact ⟨_, rfl, by rw [wsm _ (by omega) (by omega)]; omega, by rw [wsm _ (by omega) (by omega)]; omega⟩
  · rw [if_neg c]
    exact ⟨_, rfl, by omega, h1⟩

/-! What the law makes of its arguments: a rule and samples, no more than the cycle takes. -/
theorem made_loop (w dw rt : Int) (h : dRule w dw rt) (l1 : List Int) : ∀ (d k : Nat) (l : List Bool) (i : Int), i = l.length → i ≤ cwst w dw rt → cwst w dw rt - i = d →
    ∃ l', q_made.l0 (k + d + 1) l1 l i w dw rt = some (w, dw, rt, l') ∧ (l'.length : Int) ≤ cwst w dw rt := by
  have hb := cwst_bound h
  have hc : wrap64 (wrap64 (wrap64 (2 * w) + dw) + wrap64 (rt * wrap64 (wrap64 (wrap64 (2 * w) - 1) + dw))) = cwst w dw rt := by
    have b : 0 ≤ rt * (2 * w - 1 + dw) ∧ rt * (2 * w - 1 + dw) ≤ 445 := by
      constructor
      · exact Int.mul_nonneg (by omega) (by omega)
      · exact Int.le_trans (Int.mul_le_mul (show rt ≤ 5 by omega) (show 2 * w - 1 + dw ≤ 89 by omega) (by omega) (by omega)) (by decide)
    rw [wsm (2 * w) (by omega) (by omega), wsm (2 * w + dw) (by omega) (by omega), wsm (2 * w - 1) (by omega) (by omega), wsm (2 * w - 1 + dw) (by omega) (by omega), wsm (rt * (2 * w - 1 + dw)) (by omega) (by omega), wsm _ (by omega) (by omega)]
    rfl
  intro d
  induction d with
  | zero =>
    intro k l i hi h1 h2
    rw [Nat.add_zero, q_made.l0, hc]
    by_cases c : i < (l1.length : Int)
    · rw [if_pos c, if_neg (by omega)]; exact ⟨l, rfl, by omega⟩
    · rw [if_neg c]; exact ⟨l, rfl, by omega⟩
  | succ d ih =>
    intro k l i hi h1 h2
    rw [q_made.l0, hc]
    by_cases c : i < (l1.length : Int)
    · obtain ⟨t, ht, _, _⟩ := mod_eq (rd l1 i) 3 (by omega) (by omega)
      rw [if_pos c, if_pos (by omega), if_pos (by omega), ht, Option.bind_some, if_pos (by omega), wsm (i + 1) (by omega) (by omega), show k + (d + 1) = k + d + 1 by omega]
      exact ih k _ (i + 1) (by rw [List.length_append]; simp; omega) (by omega) (by omega)
    · rw [if_neg c]; exact ⟨l, rfl, by omega⟩
theorem made_ok (a : Int) (l1 : List Int) (k : Nat) : ∃ w dw rt l, q_made.f (k + 700) a l1 = some (w, dw, rt, l) ∧ dRule w dw rt ∧ (l.length : Int) ≤ cwst w dw rt := by
  obtain ⟨t, ht, h0, h1⟩ := mod_eq a 1000 (by omega) (by omega)
  have e1 : Int.tmod t 5 = t % 5 := Int.tmod_eq_emod_of_nonneg h0
  have e2 : Int.tdiv t 5 = t / 5 := Int.tdiv_eq_ediv_of_nonneg h0
  have e3 : Int.tdiv t 25 = t / 25 := Int.tdiv_eq_ediv_of_nonneg h0
  have e4 : Int.tmod (t / 5) 5 = (t / 5) % 5 := Int.tmod_eq_emod_of_nonneg (by omega)
  have e5 : Int.tmod (t / 25) 4 = (t / 25) % 4 := Int.tmod_eq_emod_of_nonneg (by omega)
  have hr : dRule (1 + t % 5) (1 + (t / 5) % 5) ((t / 25) % 4) := by unfold dRule; omega
  have hb := cwst_bound hr
  obtain ⟨l, hl, h2⟩ := made_loop _ _ _ hr l1 (cwst (1 + t % 5) (1 + (t / 5) % 5) ((t / 25) % 4)).toNat (699 - (cwst (1 + t % 5) (1 + (t / 5) % 5) ((t / 25) % 4)).toNat + k) [] 0 rfl (by omega) (by omega)
  refine ⟨_, _, _, l, ?_, hr, h2⟩
  unfold q_made.f
  rw [ht, Option.bind_some, e1, e2, e3, wsm (t / 5) (by omega) (by omega), wsm (t / 25) (by omega) (by omega), e4, e5, wsm (1 + t % 5) (by omega) (by omega), wsm (1 + (t / 5) % 5) (by omega) (by omega), ← hl]
  congr 1
  omega

/-! The panels with and without forcing. -/
theorem cv_cst {w dw rt : Int} (h : dRule w dw rt) (l : List Bool) : ∀ k : Nat, (k : Int) ≤ cwst w dw rt → CV (cst w dw rt l 0 false k).1 (cst w dw rt l 0 false k).2.1 (cst w dw rt l 0 false k).2.2.1 (cst w dw rt l 0 false k).2.2.2 k false w dw rt
  | 0, _ => cv_begin h
  | k + 1, hk => by
    have := cv_tick (rdOf false l k) (cv_cst h l k (by omega)) (by omega)
    rw [cst]
    exact this
theorem cpl_at (w dw rt : Int) (l : List Bool) (a : Int) (f : Bool) : ∀ (n k : Nat), k < n → (cpl w dw rt l a f n).getD k 0 = (cst w dw rt l a f (k + 1)).2.1
  | n + 1, k, h => by
    rw [cpl]
    by_cases c : k < n
    · rw [← cpl_at w dw rt l a f n k c, List.getD_eq_getElem?_getD, List.getD_eq_getElem?_getD, List.getElem?_append_left (by rw [cpl_len]; exact c)]
    · obtain rfl : k = n := by omega
      rw [List.getD_eq_getElem?_getD, List.getElem?_append_right (by rw [cpl_len]; exact Nat.le_refl _), cpl_len, Nat.sub_self]
      rfl
theorem rd_cpl (w dw rt : Int) (l : List Bool) (a : Int) (f : Bool) (W : Nat) (i : Int) (h0 : 0 ≤ i) (h1 : i < W) : rd (cpl w dw rt l a f W) i = (cst w dw rt l a f (i.toNat + 1)).2.1 := by
  unfold rd
  exact cpl_at w dw rt l a f W i.toNat (by omega)
theorem panel_small {w dw rt : Int} (h : dRule w dw rt) (l : List Bool) (a : Int) (f : Bool) (k : Nat) : 0 ≤ (cst w dw rt l a f k).2.1 ∧ (cst w dw rt l a f k).2.1 ≤ 20 := by
  have hV := (cst_ok h l a f k).range
  omega
theorem rd_out (l : List Bool) (u : Nat) (h : ¬ (u : Int) < (l.length : Int)) : rdOf false l (u : Int) = false := by
  unfold rdOf
  rw [Int.toNat_natCast, List.getD_eq_getElem?_getD, List.getElem?_eq_none (by omega)]
  rfl
theorem dtk_facts {p x l t w dw rt : Int} (o : Bool) (h : dV p x l t w dw rt) : (dtk p x l t w dw rt o).2.1 ≤ x + 1 ∧ x - 1 ≤ (dtk p x l t w dw rt o).2.1 ∧
    ((dtk p x l t w dw rt o).2.1 = w → dop p x w = decide (x < w)) ∧ ((dtk p x l t w dw rt o).2.1 ≠ w → dop p x w = false) := by
  obtain ⟨h1, h2, h3, h4⟩ := h
  unfold dtk dop
  repeat' split
  all_goals
    dsimp only
    refine ⟨by omega, by omega, fun e => decide_eq_decide.2 (by omega), fun e => decide_eq_false (by omega)⟩
theorem Panels_ok {w dw rt : Int} (h : dRule w dw rt) (l : List Bool) (hl : (l.length : Int) ≤ cwst w dw rt) {W : Nat} (hW : cwst w dw rt = W) : cycle_Panels.f w dw rt l = some (cpl w dw rt l 0 false W, 0) := by
  have hWn : (cwst w dw rt).toNat = W := by omega
  unfold cycle_Panels.f cycle_panels.f
  rw [if_pos h, if_neg (by omega), if_neg (fun q => by cases q.1), hWn, Option.bind_some]
theorem CBegin_ok {w dw rt : Int} (h : dRule w dw rt) (o : Bool) : cycle_Begin.f 9 w dw rt o = some (if o = true then (1, 0, 0, 0, 0, false, 0) else (0, 0, 0, 0, 0, true, 0)) := by
  rw [show (9 : Nat) = 7 + 2 from rfl]
  exact Begin_ok 7 w dw rt h o
/-- A tick of a cycle that is not over. -/
theorem CStep_ok {w dw rt : Int} (h : dRule w dw rt) (l : List Bool) (i : Nat) (hi : (i : Int) < cwst w dw rt) :
    cycle_Step.f 9 (cst w dw rt l 0 false i).1 (cst w dw rt l 0 false i).2.1 (cst w dw rt l 0 false i).2.2.1 (cst w dw rt l 0 false i).2.2.2 i false w dw rt (rdOf false l (i : Int)) =
        some ((cst w dw rt l 0 false (i + 1)).1, (cst w dw rt l 0 false (i + 1)).2.1, (cst w dw rt l 0 false (i + 1)).2.2.1, (cst w dw rt l 0 false (i + 1)).2.2.2, (i : Int) + 1, false, dop (cst w dw rt l 0 false i).1 (cst w dw rt l 0 false i).2.1 w, 0) := by
  have hcv := cv_cst h l i (by omega)
  have hn : cst w dw rt l 0 false (i + 1) = dtk (cst w dw rt l 0 false i).1 (cst w dw rt l 0 false i).2.1 (cst w dw rt l 0 false i).2.2.1 (cst w dw rt l 0 false i).2.2.2 w dw rt (rdOf false l (i : Int)) := by rw [cst]; rfl
  rw [show (9 : Nat) = 4 + 5 from rfl, cycle_Step_eq]
  unfold cstep
  rw [if_pos (cchk_zero.2 hcv), if_neg (by omega), ← hn]
theorem Step_over {w dw rt : Int} (h : dRule w dw rt) (l : List Bool) (W : Nat) (hW : cwst w dw rt = W) :
    cycle_Step.f 9 (cst w dw rt l 0 false W).1 (cst w dw rt l 0 false W).2.1 (cst w dw rt l 0 false W).2.2.1 (cst w dw rt l 0 false W).2.2.2 W false w dw rt false = some (0, 0, 0, 0, 0, false, false, 9) := by
  have hcv := cv_cst h l W (by omega)
  rw [show (9 : Nat) = 4 + 5 from rfl, cycle_Step_eq]
  unfold cstep
  rw [if_pos (cchk_zero.2 hcv), if_pos (by omega)]
theorem CLeft_ok {w dw rt : Int} (h : dRule w dw rt) (l : List Bool) (i : Nat) (hi : (i : Int) < cwst w dw rt) :
    cycle_Left.f 9 (cst w dw rt l 0 false (i + 1)).1 (cst w dw rt l 0 false (i + 1)).2.1 (cst w dw rt l 0 false (i + 1)).2.2.1 (cst w dw rt l 0 false (i + 1)).2.2.2 ((i : Int) + 1) false w dw rt = some (cwst w dw rt - i - 1, 0) := by
  have hcv2 := cv_cst h l (i + 1) (by omega)
  rw [show (9 : Nat) = 4 + 5 from rfl, show (i : Int) + 1 = ((i + 1 : Nat) : Int) by omega, cycle_Left_eq, if_pos (cchk_zero.2 hcv2)]
  congr 2
  omega
/-- What is true of a tick's panels. -/
theorem tick_facts {w dw rt : Int} (h : dRule w dw rt) (l : List Bool) (i : Nat) (hi : (i : Int) < cwst w dw rt) :
    0 ≤ (cst w dw rt l 0 false (i + 1)).2.1 ∧ (cst w dw rt l 0 false (i + 1)).2.1 ≤ cwst w dw rt - i - 1 ∧ (cst w dw rt l 0 false (i + 1)).2.1 ≤ w ∧ (cst w dw rt l 0 false (i + 1)).2.1 ≤ (cst w dw rt l 0 false i).2.1 + 1 ∧ (cst w dw rt l 0 false i).2.1 - 1 ≤ (cst w dw rt l 0 false (i + 1)).2.1 ∧
    0 ≤ (cst w dw rt l 0 false i).2.1 ∧ (cst w dw rt l 0 false i).2.1 ≤ 20 ∧
    dop (cst w dw rt l 0 false i).1 (cst w dw rt l 0 false i).2.1 w = (decide ((cst w dw rt l 0 false (i + 1)).2.1 = w) && decide ((cst w dw rt l 0 false i).2.1 < w)) := by
  have hb := cwst_bound h
  have hcv := cv_cst h l i (by omega)
  have hcv2 := cv_cst h l (i + 1) (by omega)
  have hpm := panel_most hcv2.door
  have hcf := hcv2.form.2.2
  have hsm := panel_small h l 0 false (i + 1)
  have hs0 := panel_small h l 0 false i
  have hwr := hcv2.door.range
  have hf := dtk_facts (rdOf false l (i : Int)) hcv.door
  have hn : cst w dw rt l 0 false (i + 1) = dtk (cst w dw rt l 0 false i).1 (cst w dw rt l 0 false i).2.1 (cst w dw rt l 0 false i).2.2.1 (cst w dw rt l 0 false i).2.2.2 w dw rt (rdOf false l (i : Int)) := by rw [cst]; rfl
  rw [← hn] at hf
  refine ⟨by omega, by omega, by omega, by omega, by omega, by omega, by omega, ?_⟩
  by_cases cw : (cst w dw rt l 0 false (i + 1)).2.1 = w
  · rw [hf.2.2.1 cw, decide_eq_true cw, Bool.true_and]
  · rw [hf.2.2.2 cw, decide_eq_false cw, Bool.false_and]
theorem last_panel {w dw rt : Int} (h : dRule w dw rt) (l : List Bool) (W : Nat) (hW : cwst w dw rt = W) : (cst w dw rt l 0 false W).2.1 = 0 := by
  have hcv := cv_cst h l W (by omega)
  have hpm := panel_most hcv.door
  have hcf := hcv.form.2.2
  omega
theorem Panel_at {w dw rt : Int} (l : List Bool) (W i : Nat) (hi : i < W) : (cpl w dw rt l 0 false W).getD i 0 = (cst w dw rt l 0 false (i + 1)).2.1 := cpl_at w dw rt l 0 false W i hi
end Go.Proofs.Ytmjmdnpenpdmhaa.P
