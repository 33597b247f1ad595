/- Forcing: before it nothing changes, behind it the panel falls by one in a tick, and at the end the door is closed. -/
import Derived.Test.YtmjmdnpenpdmhaaLCycleForces
import Derived.Test.YtmjmdnpenpdmhaaQp
namespace Go.Proofs.Ytmjmdnpenpdmhaa.Pure
open Go.RowKit Go.Proofs.Ytmjmdnpenpdmhaa.P Go.Proofs.YtmjmdnpenpdmhaaW.PrintWords Go.Proofs.YtmjmdnpenpdmhaaW.PrintLast Go.Proofs.YtmjmdnpenpdmhaaW.PrintMore
set_option linter.unusedSimpArgs false
set_option linter.unusedVariables false

theorem known_true (k : Nat) : q_CycleKnown.f (k + 40) = some true := by
  have h : q_CycleKnown.f 40 = some true := by decide +kernel
  induction k with
  | zero => exact h
  | succ k ih => exact q_CycleKnown.mono _ _ ih
theorem mod_eq (a m : Int) (hm : 1 ≤ m) (hm2 : m ≤ 10000000) : ∃ r, kit_Mod.f a m = some r ∧ 0 ≤ r ∧ r < m := by
  unfold kit_Mod.f
  rw [if_neg (by omega), if_neg (by omega)]
  have h1 := Int.tmod_lt_of_pos a (show 0 < m by omega)
  have h2 : -m < Int.tmod a m := by
    have h3 := Int.tmod_lt_of_pos (-a) (show 0 < m by omega)
    rw [Int.neg_tmod] at h3
    omega
  by_cases c : Int.tmod a m < 0
  · rw [if_pos c]
    exact ⟨_, rfl, by rw [wsm _ (by omega) (by omega)]; omega, by rw [wsm _ (by omega) (by omega)]; omega⟩
  · rw [if_neg c]
    exact ⟨_, rfl, by omega, h1⟩

/-! What the law makes of its arguments: a rule and samples, no more than the cycle takes. -/
theorem made_loop (w dw rt : Int) (h : dRule w dw rt) (l1 : List Int) : ∀ (d k : Nat) (l : List Bool) (i : Int), i = l.length → i ≤ cwst w dw rt → cwst w dw rt - i = d →
    ∃ l', q_made.l0 (k + d + 1) l1 l i w dw rt = some (w, dw, rt, l') ∧ (l'.length : Int) ≤ cwst w dw rt := by
  have hb := cwst_bound h
  have hc : wrap64 (wrap64 (wrap64 (2 * w) + dw) + wrap64 (rt * wrap64 (wrap64 (wrap64 (2 * w) - 1) + dw))) = cwst w dw rt := by
    have b : 0 ≤ rt * (2 * w - 1 + dw) ∧ rt * (2 * w - 1 + dw) ≤ 445 := by
      constructor
      · exact Int.mul_nonneg (by omega) (by omega)
      · exact Int.le_trans (Int.mul_le_mul (show rt ≤ 5 by omega) (show 2 * w - 1 + dw ≤ 89 by omega) (by omega) (by omega)) (by decide)
    rw [wsm (2 * w) (by omega) (by omega), wsm (2 * w + dw) (by omega) (by omega), wsm (2 * w - 1) (by omega) (by omega), wsm (2 * w - 1 + dw) (by omega) (by omega), wsm (rt * (2 * w - 1 + dw)) (by omega) (by omega), wsm _ (by omega) (by omega)]
    rfl
  intro d
  induction d with
  | zero =>
    intro k l i hi h1 h2
    rw [Nat.add_zero, q_made.l0, hc]
    by_cases c : i < (l1.length : Int)
    · rw [if_pos c, if_neg (by omega)]; exact ⟨l, rfl, by omega⟩
    · rw [if_neg c]; exact ⟨l, rfl, by omega⟩
  | succ d ih =>
    intro k l i hi h1 h2
    rw [q_made.l0, hc]
    by_cases c : i < (l1.length : Int)
    · obtain ⟨t, ht, _, _⟩ := mod_eq (rd l1 i) 3 (by omega) (by omega)
      rw [if_pos c, if_pos (by omega), if_pos (by omega), ht, Option.bind_some, if_pos (by omega), wsm (i + 1) (by omega) (by omega), show k + (d + 1) = k + d + 1 by omega]
      exact ih k _ (i + 1) (by rw [List.length_append]; simp; omega) (by omega) (by omega)
    · rw [if_neg c]; exact ⟨l, rfl, by omega⟩
theorem made_ok (a : Int) (l1 : List Int) (k : Nat) : ∃ w dw rt l, q_made.f (k + 700) a l1 = some (w, dw, rt, l) ∧ dRule w dw rt ∧ (l.length : Int) ≤ cwst w dw rt := by
  obtain ⟨t, ht, h0, h1⟩ := mod_eq a 1000 (by omega) (by omega)
  have e1 : Int.tmod t 5 = t % 5 := Int.tmod_eq_emod_of_nonneg h0
  have e2 : Int.tdiv t 5 = t / 5 := Int.tdiv_eq_ediv_of_nonneg h0
  have e3 : Int.tdiv t 25 = t / 25 := Int.tdiv_eq_ediv_of_nonneg h0
  have e4 : Int.tmod (t / 5) 5 = (t / 5) % 5 := Int.tmod_eq_emod_of_nonneg (by omega)
  have e5 : Int.tmod (t / 25) 4 = (t / 25) % 4 := Int.tmod_eq_emod_of_nonneg (by omega)
  have hr : dRule (1 + t % 5) (1 + (t / 5) % 5) ((t / 25) % 4) := by unfold dRule; omega
  have hb := cwst_bound hr
  obtain ⟨l, hl, h2⟩ := made_loop _ _ _ hr l1 (cwst (1 + t % 5) (1 + (t / 5) % 5) ((t / 25) % 4)).toNat (699 - (cwst (1 + t % 5) (1 + (t / 5) % 5) ((t / 25) % 4)).toNat + k) [] 0 rfl (by omega) (by omega)
  refine ⟨_, _, _, l, ?_, hr, h2⟩
  unfold q_made.f
  rw [ht, Option.bind_some, e1, e2, e3, wsm (t / 5) (by omega) (by omega), wsm (t / 25) (by omega) (by omega), e4, e5, wsm (1 + t % 5) (by omega) (by omega), wsm (1 + (t / 5) % 5) (by omega) (by omega), ← hl]
  congr 1
  omega

/-! The panels with and without forcing. -/
theorem cst_before (w dw rt : Int) (l : List Bool) (t : Int) : ∀ k : Nat, (k : Int) ≤ t → cst w dw rt l t true k = cst w dw rt l 0 false k
  | 0, _ => rfl
  | k + 1, h => by
    have e : ((k : Int) == t) = false := by simp; omega
    rw [cst, cst, cst_before w dw rt l t k (by omega), e]
    rfl
theorem cv_cst {w dw rt : Int} (h : dRule w dw rt) (l : List Bool) : ∀ k : Nat, (k : Int) ≤ cwst w dw rt → CV (cst w dw rt l 0 false k).1 (cst w dw rt l 0 false k).2.1 (cst w dw rt l 0 false k).2.2.1 (cst w dw rt l 0 false k).2.2.2 k false w dw rt
  | 0, _ => cv_begin h
  | k + 1, hk => by
    have := cv_tick (rdOf false l k) (cv_cst h l k (by omega)) (by omega)
    rw [cst]
    exact this
/-- A door that was forced: it is closed, or its panel falls. -/
def fallen (q : Int × Int × Int × Int) (x : Int) : Prop := q = (0, 0, 0, 0) ∧ x ≤ 0 ∨ q = (5, x, 0, 0) ∧ 0 < x
theorem fallen_tick {q : Int × Int × Int × Int} {x : Int} (h : fallen q x) (w dw rt : Int) (o : Bool) : fallen (dtk q.1 q.2.1 q.2.2.1 q.2.2.2 w dw rt o) (x - 1) := by
  rcases h with ⟨rfl, h⟩ | ⟨rfl, h⟩
  · exact Or.inl ⟨rfl, by omega⟩
  · by_cases c : x - 1 = 0
    · exact Or.inl ⟨by simp [dtk, c], by omega⟩
    · exact Or.inr ⟨by simp [dtk, c], by omega⟩
theorem fallen_panel {q : Int × Int × Int × Int} {x : Int} (h : fallen q x) : q.2.1 = mx 0 x := by
  unfold mx
  rcases h with ⟨rfl, h⟩ | ⟨rfl, h⟩
  · rw [if_neg (by omega)]
  · rw [if_pos (by omega)]
theorem cst_behind {w dw rt : Int} (l : List Bool) (t : Nat) (h : 0 ≤ (cst w dw rt l 0 false t).2.1) : ∀ d : Nat, fallen (cst w dw rt l t true (t + d + 1)) ((cst w dw rt l 0 false t).2.1 - d - 1)
  | 0 => by
    have e : ((t : Int) == (t : Int)) = true := by simp
    rw [Nat.add_zero, cst, cst_before w dw rt l t t (by omega), e]
    generalize cst w dw rt l 0 false t = q at h ⊢
    have hq : fallen (cfo q (true && true)) q.2.1 := by
      unfold cfo dfc
      rw [if_pos (show (true && true) = true from rfl)]
      by_cases c : q.2.1 = 0
      · rw [if_pos c]; exact Or.inl ⟨rfl, by omega⟩
      · rw [if_neg c]; exact Or.inr ⟨rfl, by omega⟩
    have := fallen_tick hq w dw rt (rdOf false l (t : Int))
    rw [show q.2.1 - ((0 : Nat) : Int) - 1 = q.2.1 - 1 by omega]
    exact this
  | d + 1 => by
    have e : (((t + d + 1 : Nat) : Int) == (t : Int)) = false := by simp; omega
    have := fallen_tick (cst_behind l t h d) w dw rt (rdOf false l ((t + d + 1 : Nat) : Int))
    rw [show t + (d + 1) + 1 = (t + d + 1) + 1 by omega, cst, e, show (cst w dw rt l 0 false t).2.1 - ((d + 1 : Nat) : Int) - 1 = (cst w dw rt l 0 false t).2.1 - (d : Int) - 1 - 1 by omega]
    exact this
theorem cpl_at (w dw rt : Int) (l : List Bool) (a : Int) (f : Bool) : ∀ (n k : Nat), k < n → (cpl w dw rt l a f n).getD k 0 = (cst w dw rt l a f (k + 1)).2.1
  | n + 1, k, h => by
    rw [cpl]
    by_cases c : k < n
    · rw [← cpl_at w dw rt l a f n k c, List.getD_eq_getElem?_getD, List.getD_eq_getElem?_getD, List.getElem?_append_left (by rw [cpl_len]; exact c)]
    · obtain rfl : k = n := by omega
      rw [List.getD_eq_getElem?_getD, List.getElem?_append_right (by rw [cpl_len]; exact Nat.le_refl _), cpl_len, Nat.sub_self]
      rfl
/-- What the law's loop looks at, tick for tick. -/
structure Rel (x10 x12 : List Int) (t : Int) (W : Nat) : Prop where
  at0 : 0 ≤ t
  len10 : x10.length = W
  len12 : x12.length = W
  before : ∀ i : Int, 0 ≤ i → i < W → i < t → rd x12 i = rd x10 i
  first : t = 0 → 0 < W → rd x12 0 = mx 0 (-1)
  behind : ∀ i : Int, 0 < i → i < W → t ≤ i → rd x12 i = mx 0 (rd x12 (i - 1) - 1)
  small : ∀ i : Int, 0 ≤ i → i < W → 0 ≤ rd x12 i ∧ rd x12 i ≤ 1000
theorem forces_loop {x10 x12 : List Int} {t : Int} {W : Nat} (h : Rel x10 x12 t W) (hW : W ≤ 600) : ∀ (d k : Nat) (i : Int), 0 ≤ i → (W : Int) - i = d → q_CycleForces.l0 (k + d + 1) t x10 x12 i = some true := by
  intro d
  induction d with
  | zero =>
    intro k i h0 h1
    rw [Nat.add_zero, q_CycleForces.l0, h.len10, if_neg (by omega)]
  | succ d ih =>
    intro k i h0 h1
    rw [q_CycleForces.l0, h.len10, h.len12, if_pos (by omega), wsm (i + 1) (by omega) (by omega), show k + (d + 1) = k + d + 1 by omega, ih k (i + 1) (by omega) (by omega)]
    by_cases c0 : i > 0
    · have hs := h.small (i - 1) (by omega) (by omega)
      rw [if_pos c0, wsm (i - 1) (by omega) (by omega), if_pos (by omega), if_pos (by omega), wsm (rd x12 (i - 1) - 1) (by omega) (by omega)]
      by_cases c : i < t
      · rw [if_pos c, if_pos h0, if_pos (by omega), if_pos (h.before i h0 (by omega) c), if_neg (by omega)]
      · rw [if_neg c, if_pos (by omega), if_pos h0, if_pos (by omega), if_pos (h.behind i c0 (by omega) (by omega))]
    · obtain rfl : i = 0 := by omega
      rw [if_neg c0]
      by_cases c : (0 : Int) < t
      · rw [if_pos c, if_pos h0, if_pos (by omega), if_pos (h.before 0 h0 (by omega) c), if_neg (by omega)]
      · have := h.at0
        rw [if_neg c, if_pos (by omega), if_pos h0, if_pos (by omega), if_pos (h.first (by omega) (by omega))]
theorem rd_cpl (w dw rt : Int) (l : List Bool) (a : Int) (f : Bool) (W : Nat) (i : Int) (h0 : 0 ≤ i) (h1 : i < W) : rd (cpl w dw rt l a f W) i = (cst w dw rt l a f (i.toNat + 1)).2.1 := by
  unfold rd
  exact cpl_at w dw rt l a f W i.toNat (by omega)
theorem panel_small {w dw rt : Int} (h : dRule w dw rt) (l : List Bool) (a : Int) (f : Bool) (k : Nat) : 0 ≤ (cst w dw rt l a f k).2.1 ∧ (cst w dw rt l a f k).2.1 ≤ 20 := by
  have hV := (cst_ok h l a f k).range
  omega
theorem rel_ok {w dw rt : Int} (h : dRule w dw rt) (l : List Bool) (t W : Nat) (hW : cwst w dw rt = W) (ht : t < W) :
    Rel (cpl w dw rt l 0 false W) (cpl w dw rt l t true W) t W ∧ rd (cpl w dw rt l t true W) ((W : Int) - 1) = 0 := by
  have hx := panel_small h l 0 false t
  have hbe : ∀ d : Nat, t + d < W → rd (cpl w dw rt l t true W) ((t + d : Nat) : Int) = mx 0 ((cst w dw rt l 0 false t).2.1 - d - 1) := fun d hd => by
    rw [rd_cpl _ _ _ _ _ _ _ _ (by omega) (by omega), Int.toNat_natCast, fallen_panel (cst_behind l t hx.1 d)]
  have hcv := cv_cst h l t (by omega)
  have hpm := panel_most hcv.door
  have hcf := hcv.form.2.2
  refine ⟨⟨by omega, cpl_len .., cpl_len .., fun i h0 h1 h2 => ?_, fun h0 h1 => ?_, fun i h0 h1 h2 => ?_, fun i h0 h1 => ?_⟩, ?_⟩
  · rw [rd_cpl _ _ _ _ _ _ _ _ h0 h1, rd_cpl _ _ _ _ _ _ _ _ h0 h1, cst_before _ _ _ _ _ _ (by omega)]
  · obtain rfl : t = 0 := by omega
    exact hbe 0 (by omega)
  · obtain ⟨d, rfl⟩ : ∃ d : Nat, i = ((t + d : Nat) : Int) := ⟨(i - t).toNat, by omega⟩
    rw [hbe d (by omega)]
    cases d with
    | zero =>
      rw [rd_cpl _ _ _ _ _ _ _ _ (by omega) (by omega), show (((t + 0 : Nat) : Int) - 1).toNat + 1 = t by omega, cst_before _ _ _ _ _ _ (by omega)]
      congr 1
      omega
    | succ d =>
      rw [show (((t + (d + 1) : Nat) : Int) - 1) = ((t + d : Nat) : Int) by omega, hbe d (by omega)]
      unfold mx
      repeat' split
      all_goals omega
  · rw [rd_cpl _ _ _ _ _ _ _ _ h0 h1]
    have := panel_small h l t true (i.toNat + 1)
    omega
  · rw [show (W : Int) - 1 = ((t + (W - 1 - t) : Nat) : Int) by omega, hbe _ (by omega)]
    unfold mx
    rw [if_neg (by omega)]

theorem CycleForces : q_CycleForces.Pure := by
  intro a0 l1 a2 _ _ _ _ _
  refine ⟨3000, ?_⟩
  obtain ⟨w, dw, rt, l, hm, hr, hl⟩ := made_ok a0 l1 2300
  have hb := cwst_bound hr
  obtain ⟨W, hW⟩ : ∃ W : Nat, cwst w dw rt = W := ⟨(cwst w dw rt).toNat, by omega⟩
  obtain ⟨t, ht, h0, h1⟩ := mod_eq a2 W (by omega) (by omega)
  obtain ⟨n, rfl⟩ : ∃ n : Nat, t = n := ⟨t.toNat, by omega⟩
  obtain ⟨hrel, hlast⟩ := rel_ok hr l n W hW (by omega)
  have hWn : (cwst w dw rt).toNat = W := by omega
  have e1 : cycle_Panels.f w dw rt l = some (cpl w dw rt l 0 false W, 0) := by
    unfold cycle_Panels.f cycle_panels.f
    rw [if_pos hr, if_neg (by omega), if_neg (fun q => by cases q.1), hWn, Option.bind_some]
  have e2 : cycle_Forced.f w dw rt l n = some (cpl w dw rt l n true W, 0) := by
    unfold cycle_Forced.f cycle_panels.f
    rw [if_pos hr, if_neg (by omega), if_neg (by omega), hWn, Option.bind_some]
  unfold q_CycleForces.f
  rw [show 3000 = 2960 + 40 from rfl, known_true, Option.bind_some, if_pos rfl, show 2960 + 40 = 2300 + 700 from rfl, hm, Option.bind_some]
  dsimp only
  rw [e1, Option.bind_some]
  dsimp only
  rw [if_pos rfl, hrel.len10, decide_eq_false (by omega), show 2300 + 700 = 2999 + 1 from rfl, q_CycleForces.j0, if_neg (by decide), hrel.len10, ht, Option.bind_some, e2, Option.bind_some]
  dsimp only
  rw [if_pos rfl, hrel.len12, if_pos rfl, wsm ((W : Int) - 1) (by omega) (by omega), if_pos (by omega), if_pos (by omega), hlast, show 2999 = 2998 + 1 from rfl, show ((0 : Int) != 0) = false from rfl, q_CycleForces.j1, if_neg (by decide), show 2998 = (2997 - W) + W + 1 by omega]
  exact forces_loop hrel (by omega) W _ 0 (by omega) (by omega)
end Go.Proofs.Ytmjmdnpenpdmhaa.Pure
