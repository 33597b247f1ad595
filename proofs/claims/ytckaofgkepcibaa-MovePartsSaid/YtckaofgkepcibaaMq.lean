/- What the law of two runs leans on: drives, shafts and padded moves in closed form: plain Lean, no program. -/
import Derived.Test.YtckaofgkepcibaaDrQ
import Derived.Test.YtckaofgkepcibaaP0drivea
import Derived.Test.YtckaofgkepcibaaP1drive
import Derived.Test.YtckaofgkepcibaaP1driveb
import Derived.Test.YtckaofgkepcibaaP0tipstaffkit
import Derived.Test.YtckaofgkepcibaaP0tipstaffref07
import Derived.Test.YtckaofgkepcibaaSa
import Derived.Test.YtckaofgkepcibaaP2shaft
import Derived.Test.YtckaofgkepcibaaMr
import Derived.Test.YtckaofgkepcibaaP2move
import Derived.Test.YtckaofgkepcibaaP3tipstafflaw15
namespace Go.Proofs.Ytckaofgkepcibaa.P
open Go.RowKit Go.Proofs.YtckaofgkepcibaaW.PrintWords Go.Proofs.YtckaofgkepcibaaW.PrintLast Go.Proofs.YtckaofgkepcibaaW.PrintMore
set_option linter.unusedSimpArgs false
set_option linter.unusedVariables false

/-- How many of the first k ticks the motor runs. -/
def dmc (sp br : Int) (s : DS) : Nat → Int
  | 0 => 0
  | k + 1 => dmc sp br s k + (if dmo sp br (dst sp br s k) = true then 1 else 0)
theorem mod_eq (a m : Int) (hm : 1 ≤ m) (hm2 : m ≤ 10000000) : ∃ r, kit_Mod.f a m = some r ∧ 0 ≤ r ∧ r < m := by
  unfold kit_Mod.f
  rw [if_neg (by omega), if_neg (by omega)]
  have h1 := Int.tmod_lt_of_pos a (show 0 < m by omega)
  have h2 : -m < Int.tmod a m := by
    have h3 := Int.tmod_lt_of_pos (-a) (show 0 < m by omega)
    rw [Int.neg_tmod] at h3
    omega
  by_cases h : Int.tmod a m < 0
  · rw [if_pos h]
    exact ⟨_, rfl, by rw [wsm _ (by omega) (by omega)]; omega, by rw [wsm _ (by omega) (by omega)]; omega⟩
  · rw [if_neg h]
    exact ⟨_, rfl, by omega, by omega⟩
theorem at_eq (a : Int) : drive_at.f a = some (decide (0 ≤ a ∧ a ≤ 63000)) := by
  unfold drive_at.f
  by_cases h : a ≥ 0
  · rw [if_pos h]
    by_cases h2 : a ≤ 63000
    · rw [decide_eq_true h2, decide_eq_true ⟨h, h2⟩]
    · rw [decide_eq_false h2, decide_eq_false (fun q => h2 q.2)]
  · rw [if_neg h, decide_eq_false (fun q => h q.1)]
theorem dleft_eq (p g s part left : Int) (h : 0 ≤ p ∧ p ≤ 63000 ∧ 0 ≤ g ∧ g ≤ 63000) : drive_left.f p g s part left = some (lf p g) := by
  unfold drive_left.f
  rw [mx_lf p g h]
theorem halves (s : Int) (h : 0 ≤ s) (h2 : s ≤ 20) : wrap64 (Int.tdiv (wrap64 (s * (wrap64 (s - 1)))) 2) = ptri (s - 1) := by
  have hb : 0 ≤ s * (s - 1) ∧ s * (s - 1) ≤ 20 * 20 := by
    by_cases h0 : s = 0
    · subst h0; decide
    · exact ⟨Int.mul_nonneg h (by omega), Int.mul_le_mul h2 (by omega) (by omega) (by omega)⟩
  rw [wsm (s - 1) (by omega) (by omega), wsm (s * (s - 1)) (by omega) (by omega), Int.tdiv_eq_ediv_of_nonneg hb.1, wsm _ (by omega) (by omega)]
  unfold ptri
  rw [show s - 1 + 1 = s from by omega, Int.mul_comm]
theorem formed_ok (k : Nat) {sp br p g s part left : Int} (h : DV sp br p g s part left) : drive_formed.f (k + 2) p g s part left = some true := by
  obtain ⟨hr, hpl, hf⟩ := h
  have hl := lf_le hpl
  have hz : lf p p = 0 := by unfold lf; rw [if_pos (Int.le_refl _)]; omega
  unfold drive_formed.f
  have hm : ptri (0 - 1) = 0 := by decide
  rcases hf with ⟨rfl, rfl, rfl, rfl⟩ | ⟨rfl, e2, rfl, e4, e5⟩ | ⟨rfl, e2, rfl, e4, e5, e6⟩ | ⟨rfl, rfl, rfl, e4, e5⟩
  · rw [if_neg (by decide), drive_formed.j0, if_neg (by decide), if_pos rfl, drive_formed.j1, dleft_eq g g 0 0 0 hpl, Option.bind_some, hz, if_neg (by decide), if_neg (by decide), if_pos rfl, Option.bind_some, halves 0 (by decide) (by decide), hm]
    rfl
  · have := hl.2.2 e2
    rw [if_pos rfl, drive_formed.j0, decide_eq_true e4, if_neg (by decide), if_neg (by decide), drive_formed.j1, dleft_eq p g 0 1 left hpl, Option.bind_some, show (lf p g == 0) = false from beq_eq_false_iff_ne.mpr (by omega), if_neg (by decide), if_neg (by decide), if_pos rfl, Option.bind_some, halves 0 (by decide) (by decide), hm, decide_eq_true hl.1]
  · have := hl.2.2 e2
    rw [if_neg (by decide), drive_formed.j0, if_neg (by decide), if_neg (by decide), drive_formed.j1, dleft_eq p g s 2 0 hpl, Option.bind_some, show (lf p g == 0) = false from beq_eq_false_iff_ne.mpr (by omega), if_neg (by decide), if_pos rfl, Option.bind_some, halves s e4 (by omega), decide_eq_true e6]
  · rw [if_neg (by decide), drive_formed.j0, decide_eq_true e4, if_neg (by decide), if_neg (by decide), drive_formed.j1, dleft_eq g g 0 3 left hpl, Option.bind_some, hz, if_neg (by decide), if_neg (by decide), if_pos rfl, Option.bind_some, halves 0 (by decide) (by decide), hm]
    rfl
theorem check_ok (k : Nat) {sp br p g s part left : Int} (h : DV sp br p g s part left) (hb : br ≤ 5) : drive_Check.f (k + 3) p g s part left = some 0 := by
  have hr := h.rule
  have hpl := h.place
  have hf := h.form
  unfold drive_Check.f
  rw [at_eq, at_eq, decide_eq_true (show 0 ≤ p ∧ p ≤ 63000 by omega), decide_eq_true (show 0 ≤ g ∧ g ≤ 63000 by omega), Option.bind_some, if_pos rfl, Option.bind_some, if_pos rfl, if_neg (by omega), if_neg (by omega), if_neg (by omega), if_neg (by omega), if_neg (by omega), decide_eq_false (by omega), drive_Check.j0, if_neg (by decide), formed_ok k h, Option.bind_some, if_pos rfl]
theorem checked_ok (k : Nat) {sp br p g s part left n : Int} (h : DV sp br p g s part left) (hb : br ≤ 5) (hn : 0 ≤ n ∧ n ≤ 200000) : drive_rule_checked.f (k + 3) sp br p g s part left n = some 0 := by
  have hr := h.rule
  have hf := h.form
  unfold drive_rule_checked.f drive_rule_valid.f
  rw [check_ok k h hb, Option.bind_some, if_pos rfl, if_pos (by omega), if_pos (by omega), if_pos (by omega), decide_eq_true hb, Option.bind_some, if_pos rfl, if_neg (by omega), decide_eq_false (by omega), drive_rule_checked.j0, if_neg (by decide), if_neg (by omega), if_neg (by omega)]
theorem Step_ok (k : Nat) {sp br p g s part left : Int} (h : DV sp br p g s part left) (hb : br ≤ 5) (hp : part ≠ 0) :
    drive_Step.f (k + 3) p g s part left sp br = some ((tk sp br p g s part left).1, (tk sp br p g s part left).2.1, (tk sp br p g s part left).2.2.1, (tk sp br p g s part left).2.2.2.1, (tk sp br p g s part left).2.2.2.2.1, (tk sp br p g s part left).2.2.2.2.2, 0) := by
  unfold drive_Step.f
  rw [checked_ok k h hb (by omega), Option.bind_some, if_pos rfl, show k + 3 = (k + 2) + 1 from rfl, tick_eq (k + 2) h hp, Option.bind_some]
/-- Where a drive sets out. -/
theorem goes_ok (p d br : Int) (hf : 0 ≤ p ∧ p ≤ 63000) (ht : 0 ≤ d ∧ d ≤ 63000) (hb : 0 ≤ br ∧ br ≤ 5) :
    ∃ part left, drive_goes.f p p 0 0 0 d br = some (p, d, 0, part, left) ∧ ∀ sp, 1 ≤ sp ∧ sp ≤ 20 → DV sp br p d 0 part left := by
  have hl0 : ptri (0 - 1) = 0 := by decide
  by_cases c : d = p
  · subst c
    exact ⟨0, 0, by unfold drive_goes.f; rw [if_pos rfl], fun sp hs => ⟨by omega, by omega, .inl ⟨rfl, rfl, rfl, rfl⟩⟩⟩
  · by_cases cb : br = 0
    · exact ⟨2, br, by unfold drive_goes.f; rw [if_neg c, if_pos cb], fun sp hs => ⟨by omega, by omega, .inr (.inr (.inl ⟨rfl, c, cb, by omega, by omega, by rw [hl0]; exact (lf_le ⟨hf.1, hf.2, ht.1, ht.2⟩).1⟩))⟩⟩
    · exact ⟨1, br, by unfold drive_goes.f; rw [if_neg c, if_neg cb], fun sp hs => ⟨by omega, by omega, .inr (.inl ⟨rfl, c, rfl, by omega, Int.le_refl _⟩)⟩⟩
theorem Go_ok (k : Nat) (p d br part left : Int) (hf : 0 ≤ p ∧ p ≤ 63000) (ht : 0 ≤ d ∧ d ≤ 63000) (hb : 0 ≤ br ∧ br ≤ 5) (hg : drive_goes.f p p 0 0 0 d br = some (p, d, 0, part, left)) :
    drive_Go.f (k + 3) p p 0 0 0 d br = some (p, d, 0, part, left, 0) := by
  have hr : DV 1 br p p 0 0 0 := ⟨by omega, by omega, .inl ⟨rfl, rfl, rfl, rfl⟩⟩
  unfold drive_Go.f
  rw [check_ok k hr hb.2, Option.bind_some, if_pos rfl, at_eq, decide_eq_true ht, Option.bind_some, if_pos rfl, if_neg (by omega), decide_eq_false (by omega), drive_Go.j0, if_neg (by decide), if_pos rfl, hg, Option.bind_some]
theorem dst_add (sp br : Int) (s : DS) (k : Nat) : ∀ m, dst sp br s (k + m) = dst sp br (dst sp br s k) m
  | 0 => rfl
  | m + 1 => by
    have := dst_add sp br s k m
    rw [show k + (m + 1) = (k + m) + 1 from rfl, dst, this]
    rfl
theorem dmc_add (sp br : Int) (s : DS) (k : Nat) : ∀ m, dmc sp br s (k + m) = dmc sp br s k + dmc sp br (dst sp br s k) m
  | 0 => by show dmc sp br s k = dmc sp br s k + 0; omega
  | m + 1 => by
    have h := dmc_add sp br s k m
    rw [show k + (m + 1) = (k + m) + 1 from rfl, dmc, h, dst_add sp br s k m, dmc]
    omega
theorem dcnt_at {sp br : Int} {K : Nat} {s : DS} {T : Nat} (h : dcnt sp br K s = some T) : ∀ k, k ≤ T → dcnt sp br K (dst sp br s k) = some (T - k)
  | 0, _ => h
  | k + 1, hk => ((dcnt_run sp br K s T h).2 k (by omega)).2.2
theorem dst_ok {sp br : Int} {p g s part left : Int} (h : DV sp br p g s part left) {T : Nat} (hT : dcnt sp br 70000 (p, g, s, part, left) = some T) : ∀ k, k ≤ T →
    DV sp br (dst sp br (p, g, s, part, left) k).1 (dst sp br (p, g, s, part, left) k).2.1 (dst sp br (p, g, s, part, left) k).2.2.1 (dst sp br (p, g, s, part, left) k).2.2.2.1 (dst sp br (p, g, s, part, left) k).2.2.2.2
  | 0, _ => h
  | k + 1, hk => by
    have ih := dst_ok h hT k (by omega)
    obtain ⟨q1, _, _⟩ := (dcnt_run sp br 70000 _ T hT).2 k (by omega)
    have ht := (tk_ok ih q1).1
    have e : dst sp br (p, g, s, part, left) (k + 1) = ((tk sp br (dst sp br (p, g, s, part, left) k).1 (dst sp br (p, g, s, part, left) k).2.1 (dst sp br (p, g, s, part, left) k).2.2.1 (dst sp br (p, g, s, part, left) k).2.2.2.1 (dst sp br (p, g, s, part, left) k).2.2.2.2).1,
        (tk sp br (dst sp br (p, g, s, part, left) k).1 (dst sp br (p, g, s, part, left) k).2.1 (dst sp br (p, g, s, part, left) k).2.2.1 (dst sp br (p, g, s, part, left) k).2.2.2.1 (dst sp br (p, g, s, part, left) k).2.2.2.2).2.1,
        (tk sp br (dst sp br (p, g, s, part, left) k).1 (dst sp br (p, g, s, part, left) k).2.1 (dst sp br (p, g, s, part, left) k).2.2.1 (dst sp br (p, g, s, part, left) k).2.2.2.1 (dst sp br (p, g, s, part, left) k).2.2.2.2).2.2.1,
        (tk sp br (dst sp br (p, g, s, part, left) k).1 (dst sp br (p, g, s, part, left) k).2.1 (dst sp br (p, g, s, part, left) k).2.2.1 (dst sp br (p, g, s, part, left) k).2.2.2.1 (dst sp br (p, g, s, part, left) k).2.2.2.2).2.2.2.1,
        (tk sp br (dst sp br (p, g, s, part, left) k).1 (dst sp br (p, g, s, part, left) k).2.1 (dst sp br (p, g, s, part, left) k).2.2.1 (dst sp br (p, g, s, part, left) k).2.2.2.1 (dst sp br (p, g, s, part, left) k).2.2.2.2).2.2.2.2.1) := by
      rw [dst]
      unfold dnx dtick?
      rw [show 20 = 19 + 1 from rfl, tick_eq 19 ih q1]
    rw [e]
    exact ht

theorem NeedsP_ok (k : Nat) {sp br p g s part left : Int} (h : DV sp br p g s part left) (hb : br ≤ 5) {T : Nat} (hT : dcnt sp br 70000 (p, g, s, part, left) = some T) :
    drive_Needs.f (k + 3) p g s part left sp br = some ((T : Int), 0) := by
  unfold drive_Needs.f drive_rule_needs.f
  rw [checked_ok k h hb (by omega), Option.bind_some, if_pos rfl, hT]
  rfl
/-- How far a tick goes. -/
theorem tk_go {sp br p g s part left : Int} (h : DV sp br p g s part left) (hp : part ≠ 0) :
    (tk sp br p g s part left).2.1 = g ∧ ((tk sp br p g s part left).2.2.2.2.2 = true ∧ part = 2 ∨ (tk sp br p g s part left).2.2.2.2.2 = false ∧ (tk sp br p g s part left).1 = p ∧ s = 0) ∧
    ∃ d, 0 ≤ d ∧ d ≤ sp ∧ d ≤ s + 1 ∧ s - 1 ≤ d ∧ (g < p → (tk sp br p g s part left).1 = p - d) ∧ (¬ g < p → (tk sp br p g s part left).1 = p + d) ∧ ((tk sp br p g s part left).2.2.2.1 = 2 → (tk sp br p g s part left).2.2.1 = d) ∧
      (g < p → g ≤ p - d) ∧ (¬ g < p → p + d ≤ g) := by
  obtain ⟨hr, hpl, hf⟩ := h
  have hl := lf_le hpl
  rcases hf with ⟨e, _⟩ | ⟨rfl, e2, rfl, e4, e5⟩ | ⟨rfl, e2, rfl, e4, e5, e6⟩ | ⟨rfl, rfl, rfl, e4, e5⟩
  · exact absurd e hp
  · unfold tk
    rw [if_neg (by decide), if_pos rfl]
    exact ⟨rfl, .inr ⟨rfl, rfl, rfl⟩, 0, by omega, by omega, by omega, by omega, fun _ => by dsimp only; omega, fun _ => by dsimp only; omega, fun _ => rfl, fun _ => by omega, fun _ => by omega⟩
  · obtain ⟨v, hv, v1, v2, v3, v4, v5, v6, v7, _⟩ := pnext_ok e4 e5 hr.1 (hl.2.2 e2) e6
    unfold tk
    rw [if_pos rfl, hv]
    dsimp only
    by_cases c : g < p
    · have e1 : lf p g = p - g := by unfold lf; rw [if_neg (by omega)]
      rw [if_pos c]
      by_cases c2 : p - v = g
      · rw [if_pos c2]
        refine ⟨rfl, .inl ⟨rfl, rfl⟩, v, by omega, by omega, by omega, by omega, fun _ => c2.symm, fun q => absurd c q, fun q => ?_, fun _ => by omega, fun q => absurd c q⟩
        dsimp only at q
        split at q <;> omega
      · rw [if_neg c2]
        exact ⟨rfl, .inl ⟨rfl, rfl⟩, v, by omega, by omega, by omega, by omega, fun _ => rfl, fun q => absurd c q, fun _ => rfl, fun _ => by omega, fun q => absurd c q⟩
    · have e1 : lf p g = g - p := by unfold lf; rw [if_pos (by omega)]
      rw [if_neg c]
      by_cases c2 : p + v = g
      · rw [if_pos c2]
        refine ⟨rfl, .inl ⟨rfl, rfl⟩, v, by omega, by omega, by omega, by omega, fun q => absurd q c, fun _ => c2.symm, fun q => ?_, fun q => absurd q c, fun _ => by omega⟩
        dsimp only at q
        split at q <;> omega
      · rw [if_neg c2]
        exact ⟨rfl, .inl ⟨rfl, rfl⟩, v, by omega, by omega, by omega, by omega, fun q => absurd q c, fun _ => rfl, fun _ => rfl, fun q => absurd q c, fun _ => by omega⟩
  · unfold tk
    rw [if_neg (by decide), if_neg (by decide), if_pos rfl]
    refine ⟨rfl, .inr ⟨rfl, rfl, rfl⟩, 0, by omega, by omega, by omega, by omega, fun _ => by dsimp only; omega, fun _ => by dsimp only; omega, fun _ => rfl, fun _ => by omega, fun _ => by omega⟩
theorem pnext_top (v lim : Int) (h : 1 ≤ v) (h2 : v + 1 ≤ lim) : pnext v (ptri v) lim = (v, true) ∧ pnext (v + 1) (ptri v) lim = (v, true) := by
  have e := ptri_succ v
  have e2 := ptri_succ (v + 1)
  have n1 : ¬ pok (v + 1) (ptri v) lim := fun q => by have := q.2.2; omega
  have n2 : ¬ pok (v + 1 + 1) (ptri v) lim := fun q => by have := q.2.2; omega
  have p : pok v (ptri v) lim := ⟨by omega, by omega, Int.le_refl _⟩
  refine ⟨by unfold pnext; rw [if_neg n1, if_pos p], ?_⟩
  unfold pnext
  rw [if_neg n2, if_neg n1, show v + 1 - 1 = v from by omega, if_pos p]
theorem pcnt_top (v lim : Int) (h : 1 ≤ v) (h2 : v + 1 ≤ lim) (h3 : lim ≤ 1000) (K : Nat) : pcnt lim K (v, ptri v) = pcnt lim K (v + 1, ptri v) := by
  cases K with
  | zero => rfl
  | succ K =>
    obtain ⟨e1, e2⟩ := pnext_top v lim h h2
    rw [pcnt, pcnt]
    have c1 : (0 ≤ v ∧ v ≤ 1000 ∧ ptri v ≤ 1000000) ↔ (0 ≤ v + 1 ∧ v + 1 ≤ 1000 ∧ ptri v ≤ 1000000) := by omega
    have : pnx lim (v, ptri v) = pnx lim (v + 1, ptri v) := by unfold pnx; dsimp only; rw [e1, e2]
    dsimp only
    rw [this]
    simp only [c1]
theorem pcnt_le (lim : Int) (h1 : 1 ≤ lim) (h2 : lim ≤ 1000) : ∀ (K : Nat) (s L : Int) (a b : Nat), 0 ≤ s → s ≤ lim → ptri (s - 1) ≤ L → pcnt lim K (s, L) = some a → pcnt lim K (s, L + 1) = some b → a ≤ b := by
  intro K
  induction K with
  | zero => intro s L a b _ _ _ h; cases h
  | succ K ih =>
    intro s L a b h0 hs ht ha hb
    rw [pcnt] at ha hb
    dsimp only at ha hb
    by_cases c : L > 0
    · rw [if_pos c] at ha
      rw [if_pos (by omega)] at hb
      by_cases c1 : 0 ≤ s ∧ s ≤ 1000 ∧ L ≤ 1000000
      · by_cases c2 : 0 ≤ s ∧ s ≤ 1000 ∧ L + 1 ≤ 1000000
        · rw [if_pos c1] at ha
          rw [if_pos c2] at hb
          obtain ⟨m, hm, rfl⟩ := Option.map_eq_some_iff.mp ha
          obtain ⟨n, hn, rfl⟩ := Option.map_eq_some_iff.mp hb
          obtain ⟨v, e, v1, v2, v3, v4, v5, v6, v7, v8⟩ := pnext_ok h0 hs h1 (show 1 ≤ L by omega) ht
          obtain ⟨u, e', u1, u2, u3, u4, u5, u6, u7, u8⟩ := pnext_ok h0 hs h1 (show 1 ≤ L + 1 by omega) (show ptri (s - 1) ≤ L + 1 by omega)
          unfold pnx at hm hn
          dsimp only at hm hn
          rw [e] at hm
          rw [e'] at hn
          dsimp only at hm hn
          have mono : ∀ x, pok x L lim → pok x (L + 1) lim := fun x q => ⟨q.1, q.2.1, by have := q.2.2; omega⟩
          by_cases cu : u = v
          · subst cu
            rw [show L + 1 - u = (L - u) + 1 from by omega] at hn
            have := ih u (L - u) m n (by omega) v2 v4 hm hn
            omega
          · have hv : v = u - 1 ∧ ¬ pok u L lim := by
              rcases v8 with v8 | ⟨v8, w1⟩ | ⟨v8, w1, w2⟩
              · have p : pok (s + 1) L lim := ⟨by omega, by omega, by rw [← v8]; exact v7⟩
                rcases u8 with u8 | ⟨u8, x1⟩ | ⟨u8, x1, x2⟩
                · omega
                · exact absurd (mono _ p) x1
                · exact absurd (mono _ p) x1
              · have p : pok s L lim := ⟨by omega, by omega, by rw [← v8]; exact v7⟩
                rcases u8 with u8 | ⟨u8, x1⟩ | ⟨u8, x1, x2⟩
                · exact ⟨by omega, by rw [u8]; exact w1⟩
                · omega
                · exact absurd (mono _ p) x2
              · rcases u8 with u8 | ⟨u8, x1⟩ | ⟨u8, x1, x2⟩
                · have e3 := ptri_succ s
                  rw [u8] at u7
                  exact absurd ⟨by omega, by omega, by omega⟩ w2
                · exact ⟨by omega, by rw [u8]; exact w2⟩
                · omega
            obtain ⟨hv, hp⟩ := hv
            obtain rfl : u = v + 1 := by omega
            have e3 := ptri_succ v
            have : ¬ ptri (v + 1) ≤ L := fun q => hp ⟨by omega, u2, q⟩
            have hL : L - v = ptri v := by omega
            rw [hL, pcnt_top v lim v1 u2 h2 K] at hm
            rw [show L + 1 - (v + 1) = L - v from by omega, hL] at hn
            rw [hm] at hn
            have := Option.some.inj hn
            omega
        · rw [if_neg c2] at hb; cases hb
      · rw [if_neg c1] at ha; cases ha
    · rw [if_neg c] at ha
      have := Option.some.inj ha
      omega
theorem pcnt_ex (lim : Int) (h1 : 1 ≤ lim) (h2 : lim ≤ 20) : ∀ (K : Nat) (s L : Int), 0 ≤ s → s ≤ lim → ptri (s - 1) ≤ L → 0 ≤ L → L < K → L ≤ 70000 → ∃ T, pcnt lim K (s, L) = some T ∧ (T : Int) ≤ L := by
  intro K
  induction K with
  | zero => intro s L _ _ _ h h'; omega
  | succ K ih =>
    intro s L h0 hs ht hL hK h7
    rw [pcnt]
    dsimp only
    by_cases c : L > 0
    · obtain ⟨v, e, v1, v2, v3, v4, v5, v6, v7, v8⟩ := pnext_ok h0 hs h1 (show 1 ≤ L by omega) ht
      obtain ⟨T, hT, hl⟩ := ih v (L - v) (by omega) v2 v4 (by omega) (by omega) (by omega)
      refine ⟨T + 1, ?_, by omega⟩
      rw [if_pos c, if_pos ⟨h0, by omega, by omega⟩]
      unfold pnx
      dsimp only
      rw [e]
      dsimp only
      rw [hT]
      rfl
    · rw [if_neg c]
      exact ⟨0, rfl, by omega⟩

/-- A drive comes to rest after N ticks, M of them with the motor. -/
structure Runs (sp br : Int) (s : DS) (N : Nat) (M : Int) (f : DS) : Prop where
  last : dst sp br s N = f
  rest : f.2.2.2.1 = 0
  busy : ∀ k, k < N → (dst sp br s k).2.2.2.1 ≠ 0
  motor : dmc sp br s N = M
theorem Runs.count {sp br : Int} {s f : DS} {N K T : Nat} {M : Int} (h : Runs sp br s N M f) (hT : dcnt sp br K s = some T) : T = N := by
  obtain ⟨h1, h2⟩ := dcnt_run sp br K s T hT
  have a1 : ¬ N < T := fun c => (h2 N c).1 (by rw [h.last]; exact h.rest)
  have a2 : ¬ T < N := fun c => h.busy T c h1
  omega
theorem Runs.step {sp br : Int} {s f : DS} {N : Nat} {M : Int} (hp : s.2.2.2.1 ≠ 0) (h : Runs sp br (dnx sp br s) N M f) : Runs sp br s (N + 1) ((if dmo sp br s = true then 1 else 0) + M) f := by
  have e : ∀ k, dst sp br s (k + 1) = dst sp br (dnx sp br s) k := fun k => by have := dst_add sp br s 1 k; rw [Nat.add_comm 1 k] at this; exact this
  refine ⟨by rw [e]; exact h.last, h.rest, fun k hk => ?_, ?_⟩
  · cases k with
    | zero => exact hp
    | succ k => rw [e]; exact h.busy k (by omega)
  · have := dmc_add sp br s 1 N
    rw [Nat.add_comm 1 N] at this
    rw [this]
    have e1 : dmc sp br s 1 = (if dmo sp br s = true then 1 else 0) := by show 0 + _ = _; rw [Int.zero_add]; rfl
    rw [e1]
    show _ + dmc sp br (dnx sp br s) N = _
    rw [h.motor]
theorem dnx_eq {sp br p g s part left : Int} (h : DV sp br p g s part left) (hp : part ≠ 0) : dnx sp br (p, g, s, part, left) = ((tk sp br p g s part left).1, (tk sp br p g s part left).2.1, (tk sp br p g s part left).2.2.1, (tk sp br p g s part left).2.2.2.1, (tk sp br p g s part left).2.2.2.2.1) ∧ dmo sp br (p, g, s, part, left) = (tk sp br p g s part left).2.2.2.2.2 := by
  unfold dnx dmo dtick?
  rw [show 20 = 19 + 1 from rfl, tick_eq 19 h hp]
  exact ⟨rfl, rfl⟩
theorem runs_set {sp br g : Int} (hr : 1 ≤ sp ∧ sp ≤ 20 ∧ 0 ≤ br ∧ br ≤ 1000) (hg : 0 ≤ g ∧ g ≤ 63000) : ∀ n : Nat, ((n : Int) + 1) ≤ br → Runs sp br (g, g, 0, 3, (n : Int) + 1) (n + 1) 0 (g, g, 0, 0, 0) := by
  intro n
  induction n with
  | zero =>
    intro hn
    have h : DV sp br g g 0 3 ((0 : Nat) + 1) := ⟨hr, by omega, .inr (.inr (.inr ⟨rfl, rfl, rfl, by omega, by omega⟩))⟩
    obtain ⟨e1, e2⟩ := dnx_eq h (by decide)
    have := Runs.step (sp := sp) (br := br) (s := (g, g, 0, 3, ((0 : Nat) : Int) + 1)) (f := (g, g, 0, 0, 0)) (N := 0) (M := 0) (by show (3 : Int) ≠ 0; decide) (by rw [e1]; exact ⟨rfl, rfl, fun k hk => by omega, rfl⟩)
    rw [e2] at this
    exact this
  | succ n ih =>
    intro hn
    have h : DV sp br g g 0 3 ((n + 1 : Nat) + 1) := ⟨hr, by omega, .inr (.inr (.inr ⟨rfl, rfl, rfl, by omega, by omega⟩))⟩
    obtain ⟨e1, e2⟩ := dnx_eq h (by decide)
    have et : tk sp br g g 0 3 ((n + 1 : Nat) + 1) = (g, g, 0, 3, (n : Int) + 1, false) := by
      unfold tk
      rw [if_neg (by decide), if_neg (by decide), if_pos rfl, if_neg (by omega), show (((n + 1 : Nat) : Int) + 1 - 1) = (n : Int) + 1 from by omega]
    rw [et] at e1 e2
    have := Runs.step (sp := sp) (br := br) (s := (g, g, 0, 3, ((n + 1 : Nat) : Int) + 1)) (f := (g, g, 0, 0, 0)) (N := n + 1) (M := 0) (by show (3 : Int) ≠ 0; decide) (by rw [e1]; exact ih (by omega))
    rw [e2] at this
    exact this
theorem runs_go {sp br g : Int} : ∀ (K : Nat) (p s : Int) (T : Nat), DV sp br p g s 2 0 → pcnt sp K (s, lf p g) = some T → Runs sp br (p, g, s, 2, 0) (T + br.toNat) T (g, g, 0, 0, 0) := by
  intro K
  induction K with
  | zero => intro p s T _ h; cases h
  | succ K ih =>
    intro p s T h hc
    have hf : g ≠ p ∧ 0 ≤ s ∧ s ≤ sp ∧ ptri (s - 1) ≤ lf p g := by
      rcases h.form with ⟨e, _⟩ | ⟨e, _⟩ | ⟨_, q⟩ | ⟨e, _⟩
      · exact absurd e (by decide)
      · exact absurd e (by decide)
      · exact ⟨q.1, q.2.2.1, q.2.2.2.1, q.2.2.2.2⟩
      · exact absurd e (by decide)
    have hl := lf_le h.place
    have hl1 := hl.2.2 hf.1
    obtain ⟨v, e, v1, v2, v3, v4, v5, v6, v7, v8⟩ := pnext_ok hf.2.1 hf.2.2.1 h.rule.1 hl1 hf.2.2.2
    rw [pcnt] at hc
    dsimp only at hc
    rw [if_pos (by omega)] at hc
    by_cases c1 : 0 ≤ s ∧ s ≤ 1000 ∧ lf p g ≤ 1000000
    · rw [if_pos c1] at hc
      obtain ⟨m, hm, rfl⟩ := Option.map_eq_some_iff.mp hc
      unfold pnx at hm
      dsimp only at hm
      rw [e] at hm
      dsimp only at hm
      obtain ⟨e1, e2⟩ := dnx_eq h (by decide)
      have ht := (tk_ok h (by decide)).1
      obtain ⟨q, hq⟩ : ∃ q, q = (if g < p then p - v else p + v) := ⟨_, rfl⟩
      have et : tk sp br p g s 2 0 = if q = g then (g, g, 0, (if br = 0 then 0 else 3), br, true) else (q, g, v, 2, 0, true) := by
        unfold tk
        rw [if_pos rfl, e]
        dsimp only
        rw [← hq]
      have hq2 : lf q g = lf p g - v ∧ (q = g ↔ lf p g = v) := by
        unfold lf at *
        split at hq <;> split at v3 <;> (try split) <;> omega
      rw [et] at e1 e2 ht
      have hr := h.rule
      have hpl := h.place
      by_cases cq : q = g
      · rw [if_pos cq] at e1 e2 ht
        have hm0 : m = 0 := by
          have : lf p g = v := hq2.2.1 cq
          rw [this, Int.sub_self] at hm
          cases K with
          | zero => cases hm
          | succ K =>
            rw [pcnt] at hm
            dsimp only at hm
            rw [if_neg (by omega)] at hm
            exact (Option.some.inj hm).symm
        subst hm0
        by_cases cb : br = 0
        · subst cb
          rw [if_pos rfl] at e1
          have := Runs.step (sp := sp) (br := 0) (s := (p, g, s, 2, 0)) (f := (g, g, 0, 0, 0)) (N := 0) (M := 0) (by show (2 : Int) ≠ 0; decide) (by rw [e1]; exact ⟨rfl, rfl, fun k hk => by omega, rfl⟩)
          rw [e2] at this
          exact this
        · rw [if_neg cb] at e1
          obtain ⟨n, hn⟩ : ∃ n : Nat, br = (n : Int) + 1 := ⟨(br - 1).toNat, by omega⟩
          have h3 := runs_set (sp := sp) (br := br) (g := g) hr ⟨hpl.2.2.1, hpl.2.2.2⟩ n (by omega)
          have := Runs.step (sp := sp) (br := br) (s := (p, g, s, 2, 0)) (f := (g, g, 0, 0, 0)) (N := n + 1) (M := 0) (by show (2 : Int) ≠ 0; decide) (by rw [e1]; dsimp only; rw [← hn] at h3; exact h3)
          rw [e2] at this
          rw [show 0 + 1 + br.toNat = n + 1 + 1 from by omega]
          exact this
      · rw [if_neg cq] at e1 e2 ht
        rw [← hq2.1] at hm
        have h3 := ih q v m ht hm
        have := Runs.step (sp := sp) (br := br) (s := (p, g, s, 2, 0)) (f := (g, g, 0, 0, 0)) (by show (2 : Int) ≠ 0; decide) (by rw [e1]; exact h3)
        rw [e2] at this
        rw [show m + 1 + br.toNat = m + br.toNat + 1 from by omega, show ((m + 1 : Nat) : Int) = (if true = true then 1 else 0) + (m : Int) from by rw [if_pos rfl]; omega]
        exact this
    · rw [if_neg c1] at hc; cases hc
theorem runs_release {sp br p g : Int} (hr : 1 ≤ sp ∧ sp ≤ 20 ∧ 0 ≤ br ∧ br ≤ 1000) (hp : 0 ≤ p ∧ p ≤ 63000 ∧ 0 ≤ g ∧ g ≤ 63000) (hne : g ≠ p) {N : Nat} {M : Int} {f : DS} (hR : Runs sp br (p, g, 0, 2, 0) N M f) : ∀ n : Nat, ((n : Int) + 1) ≤ br → Runs sp br (p, g, 0, 1, (n : Int) + 1) (N + (n + 1)) M f := by
  intro n
  induction n with
  | zero =>
    intro hn
    have h : DV sp br p g 0 1 ((0 : Nat) + 1) := ⟨hr, hp, .inr (.inl ⟨rfl, hne, rfl, by omega, by omega⟩)⟩
    obtain ⟨e1, e2⟩ := dnx_eq h (by decide)
    have et : tk sp br p g 0 1 ((0 : Nat) + 1) = (p, g, 0, 2, 0, false) := rfl
    rw [et] at e1 e2
    have := Runs.step (sp := sp) (br := br) (s := (p, g, 0, 1, ((0 : Nat) : Int) + 1)) (by show (1 : Int) ≠ 0; decide) (by rw [e1]; exact hR)
    rw [show dmo sp br _ = false from e2, if_neg (by decide), Int.zero_add] at this
    exact this
  | succ n ih =>
    intro hn
    have h : DV sp br p g 0 1 ((n + 1 : Nat) + 1) := ⟨hr, hp, .inr (.inl ⟨rfl, hne, rfl, by omega, by omega⟩)⟩
    obtain ⟨e1, e2⟩ := dnx_eq h (by decide)
    have et : tk sp br p g 0 1 ((n + 1 : Nat) + 1) = (p, g, 0, 1, (n : Int) + 1, false) := by
      unfold tk
      rw [if_neg (by decide), if_pos rfl, if_neg (by omega), show (((n + 1 : Nat) : Int) + 1 - 1) = (n : Int) + 1 from by omega]
    rw [et] at e1 e2
    have := Runs.step (sp := sp) (br := br) (s := (p, g, 0, 1, ((n + 1 : Nat) : Int) + 1)) (by show (1 : Int) ≠ 0; decide) (by rw [e1]; exact ih (by omega))
    rw [show dmo sp br _ = false from e2, if_neg (by decide), Int.zero_add] at this
    exact this
/-- Where a drive sets out, and how long it is under way. -/
theorem goes_runs (p d br sp : Int) (hf : 0 ≤ p ∧ p ≤ 63000) (ht : 0 ≤ d ∧ d ≤ 63000) (hb : 0 ≤ br ∧ br ≤ 5) (hs : 1 ≤ sp ∧ sp ≤ 20) (T : Nat) (hT : pcnt sp 70000 (0, lf p d) = some T) :
    ∃ part left, drive_goes.f p p 0 0 0 d br = some (p, d, 0, part, left) ∧ DV sp br p d 0 part left ∧ Runs sp br (p, d, 0, part, left) (if d = p then 0 else T + 2 * br.toNat) T (d, d, 0, 0, 0) := by
  have hl0 : ptri (0 - 1) = 0 := by decide
  have hr : 1 ≤ sp ∧ sp ≤ 20 ∧ 0 ≤ br ∧ br ≤ 1000 := by omega
  by_cases c : d = p
  · subst c
    have : lf d d = 0 := by unfold lf; rw [if_pos (Int.le_refl _)]; omega
    rw [this] at hT
    have hT0 : T = 0 := by
      rw [show 70000 = 69999 + 1 from rfl, pcnt] at hT
      dsimp only at hT
      rw [if_neg (by omega)] at hT
      exact (Option.some.inj hT).symm
    subst hT0
    exact ⟨0, 0, by unfold drive_goes.f; rw [if_pos rfl], ⟨hr, by omega, .inl ⟨rfl, rfl, rfl, rfl⟩⟩, by rw [if_pos rfl]; exact ⟨rfl, rfl, fun k hk => by omega, rfl⟩⟩
  · have hl := lf_le (p := p) (g := d) ⟨hf.1, hf.2, ht.1, ht.2⟩
    have h2 : DV sp br p d 0 2 0 := ⟨hr, by omega, .inr (.inr (.inl ⟨rfl, c, rfl, by omega, by omega, by rw [hl0]; exact hl.1⟩))⟩
    have hR := runs_go 70000 p 0 T h2 hT
    by_cases cb : br = 0
    · subst cb
      refine ⟨2, 0, by unfold drive_goes.f; rw [if_neg c, if_pos rfl], h2, ?_⟩
      rw [if_neg c]
      exact hR
    · refine ⟨1, br, by unfold drive_goes.f; rw [if_neg c, if_neg cb], ⟨hr, by omega, .inr (.inl ⟨rfl, c, rfl, by omega, Int.le_refl _⟩)⟩, ?_⟩
      obtain ⟨n, hn⟩ : ∃ n : Nat, br = (n : Int) + 1 := ⟨(br - 1).toNat, by omega⟩
      have := runs_release hr ⟨hf.1, hf.2, ht.1, ht.2⟩ c hR n (by omega)
      rw [← hn] at this
      rw [if_neg c, show T + 2 * br.toNat = T + br.toNat + (n + 1) from by omega]
      exact this
end Go.Proofs.Ytckaofgkepcibaa.P

namespace Go.Proofs.Ytckaofgkepcibaa.P.Sh
open Go.RowKit Go.Proofs.Ytckaofgkepcibaa.P Go.Proofs.YtckaofgkepcibaaW.PrintWords Go.Proofs.YtckaofgkepcibaaW.PrintLast Go.Proofs.YtckaofgkepcibaaW.PrintMore
set_option linter.unusedSimpArgs false
set_option linter.unusedVariables false

theorem wsm (x : Int) (h : -1000000000000 ≤ x) (h2 : x ≤ 1000000000000) : wrap64 x = x := by unfold wrap64; omega

/-- Gaps that are valid. -/
def gok (l : List Int) : Prop := 1 ≤ l.length ∧ l.length < 64 ∧ ∀ j : Nat, j < l.length → 1 ≤ rd l j ∧ rd l j ≤ 1000

theorem sfb_all (l : List Int) : ∀ (d i : Nat), (∀ j, i ≤ j → j < i + d → 1 ≤ rd l j ∧ rd l j ≤ 1000) → sfb l i d = -1 := by
  intro d
  induction d with
  | zero => intro i _; rfl
  | succ d ih =>
    intro i h
    have := h i (by omega) (by omega)
    rw [sfb, if_neg (by simp [gbad]; omega)]
    exact ih (i + 1) (fun j h1 h2 => h j (by omega) (by omega))
theorem check_ok (l : List Int) (h : gok l) : shaft_Check.f l = some (0, 0) := by
  obtain ⟨h1, h2, h3⟩ := h
  unfold shaft_Check.f
  rw [if_neg (by omega), if_neg (by omega), sfb_all l l.length 0 (fun j _ hj => h3 j (by omega)), if_neg (by omega)]
theorem check_bad (l : List Int) (h : ¬ gok l) : ∃ e i, shaft_Check.f l = some (e, i) ∧ e ≠ 0 := by
  unfold shaft_Check.f
  by_cases h1 : l.length < 1
  · rw [if_pos h1]; exact ⟨_, _, rfl, by decide⟩
  · rw [if_neg h1]
    by_cases h2 : l.length ≥ 64
    · rw [if_pos h2]; exact ⟨_, _, rfl, by decide⟩
    · rw [if_neg h2]
      by_cases h3 : sfb l 0 l.length ≥ 0
      · rw [if_pos h3]; exact ⟨_, _, rfl, by decide⟩
      · exact absurd ⟨by omega, by omega, fun j hj => sfb_good l l.length 0 (by omega) j (by omega) (by omega)⟩ h
theorem check_some (l : List Int) : ∃ e i, shaft_Check.f l = some (e, i) := by
  by_cases h : gok l
  · exact ⟨_, _, check_ok l h⟩
  · obtain ⟨e, i, h, _⟩ := check_bad l h; exact ⟨e, i, h⟩

theorem posns_len (l : List Int) : (posns l).length = l.length + 1 := by simp [posns]
theorem posns_rd (l : List Int) (k : Nat) (h : k ≤ l.length) : rd (posns l) k = pos l k := by
  unfold rd
  rw [Int.toNat_natCast, List.getD_eq_getElem?_getD]
  simp [posns, show k < l.length + 1 by omega]
theorem pos_lt (l : List Int) (h : gok l) (i j : Nat) (hij : i < j) (hj : j ≤ l.length) : pos l i < pos l j := by
  induction j with
  | zero => omega
  | succ j ih =>
    have hs := pos_succ l j (by omega)
    have := (h.2.2 j (by omega)).1
    by_cases e : i = j
    · subst e; omega
    · have := ih (by omega) (by omega); omega
theorem pos_le (l : List Int) (h : gok l) (i j : Nat) (hij : i ≤ j) (hj : j ≤ l.length) : pos l i ≤ pos l j := by
  by_cases e : i = j
  · subst e; omega
  · have := pos_lt l h i j (by omega) hj; omega
theorem pos_zero (l : List Int) : pos l 0 = 0 := by simp [pos]
theorem pos_top (l : List Int) (h : gok l) (k : Nat) (hk : k ≤ l.length) : 0 ≤ pos l k ∧ pos l k ≤ 64000 := by
  have := pos_bound l h.2.2 k hk
  have := h.2.1
  omega

theorem positions_ok (l : List Int) (h : gok l) : shaft_Positions.f l = some (posns l, 0) := by
  unfold shaft_Positions.f
  rw [check_ok l h]
  rfl
theorem positions_err (l : List Int) (e i : Int) (h : shaft_Check.f l = some (e, i)) (he : e ≠ 0) : shaft_Positions.f l = some ([], e) := by
  unfold shaft_Positions.f
  rw [h, Option.bind_some, if_neg he]

/-! ### the reference -/
theorem ref_Check_loop (l : List Int) (hl : l.length ≤ 1000) : ∀ (d k i : Nat), i + d = l.length →
    r07_Check.l0 (k + d + 1) l i = some (if sfb l i d ≥ 0 then (2, sfb l i d) else (0, 0)) := by
  intro d
  induction d with
  | zero =>
    intro k i hi
    rw [r07_Check.l0, if_neg (by omega), sfb, if_neg (by omega)]
  | succ d ih =>
    intro k i hi
    rw [show k + (d + 1) + 1 = (k + d + 1) + 1 from by omega, r07_Check.l0, if_pos (by omega), if_pos (by omega), sfb]
    by_cases h1 : rd l i < 1
    · rw [if_pos h1, if_pos (show gbad (rd l i) = true by simp [gbad, h1]), if_pos (by omega)]
    · rw [if_neg h1]
      by_cases h2 : rd l i > 1000
      · rw [if_pos h2, if_pos (show gbad (rd l i) = true by simp [gbad]; omega), if_pos (by omega)]
      · rw [if_neg h2, if_neg (show ¬ gbad (rd l i) = true by simp [gbad]; omega), wsm _ (by omega) (by omega), show (i : Int) + 1 = ((i + 1 : Nat) : Int) from by omega]
        exact ih k (i + 1) (by omega)
theorem ref_Check_eq (l : List Int) (k : Nat) : r07_Check.f (k + 70) l = shaft_Check.f l := by
  unfold r07_Check.f shaft_Check.f
  rw [show k + 70 = (k + 69) + 1 from rfl]
  by_cases h1 : l.length < 1
  · rw [if_pos h1, if_pos (by omega), r07_Check.j0, if_pos rfl]
  · rw [if_neg h1, if_neg (by omega), r07_Check.j0]
    by_cases h2 : l.length ≥ 64
    · rw [if_pos h2, decide_eq_true (by omega), if_pos rfl]
    · rw [if_neg h2, decide_eq_false (by omega), if_neg (by decide)]
      have e := ref_Check_loop l (by omega) l.length (k + 68 - l.length) 0 (by omega)
      rw [show k + 68 - l.length + l.length + 1 = k + 69 from by omega, show ((0 : Nat) : Int) = 0 from rfl] at e
      rw [e]
      split <;> rfl

theorem ref_pos_loop (l : List Int) (h : gok l) : ∀ (d k i : Nat), i + d = l.length →
    r07_positions.l0 (k + d + 1) l ((List.range (i + 1)).map (pos l)) i = some (posns l) := by
  intro d
  induction d with
  | zero =>
    intro k i hi
    rw [r07_positions.l0, if_neg (by omega)]
    unfold posns
    rw [show i = l.length from by omega]
  | succ d ih =>
    intro k i hi
    have hb := pos_top l h i (by omega)
    have hg := h.2.2 i (by omega)
    have hl := h.2.1
    have hr : rd ((List.range (i + 1)).map (pos l)) i = pos l i := by
      unfold rd
      rw [Int.toNat_natCast, List.getD_eq_getElem?_getD]
      simp
    rw [show k + (d + 1) + 1 = (k + d + 1) + 1 from by omega, r07_positions.l0, if_pos (by omega), if_pos (by omega), if_pos (by simp; omega), if_pos (by simp; omega), hr, wsm _ (by omega) (by omega), wsm _ (by omega) (by omega), ← pos_succ l i (by omega)]
    have e := ih k (i + 1) (by omega)
    rw [List.range_succ, List.map_append] at e
    rw [show (i : Int) + 1 = ((i + 1 : Nat) : Int) from by omega]
    exact e
theorem ref_positions_eq (l : List Int) (h : gok l) (k : Nat) : r07_positions.f (k + 70) l = some (posns l) := by
  have hl := h.2.1
  have e := ref_pos_loop l h l.length (k + 69 - l.length) 0 (by omega)
  rw [show k + 69 - l.length + l.length + 1 = k + 70 from by omega, show ((0 : Nat) : Int) = 0 from rfl] at e
  unfold r07_positions.f
  rw [← e]
  rfl
theorem ref_Height_ok (l : List Int) (h : gok l) (k : Nat) : r07_Height.f (k + 70) l = some (pos l l.length, 0) := by
  unfold r07_Height.f
  rw [ref_Check_eq, check_ok l h, Option.bind_some, if_pos rfl, ref_positions_eq l h, Option.bind_some, if_pos (by omega), if_pos (by rw [posns_len]; omega), posns_rd l l.length (by omega)]
theorem ref_Height_err (l : List Int) (e i : Int) (h : shaft_Check.f l = some (e, i)) (he : e ≠ 0) (k : Nat) : r07_Height.f (k + 70) l = some (0, e) := by
  unfold r07_Height.f
  rw [ref_Check_eq, h, Option.bind_some, if_neg he]
theorem Height_ok (l : List Int) (h : gok l) : shaft_Height.f l = some (pos l l.length, 0) := by
  have hl := h.2.1
  unfold shaft_Height.f
  rw [positions_ok l h, Option.bind_some, if_pos rfl]
  dsimp only
  rw [posns_len, wsm _ (by omega) (by omega), if_pos (by omega), if_pos (by omega), show (((l.length + 1 : Nat) : Int) - 1) = ((l.length : Nat) : Int) from by omega, posns_rd l l.length (by omega)]
theorem Height_err (l : List Int) (e i : Int) (h : shaft_Check.f l = some (e, i)) (he : e ≠ 0) : shaft_Height.f l = some (0, e) := by
  unfold shaft_Height.f
  rw [positions_err l e i h he, Option.bind_some, if_neg he]
end Go.Proofs.Ytckaofgkepcibaa.P.Sh

namespace Go.Proofs.Ytckaofgkepcibaa.P
open Go.RowKit Go.Proofs.YtckaofgkepcibaaW.PrintWords Go.Proofs.YtckaofgkepcibaaW.PrintLast Go.Proofs.YtckaofgkepcibaaW.PrintMore
set_option linter.unusedSimpArgs false
set_option linter.unusedVariables false

theorem awake_t (k : Nat) : q_awake.f (k + 20) = some true := by
  have h : q_awake.f 20 = some true := by decide +kernel
  induction k with
  | zero => exact h
  | succ k ih => exact q_awake.mono _ _ ih
theorem mod_big (a m : Int) (hm : 1 ≤ m) (hm2 : m ≤ 400000000000) : ∃ r, kit_Mod.f a m = some r ∧ 0 ≤ r ∧ r < m := by
  unfold kit_Mod.f
  rw [if_neg (by omega), if_neg (by omega)]
  have h1 := Int.tmod_lt_of_pos a (show 0 < m by omega)
  have h2 : -m < Int.tmod a m := by
    have h3 := Int.tmod_lt_of_pos (-a) (show 0 < m by omega)
    rw [Int.neg_tmod] at h3
    omega
  by_cases h : Int.tmod a m < 0
  · rw [if_pos h]
    exact ⟨_, rfl, by rw [wsm _ (by omega) (by omega)]; omega, by rw [wsm _ (by omega) (by omega)]; omega⟩
  · rw [if_neg h]
    exact ⟨_, rfl, by omega, by omega⟩
theorem at_some (l : List Int) (i : Int) : ∃ v, kit_At.f l i = some v := by
  unfold kit_At.f
  by_cases c : i < 0
  · exact ⟨0, by rw [if_pos c]⟩
  · by_cases c2 : i ≥ (l.length : Int)
    · exact ⟨0, by rw [if_neg c, if_pos c2]⟩
    · exact ⟨_, by rw [if_neg c, if_neg c2, if_pos (by omega), if_pos (by omega)]⟩
theorem pos_snoc (l : List Int) (i : Nat) (h : i < l.length) : pos l (i + 1) = pos l i + rd l i := pos_succ l i h
/-- The two loops over the floors. -/
theorem shaft_l2 (l : List Int) (hl : l.length ≤ 8) (hg : ∀ j : Nat, j < l.length → 1 ≤ rd l j ∧ rd l j ≤ 40) (x from_ : Int) (hx : 0 ≤ x) (hx2 : x < 1073741824) :
    ∀ (d K i : Nat), (i : Int) + d = (x / 1024) % ((l.length : Int) + 1) → d < K → q_shaft.l2 K l x from_ (pos l i) i = some (l, 1 + x % 8, (x / 8) % 4, 0, from_, pos l (i + d)) := by
  intro d
  have e1 : wrap64 ((l.length : Int) + 1) = (l.length : Int) + 1 := wsm _ (by omega) (by omega)
  have e2 : Int.tmod (wrap64 (Int.tdiv x 1024)) ((l.length : Int) + 1) = (x / 1024) % ((l.length : Int) + 1) := by
    rw [Int.tdiv_eq_ediv_of_nonneg hx, wsm _ (by omega) (by omega), Int.tmod_eq_emod_of_nonneg (by omega)]
  have hm := Int.emod_lt_of_pos (x / 1024) (show 0 < (l.length : Int) + 1 by omega)
  induction d with
  | zero =>
    intro K i hi hK
    obtain ⟨K, rfl⟩ : ∃ K', K = K' + 1 := ⟨K - 1, by omega⟩
    rw [q_shaft.l2, e1, if_neg (by omega), e2, if_neg (by omega), Int.tmod_eq_emod_of_nonneg hx, Int.tdiv_eq_ediv_of_nonneg hx, wsm (x / 8) (by omega) (by omega), Int.tmod_eq_emod_of_nonneg (show 0 ≤ x / 8 by omega), wsm (1 + x % 8) (by omega) (by omega)]
    rfl
  | succ d ih =>
    intro K i hi hK
    obtain ⟨K, rfl⟩ : ∃ K', K = K' + 1 := ⟨K - 1, by omega⟩
    have hlt : i < l.length := by omega
    have hb := pos_bound l (fun j hj => ⟨(hg j hj).1, by have := (hg j hj).2; omega⟩) i (by omega)
    have hr := hg i hlt
    rw [q_shaft.l2, e1, if_neg (by omega), e2, if_pos (by omega), if_pos (by omega), if_pos (by omega), wsm (pos l i + rd l i) (by omega) (by omega), wsm ((i : Int) + 1) (by omega) (by omega), ← pos_succ l i hlt]
    have := ih K (i + 1) (by omega) (by omega)
    rw [show ((i + 1 : Nat) : Int) = (i : Int) + 1 by omega] at this
    rw [this, show i + 1 + d = i + (d + 1) by omega]
theorem shaft_l1 (l : List Int) (hl : l.length ≤ 8) (hg : ∀ j : Nat, j < l.length → 1 ≤ rd l j ∧ rd l j ≤ 40) (x : Int) (hx : 0 ≤ x) (hx2 : x < 1073741824) :
    ∀ (d K i : Nat), (i : Int) + d = (x / 64) % ((l.length : Int) + 1) → d + 10 < K → ∃ b : Nat, b ≤ l.length ∧ q_shaft.l1 K l x (pos l i) 0 i = some (l, 1 + x % 8, (x / 8) % 4, 0, pos l (i + d), pos l b) := by
  intro d
  have e1 : wrap64 ((l.length : Int) + 1) = (l.length : Int) + 1 := wsm _ (by omega) (by omega)
  have e2 : Int.tmod (wrap64 (Int.tdiv x 64)) ((l.length : Int) + 1) = (x / 64) % ((l.length : Int) + 1) := by
    rw [Int.tdiv_eq_ediv_of_nonneg hx, wsm _ (by omega) (by omega), Int.tmod_eq_emod_of_nonneg (by omega)]
  have hm := Int.emod_lt_of_pos (x / 64) (show 0 < (l.length : Int) + 1 by omega)
  induction d with
  | zero =>
    intro K i hi hK
    obtain ⟨K, rfl⟩ : ∃ K', K = K' + 1 := ⟨K - 1, by omega⟩
    have hm2 := Int.emod_lt_of_pos (x / 1024) (show 0 < (l.length : Int) + 1 by omega)
    have hm3 := Int.emod_nonneg (x / 1024) (show (l.length : Int) + 1 ≠ 0 by omega)
    obtain ⟨b, hb⟩ : ∃ b : Nat, (b : Int) = (x / 1024) % ((l.length : Int) + 1) := ⟨((x / 1024) % ((l.length : Int) + 1)).toNat, by omega⟩
    refine ⟨b, by omega, ?_⟩
    rw [q_shaft.l1, e1, if_neg (by omega), e2, if_neg (by omega)]
    have := shaft_l2 l hl hg x (pos l i) hx hx2 b K 0 (by omega) (by omega)
    rw [show pos l 0 = 0 from by simp [pos], show ((0 : Nat) : Int) = 0 from rfl, Nat.zero_add] at this
    rw [this]
    rfl
  | succ d ih =>
    intro K i hi hK
    obtain ⟨K, rfl⟩ : ∃ K', K = K' + 1 := ⟨K - 1, by omega⟩
    have hlt : i < l.length := by omega
    have hb := pos_bound l (fun j hj => ⟨(hg j hj).1, by have := (hg j hj).2; omega⟩) i (by omega)
    have hr := hg i hlt
    obtain ⟨b, hb1, hb2⟩ := ih K (i + 1) (by omega) (by omega)
    refine ⟨b, hb1, ?_⟩
    rw [q_shaft.l1, e1, if_neg (by omega), e2, if_pos (by omega), if_pos (by omega), if_pos (by omega), wsm (pos l i + rd l i) (by omega) (by omega), wsm ((i : Int) + 1) (by omega) (by omega), ← pos_succ l i hlt]
    rw [show ((i + 1 : Nat) : Int) = (i : Int) + 1 by omega] at hb2
    rw [hb2, show i + 1 + d = i + (d + 1) by omega]
/-- Gaps as the laws make them. -/
def smallGaps (l : List Int) : Prop := l.length ≤ 8 ∧ ∀ j : Nat, j < l.length → 1 ≤ rd l j ∧ rd l j ≤ 40
theorem shaft_l0 (nums : List Int) (x : Int) : ∀ (d K : Nat) (l : List Int), smallGaps l → l.length + d = 8 → 2 * d + 30 < K →
    ∃ l' sp br, ∃ a b : Nat, smallGaps l' ∧ 1 ≤ l'.length ∧ 1 ≤ sp ∧ sp ≤ 8 ∧ 0 ≤ br ∧ br ≤ 3 ∧ a ≤ l'.length ∧ b ≤ l'.length ∧ q_shaft.l0 K nums x l l.length = some (l', sp, br, 0, pos l' a, pos l' b) := by
  intro d
  have fin : ∀ (K : Nat) (l : List Int), smallGaps l → 1 ≤ l.length → 25 < K → ∃ sp br, ∃ a b : Nat, 1 ≤ sp ∧ sp ≤ 8 ∧ 0 ≤ br ∧ br ≤ 3 ∧ a ≤ l.length ∧ b ≤ l.length ∧ q_shaft.j1 K nums x l l.length false = some (l, sp, br, 0, pos l a, pos l b) := by
    intro K l hl h1 hK
    obtain ⟨K, rfl⟩ : ∃ K', K = K' + 1 := ⟨K - 1, by omega⟩
    obtain ⟨t, ht, t0, t1⟩ := mod_big x 1073741824 (by omega) (by omega)
    have hm2 := Int.emod_lt_of_pos (t / 64) (show 0 < (l.length : Int) + 1 by omega)
    have hm3 := Int.emod_nonneg (t / 64) (show (l.length : Int) + 1 ≠ 0 by omega)
    obtain ⟨a, ha⟩ : ∃ a : Nat, (a : Int) = (t / 64) % ((l.length : Int) + 1) := ⟨((t / 64) % ((l.length : Int) + 1)).toNat, by omega⟩
    have hl8 := hl.1
    obtain ⟨b, hb1, hb2⟩ := shaft_l1 l hl.1 hl.2 t t0 t1 a K 0 (by omega) (by omega)
    refine ⟨1 + t % 8, (t / 8) % 4, a, b, by omega, by omega, by omega, by omega, by omega, hb1, ?_⟩
    rw [q_shaft.j1, if_neg (by decide), ht, Option.bind_some]
    rw [show pos l 0 = 0 from by simp [pos], show ((0 : Nat) : Int) = 0 from rfl, Nat.zero_add] at hb2
    exact hb2
  have add : ∀ (K : Nat) (l : List Int), smallGaps l → l.length < 8 → ∃ g, smallGaps (l ++ [g]) ∧ q_shaft.j1 (K + 1) nums x l l.length true = q_shaft.l0 K nums x (l ++ [g]) (l ++ [g]).length := by
    intro K l hl h8
    obtain ⟨v, hv⟩ := at_some nums l.length
    obtain ⟨t, ht, t0, t1⟩ := mod_big v 40 (by omega) (by omega)
    refine ⟨1 + t, ⟨by simp; omega, ?_⟩, ?_⟩
    · intro j hj
      simp only [List.length_append, List.length_cons, List.length_nil] at hj
      unfold rd
      rw [Int.toNat_natCast, List.getD_eq_getElem?_getD]
      by_cases c : j < l.length
      · rw [List.getElem?_append_left c]
        have := hl.2 j c
        unfold rd at this
        rw [Int.toNat_natCast, List.getD_eq_getElem?_getD] at this
        exact this
      · obtain rfl : j = l.length := by omega
        rw [List.getElem?_append_right (Nat.le_refl _), Nat.sub_self]
        simp
        omega
    · rw [q_shaft.j1, if_pos rfl, hv, Option.bind_some, ht, Option.bind_some, if_pos (by have := hl.1; omega), wsm (1 + t) (by omega) (by omega), wsm ((l.length : Int) + 1) (by omega) (by omega), List.length_append]
      rfl
  induction d with
  | zero =>
    intro K l hl hd hK
    obtain ⟨K, rfl⟩ : ∃ K', K = K' + 1 := ⟨K - 1, by omega⟩
    obtain ⟨sp, br, a, b, h1, h2, h3, h4, h5, h6, h7⟩ := fin K l hl (by omega) (by omega)
    refine ⟨l, sp, br, a, b, hl, by omega, h1, h2, h3, h4, h5, h6, ?_⟩
    rw [q_shaft.l0]
    by_cases c : (l.length : Int) < (nums.length : Int)
    · rw [if_pos c, if_neg (by omega), decide_eq_false (by omega)]
      exact h7
    · rw [if_neg c, decide_eq_false (by omega)]
      exact h7
  | succ d ih =>
    intro K l hl hd hK
    obtain ⟨K, rfl⟩ : ∃ K', K = K' + 1 := ⟨K - 1, by omega⟩
    obtain ⟨K, rfl⟩ : ∃ K', K = K' + 1 := ⟨K - 1, by omega⟩
    obtain ⟨g, hg, he⟩ := add K l hl (by omega)
    obtain ⟨l', sp, br, a, b, r1, r2, r3, r4, r5, r6, r7, r8, r9⟩ := ih K (l ++ [g]) hg (by simp; omega) (by omega)
    rw [q_shaft.l0]
    by_cases c : (l.length : Int) < (nums.length : Int)
    · rw [if_pos c, if_pos (by omega), he]
      exact ⟨l', sp, br, a, b, r1, r2, r3, r4, r5, r6, r7, r8, r9⟩
    · rw [if_neg c]
      by_cases c2 : l.length < 1
      · rw [decide_eq_true (show (l.length : Int) < 1 by omega), he]
        exact ⟨l', sp, br, a, b, r1, r2, r3, r4, r5, r6, r7, r8, r9⟩
      · rw [decide_eq_false (show ¬ (l.length : Int) < 1 by omega)]
        obtain ⟨sp, br, a, b, h1, h2, h3, h4, h5, h6, h7⟩ := fin (K + 1) l hl (by omega) (by omega)
        exact ⟨l, sp, br, a, b, hl, by omega, h1, h2, h3, h4, h5, h6, h7⟩
theorem shaft_ok (nums : List Int) (x : Int) (K : Nat) (hK : 50 < K) : ∃ l sp br, ∃ a b : Nat, smallGaps l ∧ 1 ≤ l.length ∧ 1 ≤ sp ∧ sp ≤ 8 ∧ 0 ≤ br ∧ br ≤ 3 ∧ a ≤ l.length ∧ b ≤ l.length ∧ q_shaft.f K nums x = some (l, sp, br, 0, pos l a, pos l b) := by
  obtain ⟨l', sp, br, a, b, r1, r2, r3, r4, r5, r6, r7, r8, r9⟩ := shaft_l0 nums x 8 K [] ⟨by decide, fun j hj => absurd hj (by simp)⟩ rfl (by omega)
  exact ⟨l', sp, br, a, b, r1, r2, r3, r4, r5, r6, r7, r8, r9⟩
theorem travel_ok (L sp : Int) (h : 0 ≤ L) (h1 : L ≤ 63000) (h2 : 1 ≤ sp) (h3 : sp ≤ 20) {T : Nat} (hT : pcnt sp 70000 (0, L) = some T) : profile_Travel.f L sp = some ((T : Int), 0) := by
  unfold profile_Travel.f profile_travel.f
  rw [limits_ok L sp ⟨h, h1⟩ ⟨h2, h3⟩, Option.bind_some, if_pos rfl, hT]
  rfl
theorem pcnt_some (L sp : Int) (h : 0 ≤ L) (h1 : L ≤ 63000) (h2 : 1 ≤ sp) (h3 : sp ≤ 20) : ∃ T : Nat, pcnt sp 70000 (0, L) = some T ∧ (T : Int) ≤ L :=
  pcnt_ex sp h2 h3 70000 0 L (by omega) (by omega) (by rw [show ptri (0 - 1) = 0 from by decide]; exact h) h (by omega) (by omega)
theorem pcnt_more (sp : Int) (h2 : 1 ≤ sp) (h3 : sp ≤ 20) : ∀ (n : Nat) (L : Int) (a b : Nat), 0 ≤ L → L + n ≤ 63000 → pcnt sp 70000 (0, L) = some a → pcnt sp 70000 (0, L + n) = some b → a ≤ b := by
  intro n
  induction n with
  | zero =>
    intro L a b _ _ ha hb
    rw [show L + ((0 : Nat) : Int) = L by omega, ha] at hb
    have := Option.some.inj hb
    omega
  | succ n ih =>
    intro L a b h0 h1 ha hb
    obtain ⟨c, hc, _⟩ := pcnt_some (L + n) sp (by omega) (by omega) h2 h3
    have q1 := ih L a c h0 (by omega) ha hc
    have q2 := pcnt_le sp h2 (by omega) 70000 0 (L + n) c b (by omega) (by omega) (by rw [show ptri (0 - 1) = 0 from by decide]; omega) hc (by rw [show L + (n : Int) + 1 = L + ((n + 1 : Nat) : Int) by omega]; exact hb)
    omega
theorem dms_le' {sp br p g s part left : Int} (h : DV sp br p g s part left) (hb : br ≤ 5) : dms br p g part left ≤ 63100 := by
  have hl := lf_le h.place
  have h1 := h.form
  have h2 := h.rule
  unfold dms
  split
  · omega
  · split
    · omega
    · split <;> omega
theorem numbers_ok (sp br : Int) (h : 1 ≤ sp ∧ sp ≤ 20) (h2 : 0 ≤ br ∧ br ≤ 5) : move_numbers.f sp br = some 0 := by
  unfold move_numbers.f
  rw [if_neg (by omega), if_neg (by omega), if_neg (by omega), if_neg (by omega)]
/-- A padded move that has the time that it needs is valid. -/
theorem Check_ok {sp br p g s part left : Int} (h : DV sp br p g s part left) (hb : 0 ≤ br ∧ br ≤ 5) {T : Nat} (hT : dcnt sp br 70000 (p, g, s, part, left) = some T) (tot dn : Int) (h0 : 0 ≤ dn) (h1 : dn ≤ tot) (h2 : tot ≤ 200000) (hn : (T : Int) ≤ tot - dn) :
    move_Check.f p g s part left tot dn sp br = some 0 := by
  have hr := h.rule
  unfold move_Check.f move_sound.f
  rw [numbers_ok sp br ⟨hr.1, hr.2.1⟩ hb, Option.bind_some, if_pos rfl, show (9 : Nat) = 6 + 3 from rfl, check_ok 6 h hb.2, Option.bind_some, Option.bind_some, if_pos rfl]
  have hm : mbad tot dn = false := by unfold mbad; simp; omega
  rw [if_neg (by rw [hm]; decide), NeedsP_ok 6 h hb.2 hT, Option.bind_some]
  unfold mchk
  dsimp only
  rw [if_pos rfl, if_neg (by omega)]
theorem Step_rest (k : Nat) {sp br p : Int} (hr : 1 ≤ sp ∧ sp ≤ 20) (hb : 0 ≤ br ∧ br ≤ 5) (hp : 0 ≤ p ∧ p ≤ 63000) : drive_Step.f (k + 3) p p 0 0 0 sp br = some (p, p, 0, 0, 0, false, 0) := by
  have h : DV sp br p p 0 0 0 := ⟨by omega, by omega, .inl ⟨rfl, rfl, rfl, rfl⟩⟩
  unfold drive_Step.f
  rw [checked_ok k h hb.2 (by omega), Option.bind_some, if_pos rfl]
  unfold drive_rule_tick.f
  rw [if_neg (by decide), if_neg (by decide), show k + 3 = (k + 2) + 1 from rfl, drive_rule_tick.j1, if_neg (by decide)]
  rfl
/-- A move that is under way for N ticks, in M of them with the motor, from s to f. -/
structure PWay (sp br : Int) (s : DS) (N : Nat) (M : Int) (f : DS) : Prop where
  rule : 1 ≤ sp ∧ sp ≤ 20
  brake : 0 ≤ br ∧ br ≤ 5
  ok : DV sp br s.1 s.2.1 s.2.2.1 s.2.2.2.1 s.2.2.2.2
  runs : Runs sp br s N M f
  cnt : dcnt sp br 70000 s = some N
theorem PWay.of {sp br : Int} {s : DS} {N : Nat} {M : Int} {f : DS} (hr : 1 ≤ sp ∧ sp ≤ 20) (hb : 0 ≤ br ∧ br ≤ 5) (h : DV sp br s.1 s.2.1 s.2.2.1 s.2.2.2.1 s.2.2.2.2) (hR : Runs sp br s N M f) : PWay sp br s N M f := by
  obtain ⟨T, hT, hc⟩ := cnt_ok (sp := sp) (br := br) 63100 70000 s.1 s.2.1 s.2.2.1 s.2.2.2.1 s.2.2.2.2 h (dms_le' h hb.2) (by decide)
  have hN := hR.count hc
  subst hN
  exact ⟨hr, hb, h, hR, hc⟩
/-- The drive behind k ticks. -/
def wst (sp br : Int) (s : DS) (N k : Nat) : DS := dst sp br s (min N k)
/-- The ticks with the motor, of the first k. -/
def wmo (sp br : Int) (s : DS) (N k : Nat) : Int := dmc sp br s (min N k)
theorem PWay.valid {sp br : Int} {s f : DS} {N : Nat} {M : Int} (h : PWay sp br s N M f) (k : Nat) : DV sp br (wst sp br s N k).1 (wst sp br s N k).2.1 (wst sp br s N k).2.2.1 (wst sp br s N k).2.2.2.1 (wst sp br s N k).2.2.2.2 :=
  dst_ok h.ok h.cnt (min N k) (Nat.min_le_left _ _)
theorem PWay.left {sp br : Int} {s f : DS} {N : Nat} {M : Int} (h : PWay sp br s N M f) (k : Nat) : dcnt sp br 70000 (wst sp br s N k) = some (N - min N k) :=
  dcnt_at h.cnt (min N k) (Nat.min_le_left _ _)
theorem PWay.check {sp br : Int} {s f : DS} {N : Nat} {M : Int} (h : PWay sp br s N M f) (k : Nat) (tot : Int) (h1 : (k : Int) ≤ tot) (h2 : tot ≤ 200000) (hN : (N : Int) ≤ tot) :
    move_Check.f (wst sp br s N k).1 (wst sp br s N k).2.1 (wst sp br s N k).2.2.1 (wst sp br s N k).2.2.2.1 (wst sp br s N k).2.2.2.2 tot k sp br = some 0 :=
  Check_ok (h.valid k) h.brake (h.left k) tot k (by omega) h1 h2 (by omega)
theorem PWay.step {sp br : Int} {s f : DS} {N : Nat} {M : Int} (h : PWay sp br s N M f) (k : Nat) :
    ∃ m : Bool, drive_Step.f 9 (wst sp br s N k).1 (wst sp br s N k).2.1 (wst sp br s N k).2.2.1 (wst sp br s N k).2.2.2.1 (wst sp br s N k).2.2.2.2 sp br =
      some ((wst sp br s N (k + 1)).1, (wst sp br s N (k + 1)).2.1, (wst sp br s N (k + 1)).2.2.1, (wst sp br s N (k + 1)).2.2.2.1, (wst sp br s N (k + 1)).2.2.2.2, m, 0) ∧ wmo sp br s N (k + 1) = wmo sp br s N k + (if m = true then 1 else 0) := by
  by_cases c : k < N
  · have hp := h.runs.busy k c
    have e1 : min N k = k := by omega
    have e2 : min N (k + 1) = k + 1 := by omega
    have hv := h.valid k
    unfold wst wmo at *
    rw [e1] at hv ⊢
    rw [e2]
    refine ⟨dmo sp br (dst sp br s k), ?_, rfl⟩
    have hd := dnx_eq hv hp
    rw [show (9 : Nat) = 6 + 3 from rfl, Step_ok 6 hv h.brake.2 hp]
    show _ = some ((dnx sp br (dst sp br s k)).1, (dnx sp br (dst sp br s k)).2.1, (dnx sp br (dst sp br s k)).2.2.1, (dnx sp br (dst sp br s k)).2.2.2.1, (dnx sp br (dst sp br s k)).2.2.2.2, dmo sp br (dst sp br s k), 0)
    obtain ⟨h1, h2⟩ := hd
    have e3 : (dst sp br s k) = ((dst sp br s k).1, (dst sp br s k).2.1, (dst sp br s k).2.2.1, (dst sp br s k).2.2.2.1, (dst sp br s k).2.2.2.2) := rfl
    rw [← e3] at h1 h2
    rw [h1, h2]
  · have e1 : min N k = N := by omega
    have e2 : min N (k + 1) = N := by omega
    have hv := h.valid k
    unfold wst wmo at *
    rw [e1] at hv ⊢
    rw [e2]
    have hrest := h.runs.rest
    rw [← h.runs.last] at hrest
    obtain ⟨p, g, q, part, left, he⟩ : ∃ p g q part left, dst sp br s N = (p, g, q, part, left) := ⟨_, _, _, _, _, rfl⟩
    rw [he] at hv hrest ⊢
    dsimp only at hv hrest ⊢
    subst hrest
    obtain ⟨rfl, rfl, rfl⟩ : g = p ∧ q = 0 ∧ left = 0 := by
      rcases hv.form with ⟨_, a, b, c⟩ | ⟨a, _⟩ | ⟨a, _⟩ | ⟨a, _⟩
      · exact ⟨a, b, c⟩
      all_goals exact absurd a (by decide)
    exact ⟨false, Step_rest 6 h.rule h.brake ⟨hv.place.1, hv.place.2.1⟩, by simp⟩
/-- So many ticks more. -/
theorem PWay.run {sp br : Int} {s f : DS} {N : Nat} {M : Int} (h : PWay sp br s N M f) : ∀ (n k : Nat) (m : Int), mrn sp br n (wst sp br s N k) m = some (wst sp br s N (k + n), m + (wmo sp br s N (k + n) - wmo sp br s N k)) := by
  intro n
  induction n with
  | zero =>
    intro k m
    rw [mrn, Nat.add_zero, Int.sub_self, Int.add_zero]
  | succ n ih =>
    intro k m
    obtain ⟨b, hb, hm⟩ := h.step k
    rw [mrn, hb, Option.bind_some]
    dsimp only
    rw [if_pos rfl]
    have := ih (k + 1) (if b = true then m + 1 else m)
    rw [show k + 1 + n = k + (n + 1) by omega] at this
    refine Eq.trans this ?_
    congr 2
    rw [hm]
    cases b <;> simp <;> omega
theorem PWay.runs_ {sp br : Int} {s f : DS} {N : Nat} {M : Int} (h : PWay sp br s N M f) (k n : Nat) (tot : Int) (h1 : (k : Int) + n ≤ tot) (h2 : tot ≤ 200000) (hN : (N : Int) ≤ tot) :
    move_Run.f (wst sp br s N k).1 (wst sp br s N k).2.1 (wst sp br s N k).2.2.1 (wst sp br s N k).2.2.2.1 (wst sp br s N k).2.2.2.2 tot k sp br (n : Int) =
      some ((wst sp br s N (k + n)).1, (wst sp br s N (k + n)).2.1, (wst sp br s N (k + n)).2.2.1, (wst sp br s N (k + n)).2.2.2.1, (wst sp br s N (k + n)).2.2.2.2, tot, (k : Int) + n, wmo sp br s N (k + n) - wmo sp br s N k, 0) := by
  unfold move_Run.f
  rw [h.check k tot (by omega) h2 hN, Option.bind_some, if_pos rfl, if_pos (by omega), Int.toNat_natCast]
  have := h.run n k 0
  have e3 : (wst sp br s N k) = ((wst sp br s N k).1, (wst sp br s N k).2.1, (wst sp br s N k).2.2.1, (wst sp br s N k).2.2.2.1, (wst sp br s N k).2.2.2.2) := rfl
  rw [← e3, this, Option.bind_some]
  dsimp only
  rw [Int.zero_add]
/-- How a padded move between two floors begins. -/
theorem begin_ok (K : Nat) (p d sp br : Int) (hp : 0 ≤ p ∧ p ≤ 63000) (hd : 0 ≤ d ∧ d ≤ 63000) (hr : 1 ≤ sp ∧ sp ≤ 20) (hb : 0 ≤ br ∧ br ≤ 5) (tot : Int) (T : Nat) (hT : pcnt sp 70000 (0, lf p d) = some T) (ht : (T : Int) + 2 * br ≤ tot) (ht2 : tot ≤ 200000) :
    ∃ s : DS, ∃ N : Nat, (N : Int) ≤ tot ∧ PWay sp br s N T (d, d, 0, 0, 0) ∧ move_Begin.f (K + 9) p p 0 0 0 d tot sp br = some (s.1, s.2.1, s.2.2.1, s.2.2.2.1, s.2.2.2.2, tot, 0, 0) := by
  obtain ⟨part, left, hg, hv, hR⟩ := goes_runs p d br sp hp hd hb hr T hT
  have hw : PWay sp br (p, d, 0, part, left) (if d = p then 0 else T + 2 * br.toNat) T (d, d, 0, 0, 0) := PWay.of hr hb hv hR
  refine ⟨(p, d, 0, part, left), (if d = p then 0 else T + 2 * br.toNat), by split <;> omega, hw, ?_⟩
  have hr0 : DV sp br p p 0 0 0 := ⟨by omega, by omega, .inl ⟨rfl, rfl, rfl, rfl⟩⟩
  unfold move_Begin.f move_sound.f
  rw [numbers_ok sp br hr hb, Option.bind_some, if_pos rfl, show K + 9 = (K + 6) + 3 from rfl, check_ok (K + 6) hr0 hb.2, Option.bind_some, Option.bind_some, if_pos rfl, Go_ok (K + 6) p d br part left hp hd hb hg, Option.bind_some]
  dsimp only
  have hwr : move_wrong.f tot = some false := by
    unfold move_wrong.f
    rw [if_neg (by omega), decide_eq_false (by omega)]
  have hc := Check_ok hv hb hw.cnt tot 0 (by omega) (by omega) ht2 (by split <;> omega)
  rw [show K + 6 + 3 = (K + 8) + 1 from rfl, move_Begin.j0, if_pos rfl, hwr, Option.bind_some, show K + 8 = (K + 7) + 1 from rfl, move_Begin.j1, if_neg (by decide), show K + 7 = (K + 6) + 1 from rfl, move_Begin.j2, if_pos rfl, hc, Option.bind_some, if_pos rfl]
/-- A shaft, its times, and two floors of it. -/
theorem way_ok (nums : List Int) (x : Int) (K : Nat) (hK : 50 < K) : ∃ l sp br from_ to_, ∃ T0 T : Nat, q_shaft.f K nums x = some (l, sp, br, 0, from_, to_) ∧ (1 ≤ sp ∧ sp ≤ 20) ∧ (0 ≤ br ∧ br ≤ 3) ∧ (0 ≤ from_ ∧ from_ ≤ 400) ∧ (0 ≤ to_ ∧ to_ ≤ 400) ∧
    move_Ticks.f l sp br = some ((T0 : Int) + 2 * br, 0) ∧ pcnt sp 70000 (0, lf from_ to_) = some T ∧ T ≤ T0 ∧ T0 ≤ 400 := by
  obtain ⟨l, sp, br, a, b, r1, r2, r3, r4, r5, r6, r7, r8, r9⟩ := shaft_ok nums x K hK
  have hg : Sh.gok l := ⟨r2, by have := r1.1; omega, fun j hj => ⟨(r1.2 j hj).1, by have := (r1.2 j hj).2; omega⟩⟩
  have hb40 : ∀ k, k ≤ l.length → pos l k ≤ 40 * k := by
    intro k
    induction k with
    | zero => intro _; simp [pos]
    | succ k ih => intro hk; rw [pos_succ l k (by omega)]; have := ih (by omega); have := (r1.2 k (by omega)).2; omega
  have h8 := r1.1
  have p1 := hb40 l.length (Nat.le_refl _)
  have p2 := Sh.pos_le l hg a l.length r7 (Nat.le_refl _)
  have p3 := Sh.pos_le l hg b l.length r8 (Nat.le_refl _)
  have p4 := (Sh.pos_top l hg a r7).1
  have p5 := (Sh.pos_top l hg b r8).1
  have p6 := (Sh.pos_top l hg l.length (Nat.le_refl _)).1
  have hlf : 0 ≤ lf (pos l a) (pos l b) ∧ lf (pos l a) (pos l b) ≤ pos l l.length := by unfold lf; split <;> omega
  obtain ⟨T0, hT0, hl0⟩ := pcnt_some (pos l l.length) sp p6 (by omega) r3 (by omega)
  obtain ⟨T, hT, hl⟩ := pcnt_some (lf (pos l a) (pos l b)) sp hlf.1 (by omega) r3 (by omega)
  have hle : T ≤ T0 := pcnt_more sp r3 (by omega) (pos l l.length - lf (pos l a) (pos l b)).toNat (lf (pos l a) (pos l b)) T T0 hlf.1 (by omega) hT (by rw [show lf (pos l a) (pos l b) + ((pos l l.length - lf (pos l a) (pos l b)).toNat : Int) = pos l l.length by omega]; exact hT0)
  refine ⟨l, sp, br, pos l a, pos l b, T0, T, r9, ⟨r3, by omega⟩, ⟨r5, r6⟩, ⟨p4, by omega⟩, ⟨p5, by omega⟩, ?_, hT, hle, by omega⟩
  unfold move_Ticks.f
  rw [Sh.Height_ok l hg, Option.bind_some]
  dsimp only
  rw [if_pos rfl, numbers_ok sp br ⟨r3, by omega⟩ ⟨r5, by omega⟩, Option.bind_some, if_pos rfl, travel_ok _ _ p6 (by omega) r3 (by omega) hT0, Option.bind_some]
  dsimp only
  rw [wsm (2 * br) (by omega) (by omega), wsm _ (by omega) (by omega)]
theorem at_rest (p : Int) (h : 0 ≤ p ∧ p ≤ 63000) : q_at.f p = some (p, p, 0, 0, 0) := by
  unfold q_at.f drive_At.f
  rw [at_eq, decide_eq_true h, Option.bind_some, if_pos rfl, Option.bind_some]
end Go.Proofs.Ytckaofgkepcibaa.P
