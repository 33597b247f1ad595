/- What the program computes for valid drives, in closed form: plain Lean, no program. -/
import Derived.Test.YtckaofgkepcibaaDrQ
import Derived.Test.YtckaofgkepcibaaP0drivea
import Derived.Test.YtckaofgkepcibaaP1drive
import Derived.Test.YtckaofgkepcibaaP1driveb
import Derived.Test.YtckaofgkepcibaaP0tipstaffkit
namespace Go.Proofs.Ytckaofgkepcibaa.P
open Go.RowKit Go.Proofs.YtckaofgkepcibaaW.PrintWords Go.Proofs.YtckaofgkepcibaaW.PrintLast Go.Proofs.YtckaofgkepcibaaW.PrintMore
set_option linter.unusedSimpArgs false
set_option linter.unusedVariables false

/-- How many of the first k ticks the motor runs. -/
def dmc (sp br : Int) (s : DS) : Nat → Int
  | 0 => 0
  | k + 1 => dmc sp br s k + (if dmo sp br (dst sp br s k) = true then 1 else 0)
theorem mod_eq (a m : Int) (hm : 1 ≤ m) (hm2 : m ≤ 10000000) : ∃ r, kit_Mod.f a m = some r ∧ 0 ≤ r ∧ r < m := by
  unfold kit_Mod.f
  rw [if_neg (by omega), if_neg (by omega)]
  have h1 := Int.tmod_lt_of_pos a (show 0 < m by omega)
  have h2 : -m < Int.tmod a m := by
    have h3 := Int.tmod_lt_of_pos (-a) (show 0 < m by omega)
    rw [Int.neg_tmod] at h3
    omega
  by_cases h : Int.tmod a m < 0
  · rw [if_pos h]
    exact ⟨_, rfl, by rw [wsm _ (by omega) (by omega)]; omega, by rw [wsm _ (by omega) (by omega)]; omega⟩
  · rw [if_neg h]
    exact ⟨_, rfl, by omega, by omega⟩
theorem at_eq (a : Int) : drive_at.f a = some (decide (0 ≤ a ∧ a ≤ 63000)) := by
  unfold drive_at.f
  by_cases h : a ≥ 0
  · rw [if_pos h]
    by_cases h2 : a ≤ 63000
    · rw [decide_eq_true h2, decide_eq_true ⟨h, h2⟩]
    · rw [decide_eq_false h2, decide_eq_false (fun q => h2 q.2)]
  · rw [if_neg h, decide_eq_false (fun q => h q.1)]
theorem dleft_eq (p g s part left : Int) (h : 0 ≤ p ∧ p ≤ 63000 ∧ 0 ≤ g ∧ g ≤ 63000) : drive_left.f p g s part left = some (lf p g) := by
  unfold drive_left.f
  rw [mx_lf p g h]
theorem halves (s : Int) (h : 0 ≤ s) (h2 : s ≤ 20) : wrap64 (Int.tdiv (wrap64 (s * (wrap64 (s - 1)))) 2) = ptri (s - 1) := by
  have hb : 0 ≤ s * (s - 1) ∧ s * (s - 1) ≤ 20 * 20 := by
    by_cases h0 : s = 0
    · subst h0; decide
    · exact ⟨Int.mul_nonneg h (by omega), Int.mul_le_mul h2 (by omega) (by omega) (by omega)⟩
  rw [wsm (s - 1) (by omega) (by omega), wsm (s * (s - 1)) (by omega) (by omega), Int.tdiv_eq_ediv_of_nonneg hb.1, wsm _ (by omega) (by omega)]
  unfold ptri
  rw [show s - 1 + 1 = s from by omega, Int.mul_comm]
theorem formed_ok (k : Nat) {sp br p g s part left : Int} (h : DV sp br p g s part left) : drive_formed.f (k + 2) p g s part left = some true := by
  obtain ⟨hr, hpl, hf⟩ := h
  have hl := lf_le hpl
  have hz : lf p p = 0 := by unfold lf; rw [if_pos (Int.le_refl _)]; omega
  unfold drive_formed.f
  have hm : ptri (0 - 1) = 0 := by decide
  rcases hf with ⟨rfl, rfl, rfl, rfl⟩ | ⟨rfl, e2, rfl, e4, e5⟩ | ⟨rfl, e2, rfl, e4, e5, e6⟩ | ⟨rfl, rfl, rfl, e4, e5⟩
  · rw [if_neg (by decide), drive_formed.j0, if_neg (by decide), if_pos rfl, drive_formed.j1, dleft_eq g g 0 0 0 hpl, Option.bind_some, hz, if_neg (by decide), if_neg (by decide), if_pos rfl, Option.bind_some, halves 0 (by decide) (by decide), hm]
    rfl
  · have := hl.2.2 e2
    rw [if_pos rfl, drive_formed.j0, decide_eq_true e4, if_neg (by decide), if_neg (by decide), drive_formed.j1, dleft_eq p g 0 1 left hpl, Option.bind_some, show (lf p g == 0) = false from beq_eq_false_iff_ne.mpr (by omega), if_neg (by decide), if_neg (by decide), if_pos rfl, Option.bind_some, halves 0 (by decide) (by decide), hm, decide_eq_true hl.1]
  · have := hl.2.2 e2
    rw [if_neg (by decide), drive_formed.j0, if_neg (by decide), if_neg (by decide), drive_formed.j1, dleft_eq p g s 2 0 hpl, Option.bind_some, show (lf p g == 0) = false from beq_eq_false_iff_ne.mpr (by omega), if_neg (by decide), if_pos rfl, Option.bind_some, halves s e4 (by omega), decide_eq_true e6]
  · rw [if_neg (by decide), drive_formed.j0, decide_eq_true e4, if_neg (by decide), if_neg (by decide), drive_formed.j1, dleft_eq g g 0 3 left hpl, Option.bind_some, hz, if_neg (by decide), if_neg (by decide), if_pos rfl, Option.bind_some, halves 0 (by decide) (by decide), hm]
    rfl
theorem check_ok (k : Nat) {sp br p g s part left : Int} (h : DV sp br p g s part left) (hb : br ≤ 5) : drive_Check.f (k + 3) p g s part left = some 0 := by
  have hr := h.rule
  have hpl := h.place
  have hf := h.form
  unfold drive_Check.f
  rw [at_eq, at_eq, decide_eq_true (show 0 ≤ p ∧ p ≤ 63000 by omega), decide_eq_true (show 0 ≤ g ∧ g ≤ 63000 by omega), Option.bind_some, if_pos rfl, Option.bind_some, if_pos rfl, if_neg (by omega), if_neg (by omega), if_neg (by omega), if_neg (by omega), if_neg (by omega), decide_eq_false (by omega), drive_Check.j0, if_neg (by decide), formed_ok k h, Option.bind_some, if_pos rfl]
theorem checked_ok (k : Nat) {sp br p g s part left n : Int} (h : DV sp br p g s part left) (hb : br ≤ 5) (hn : 0 ≤ n ∧ n ≤ 200000) : drive_rule_checked.f (k + 3) sp br p g s part left n = some 0 := by
  have hr := h.rule
  have hf := h.form
  unfold drive_rule_checked.f drive_rule_valid.f
  rw [check_ok k h hb, Option.bind_some, if_pos rfl, if_pos (by omega), if_pos (by omega), if_pos (by omega), decide_eq_true hb, Option.bind_some, if_pos rfl, if_neg (by omega), decide_eq_false (by omega), drive_rule_checked.j0, if_neg (by decide), if_neg (by omega), if_neg (by omega)]
theorem Step_ok (k : Nat) {sp br p g s part left : Int} (h : DV sp br p g s part left) (hb : br ≤ 5) (hp : part ≠ 0) :
    drive_Step.f (k + 3) p g s part left sp br = some ((tk sp br p g s part left).1, (tk sp br p g s part left).2.1, (tk sp br p g s part left).2.2.1, (tk sp br p g s part left).2.2.2.1, (tk sp br p g s part left).2.2.2.2.1, (tk sp br p g s part left).2.2.2.2.2, 0) := by
  unfold drive_Step.f
  rw [checked_ok k h hb (by omega), Option.bind_some, if_pos rfl, show k + 3 = (k + 2) + 1 from rfl, tick_eq (k + 2) h hp, Option.bind_some]
/-- Where a drive sets out. -/
theorem goes_ok (p d br : Int) (hf : 0 ≤ p ∧ p ≤ 63000) (ht : 0 ≤ d ∧ d ≤ 63000) (hb : 0 ≤ br ∧ br ≤ 5) :
    ∃ part left, drive_goes.f p p 0 0 0 d br = some (p, d, 0, part, left) ∧ ∀ sp, 1 ≤ sp ∧ sp ≤ 20 → DV sp br p d 0 part left := by
  have hl0 : ptri (0 - 1) = 0 := by decide
  by_cases c : d = p
  · subst c
    exact ⟨0, 0, by unfold drive_goes.f; rw [if_pos rfl], fun sp hs => ⟨by omega, by omega, .inl ⟨rfl, rfl, rfl, rfl⟩⟩⟩
  · by_cases cb : br = 0
    · exact ⟨2, br, by unfold drive_goes.f; rw [if_neg c, if_pos cb], fun sp hs => ⟨by omega, by omega, .inr (.inr (.inl ⟨rfl, c, cb, by omega, by omega, by rw [hl0]; exact (lf_le ⟨hf.1, hf.2, ht.1, ht.2⟩).1⟩))⟩⟩
    · exact ⟨1, br, by unfold drive_goes.f; rw [if_neg c, if_neg cb], fun sp hs => ⟨by omega, by omega, .inr (.inl ⟨rfl, c, rfl, by omega, Int.le_refl _⟩)⟩⟩
theorem Go_ok (k : Nat) (p d br part left : Int) (hf : 0 ≤ p ∧ p ≤ 63000) (ht : 0 ≤ d ∧ d ≤ 63000) (hb : 0 ≤ br ∧ br ≤ 5) (hg : drive_goes.f p p 0 0 0 d br = some (p, d, 0, part, left)) :
    drive_Go.f (k + 3) p p 0 0 0 d br = some (p, d, 0, part, left, 0) := by
  have hr : DV 1 br p p 0 0 0 := ⟨by omega, by omega, .inl ⟨rfl, rfl, rfl, rfl⟩⟩
  unfold drive_Go.f
  rw [check_ok k hr hb.2, Option.bind_some, if_pos rfl, at_eq, decide_eq_true ht, Option.bind_some, if_pos rfl, if_neg (by omega), decide_eq_false (by omega), drive_Go.j0, if_neg (by decide), if_pos rfl, hg, Option.bind_some]
theorem dst_add (sp br : Int) (s : DS) (k : Nat) : ∀ m, dst sp br s (k + m) = dst sp br (dst sp br s k) m
  | 0 => rfl
  | m + 1 => by
    have := dst_add sp br s k m
    rw [show k + (m + 1) = (k + m) + 1 from rfl, dst, this]
    rfl
theorem dmc_add (sp br : Int) (s : DS) (k : Nat) : ∀ m, dmc sp br s (k + m) = dmc sp br s k + dmc sp br (dst sp br s k) m
  | 0 => by show dmc sp br s k = dmc sp br s k + 0; omega
  | m + 1 => by
    have h := dmc_add sp br s k m
    rw [show k + (m + 1) = (k + m) + 1 from rfl, dmc, h, dst_add sp br s k m, dmc]
    omega
theorem dcnt_at {sp br : Int} {K : Nat} {s : DS} {T : Nat} (h : dcnt sp br K s = some T) : ∀ k, k ≤ T → dcnt sp br K (dst sp br s k) = some (T - k)
  | 0, _ => h
  | k + 1, hk => ((dcnt_run sp br K s T h).2 k (by omega)).2.2
theorem dst_ok {sp br : Int} {p g s part left : Int} (h : DV sp br p g s part left) {T : Nat} (hT : dcnt sp br 70000 (p, g, s, part, left) = some T) : ∀ k, k ≤ T →
    DV sp br (dst sp br (p, g, s, part, left) k).1 (dst sp br (p, g, s, part, left) k).2.1 (dst sp br (p, g, s, part, left) k).2.2.1 (dst sp br (p, g, s, part, left) k).2.2.2.1 (dst sp br (p, g, s, part, left) k).2.2.2.2
  | 0, _ => h
  | k + 1, hk => by
    have ih := dst_ok h hT k (by omega)
    obtain ⟨q1, _, _⟩ := (dcnt_run sp br 70000 _ T hT).2 k (by omega)
    have ht := (tk_ok ih q1).1
    have e : dst sp br (p, g, s, part, left) (k + 1) = ((tk sp br (dst sp br (p, g, s, part, left) k).1 (dst sp br (p, g, s, part, left) k).2.1 (dst sp br (p, g, s, part, left) k).2.2.1 (dst sp br (p, g, s, part, left) k).2.2.2.1 (dst sp br (p, g, s, part, left) k).2.2.2.2).1,
        (tk sp br (dst sp br (p, g, s, part, left) k).1 (dst sp br (p, g, s, part, left) k).2.1 (dst sp br (p, g, s, part, left) k).2.2.1 (dst sp br (p, g, s, part, left) k).2.2.2.1 (dst sp br (p, g, s, part, left) k).2.2.2.2).2.1,
        (tk sp br (dst sp br (p, g, s, part, left) k).1 (dst sp br (p, g, s, part, left) k).2.1 (dst sp br (p, g, s, part, left) k).2.2.1 (dst sp br (p, g, s, part, left) k).2.2.2.1 (dst sp br (p, g, s, part, left) k).2.2.2.2).2.2.1,
        (tk sp br (dst sp br (p, g, s, part, left) k).1 (dst sp br (p, g, s, part, left) k).2.1 (dst sp br (p, g, s, part, left) k).2.2.1 (dst sp br (p, g, s, part, left) k).2.2.2.1 (dst sp br (p, g, s, part, left) k).2.2.2.2).2.2.2.1,
        (tk sp br (dst sp br (p, g, s, part, left) k).1 (dst sp br (p, g, s, part, left) k).2.1 (dst sp br (p, g, s, part, left) k).2.2.1 (dst sp br (p, g, s, part, left) k).2.2.2.1 (dst sp br (p, g, s, part, left) k).2.2.2.2).2.2.2.2.1) := by
      rw [dst]
      unfold dnx dtick?
      rw [show 20 = 19 + 1 from rfl, tick_eq 19 ih q1]
    rw [e]
    exact ht

theorem NeedsP_ok (k : Nat) {sp br p g s part left : Int} (h : DV sp br p g s part left) (hb : br ≤ 5) {T : Nat} (hT : dcnt sp br 70000 (p, g, s, part, left) = some T) :
    drive_Needs.f (k + 3) p g s part left sp br = some ((T : Int), 0) := by
  unfold drive_Needs.f drive_rule_needs.f
  rw [checked_ok k h hb (by omega), Option.bind_some, if_pos rfl, hT]
  rfl
/-- How far a tick goes. -/
theorem tk_go {sp br p g s part left : Int} (h : DV sp br p g s part left) (hp : part ≠ 0) :
    (tk sp br p g s part left).2.1 = g ∧ ((tk sp br p g s part left).2.2.2.2.2 = true ∧ part = 2 ∨ (tk sp br p g s part left).2.2.2.2.2 = false ∧ (tk sp br p g s part left).1 = p ∧ s = 0) ∧
    ∃ d, 0 ≤ d ∧ d ≤ sp ∧ d ≤ s + 1 ∧ s - 1 ≤ d ∧ (g < p → (tk sp br p g s part left).1 = p - d) ∧ (¬ g < p → (tk sp br p g s part left).1 = p + d) ∧ ((tk sp br p g s part left).2.2.2.1 = 2 → (tk sp br p g s part left).2.2.1 = d) ∧
      (g < p → g ≤ p - d) ∧ (¬ g < p → p + d ≤ g) := by
  obtain ⟨hr, hpl, hf⟩ := h
  have hl := lf_le hpl
  rcases hf with ⟨e, _⟩ | ⟨rfl, e2, rfl, e4, e5⟩ | ⟨rfl, e2, rfl, e4, e5, e6⟩ | ⟨rfl, rfl, rfl, e4, e5⟩
  · exact absurd e hp
  · unfold tk
    rw [if_neg (by decide), if_pos rfl]
    exact ⟨rfl, .inr ⟨rfl, rfl, rfl⟩, 0, by omega, by omega, by omega, by omega, fun _ => by dsimp only; omega, fun _ => by dsimp only; omega, fun _ => rfl, fun _ => by omega, fun _ => by omega⟩
  · obtain ⟨v, hv, v1, v2, v3, v4, v5, v6, v7, _⟩ := pnext_ok e4 e5 hr.1 (hl.2.2 e2) e6
    unfold tk
    rw [if_pos rfl, hv]
    dsimp only
    by_cases c : g < p
    · have e1 : lf p g = p - g := by unfold lf; rw [if_neg (by omega)]
      rw [if_pos c]
      by_cases c2 : p - v = g
      · rw [if_pos c2]
        refine ⟨rfl, .inl ⟨rfl, rfl⟩, v, by omega, by omega, by omega, by omega, fun _ => c2.symm, fun q => absurd c q, fun q => ?_, fun _ => by omega, fun q => absurd c q⟩
        dsimp only at q
        split at q <;> omega
      · rw [if_neg c2]
        exact ⟨rfl, .inl ⟨rfl, rfl⟩, v, by omega, by omega, by omega, by omega, fun _ => rfl, fun q => absurd c q, fun _ => rfl, fun _ => by omega, fun q => absurd c q⟩
    · have e1 : lf p g = g - p := by unfold lf; rw [if_pos (by omega)]
      rw [if_neg c]
      by_cases c2 : p + v = g
      · rw [if_pos c2]
        refine ⟨rfl, .inl ⟨rfl, rfl⟩, v, by omega, by omega, by omega, by omega, fun q => absurd q c, fun _ => c2.symm, fun q => ?_, fun q => absurd q c, fun _ => by omega⟩
        dsimp only at q
        split at q <;> omega
      · rw [if_neg c2]
        exact ⟨rfl, .inl ⟨rfl, rfl⟩, v, by omega, by omega, by omega, by omega, fun q => absurd q c, fun _ => rfl, fun _ => rfl, fun q => absurd q c, fun _ => by omega⟩
  · unfold tk
    rw [if_neg (by decide), if_neg (by decide), if_pos rfl]
    refine ⟨rfl, .inr ⟨rfl, rfl, rfl⟩, 0, by omega, by omega, by omega, by omega, fun _ => by dsimp only; omega, fun _ => by dsimp only; omega, fun _ => rfl, fun _ => by omega, fun _ => by omega⟩
theorem pnext_top (v lim : Int) (h : 1 ≤ v) (h2 : v + 1 ≤ lim) : pnext v (ptri v) lim = (v, true) ∧ pnext (v + 1) (ptri v) lim = (v, true) := by
  have e := ptri_succ v
  have e2 := ptri_succ (v + 1)
  have n1 : ¬ pok (v + 1) (ptri v) lim := fun q => by have := q.2.2; omega
  have n2 : ¬ pok (v + 1 + 1) (ptri v) lim := fun q => by have := q.2.2; omega
  have p : pok v (ptri v) lim := ⟨by omega, by omega, Int.le_refl _⟩
  refine ⟨by unfold pnext; rw [if_neg n1, if_pos p], ?_⟩
  unfold pnext
  rw [if_neg n2, if_neg n1, show v + 1 - 1 = v from by omega, if_pos p]
theorem pcnt_top (v lim : Int) (h : 1 ≤ v) (h2 : v + 1 ≤ lim) (h3 : lim ≤ 1000) (K : Nat) : pcnt lim K (v, ptri v) = pcnt lim K (v + 1, ptri v) := by
  cases K with
  | zero => rfl
  | succ K =>
    obtain ⟨e1, e2⟩ := pnext_top v lim h h2
    rw [pcnt, pcnt]
    have c1 : (0 ≤ v ∧ v ≤ 1000 ∧ ptri v ≤ 1000000) ↔ (0 ≤ v + 1 ∧ v + 1 ≤ 1000 ∧ ptri v ≤ 1000000) := by omega
    have : pnx lim (v, ptri v) = pnx lim (v + 1, ptri v) := by unfold pnx; dsimp only; rw [e1, e2]
    dsimp only
    rw [this]
    simp only [c1]
theorem pcnt_le (lim : Int) (h1 : 1 ≤ lim) (h2 : lim ≤ 1000) : ∀ (K : Nat) (s L : Int) (a b : Nat), 0 ≤ s → s ≤ lim → ptri (s - 1) ≤ L → pcnt lim K (s, L) = some a → pcnt lim K (s, L + 1) = some b → a ≤ b := by
  intro K
  induction K with
  | zero => intro s L a b _ _ _ h; cases h
  | succ K ih =>
    intro s L a b h0 hs ht ha hb
    rw [pcnt] at ha hb
    dsimp only at ha hb
    by_cases c : L > 0
    · rw [if_pos c] at ha
      rw [if_pos (by omega)] at hb
      by_cases c1 : 0 ≤ s ∧ s ≤ 1000 ∧ L ≤ 1000000
      · by_cases c2 : 0 ≤ s ∧ s ≤ 1000 ∧ L + 1 ≤ 1000000
        · rw [if_pos c1] at ha
          rw [if_pos c2] at hb
          obtain ⟨m, hm, rfl⟩ := Option.map_eq_some_iff.mp ha
          obtain ⟨n, hn, rfl⟩ := Option.map_eq_some_iff.mp hb
          obtain ⟨v, e, v1, v2, v3, v4, v5, v6, v7, v8⟩ := pnext_ok h0 hs h1 (show 1 ≤ L by omega) ht
          obtain ⟨u, e', u1, u2, u3, u4, u5, u6, u7, u8⟩ := pnext_ok h0 hs h1 (show 1 ≤ L + 1 by omega) (show ptri (s - 1) ≤ L + 1 by omega)
          unfold pnx at hm hn
          dsimp only at hm hn
          rw [e] at hm
          rw [e'] at hn
          dsimp only at hm hn
          have mono : ∀ x, pok x L lim → pok x (L + 1) lim := fun x q => ⟨q.1, q.2.1, by have := q.2.2; omega⟩
          by_cases cu : u = v
          · subst cu
            rw [show L + 1 - u = (L - u) + 1 from by omega] at hn
            have := ih u (L - u) m n (by omega) v2 v4 hm hn
            omega
          · have hv : v = u - 1 ∧ ¬ pok u L lim := by
              rcases v8 with v8 | ⟨v8, w1⟩ | ⟨v8, w1, w2⟩
              · have p : pok (s + 1) L lim := ⟨by omega, by omega, by rw [← v8]; exact v7⟩
                rcases u8 with u8 | ⟨u8, x1⟩ | ⟨u8, x1, x2⟩
                · omega
                · exact absurd (mono _ p) x1
                · exact absurd (mono _ p) x1
              · have p : pok s L lim := ⟨by omega, by omega, by rw [← v8]; exact v7⟩
                rcases u8 with u8 | ⟨u8, x1⟩ | ⟨u8, x1, x2⟩
                · exact ⟨by omega, by rw [u8]; exact w1⟩
                · omega
                · exact absurd (mono _ p) x2
              · rcases u8 with u8 | ⟨u8, x1⟩ | ⟨u8, x1, x2⟩
                · have e3 := ptri_succ s
                  rw [u8] at u7
                  exact absurd ⟨by omega, by omega, by omega⟩ w2
                · exact ⟨by omega, by rw [u8]; exact w2⟩
                · omega
            obtain ⟨hv, hp⟩ := hv
            obtain rfl : u = v + 1 := by omega
            have e3 := ptri_succ v
            have : ¬ ptri (v + 1) ≤ L := fun q => hp ⟨by omega, u2, q⟩
            have hL : L - v = ptri v := by omega
            rw [hL, pcnt_top v lim v1 u2 h2 K] at hm
            rw [show L + 1 - (v + 1) = L - v from by omega, hL] at hn
            rw [hm] at hn
            have := Option.some.inj hn
            omega
        · rw [if_neg c2] at hb; cases hb
      · rw [if_neg c1] at ha; cases ha
    · rw [if_neg c] at ha
      have := Option.some.inj ha
      omega
theorem pcnt_ex (lim : Int) (h1 : 1 ≤ lim) (h2 : lim ≤ 20) : ∀ (K : Nat) (s L : Int), 0 ≤ s → s ≤ lim → ptri (s - 1) ≤ L → 0 ≤ L → L < K → L ≤ 70000 → ∃ T, pcnt lim K (s, L) = some T ∧ (T : Int) ≤ L := by
  intro K
  induction K with
  | zero => intro s L _ _ _ h h'; omega
  | succ K ih =>
    intro s L h0 hs ht hL hK h7
    rw [pcnt]
    dsimp only
    by_cases c : L > 0
    · obtain ⟨v, e, v1, v2, v3, v4, v5, v6, v7, v8⟩ := pnext_ok h0 hs h1 (show 1 ≤ L by omega) ht
      obtain ⟨T, hT, hl⟩ := ih v (L - v) (by omega) v2 v4 (by omega) (by omega) (by omega)
      refine ⟨T + 1, ?_, by omega⟩
      rw [if_pos c, if_pos ⟨h0, by omega, by omega⟩]
      unfold pnx
      dsimp only
      rw [e]
      dsimp only
      rw [hT]
      rfl
    · rw [if_neg c]
      exact ⟨0, rfl, by omega⟩

/-- A drive comes to rest after N ticks, M of them with the motor. -/
structure Runs (sp br : Int) (s : DS) (N : Nat) (M : Int) (f : DS) : Prop where
  last : dst sp br s N = f
  rest : f.2.2.2.1 = 0
  busy : ∀ k, k < N → (dst sp br s k).2.2.2.1 ≠ 0
  motor : dmc sp br s N = M
theorem Runs.count {sp br : Int} {s f : DS} {N K T : Nat} {M : Int} (h : Runs sp br s N M f) (hT : dcnt sp br K s = some T) : T = N := by
  obtain ⟨h1, h2⟩ := dcnt_run sp br K s T hT
  have a1 : ¬ N < T := fun c => (h2 N c).1 (by rw [h.last]; exact h.rest)
  have a2 : ¬ T < N := fun c => h.busy T c h1
  omega
theorem Runs.step {sp br : Int} {s f : DS} {N : Nat} {M : Int} (hp : s.2.2.2.1 ≠ 0) (h : Runs sp br (dnx sp br s) N M f) : Runs sp br s (N + 1) ((if dmo sp br s = true then 1 else 0) + M) f := by
  have e : ∀ k, dst sp br s (k + 1) = dst sp br (dnx sp br s) k := fun k => by have := dst_add sp br s 1 k; rw [Nat.add_comm 1 k] at this; exact this
  refine ⟨by rw [e]; exact h.last, h.rest, fun k hk => ?_, ?_⟩
  · cases k with
    | zero => exact hp
    | succ k => rw [e]; exact h.busy k (by omega)
  · have := dmc_add sp br s 1 N
    rw [Nat.add_comm 1 N] at this
    rw [this]
    have e1 : dmc sp br s 1 = (if dmo sp br s = true then 1 else 0) := by show 0 + _ = _; rw [Int.zero_add]; rfl
    rw [e1]
    show _ + dmc sp br (dnx sp br s) N = _
    rw [h.motor]
theorem dnx_eq {sp br p g s part left : Int} (h : DV sp br p g s part left) (hp : part ≠ 0) : dnx sp br (p, g, s, part, left) = ((tk sp br p g s part left).1, (tk sp br p g s part left).2.1, (tk sp br p g s part left).2.2.1, (tk sp br p g s part left).2.2.2.1, (tk sp br p g s part left).2.2.2.2.1) ∧ dmo sp br (p, g, s, part, left) = (tk sp br p g s part left).2.2.2.2.2 := by
  unfold dnx dmo dtick?
  rw [show 20 = 19 + 1 from rfl, tick_eq 19 h hp]
  exact ⟨rfl, rfl⟩
theorem runs_set {sp br g : Int} (hr : 1 ≤ sp ∧ sp ≤ 20 ∧ 0 ≤ br ∧ br ≤ 1000) (hg : 0 ≤ g ∧ g ≤ 63000) : ∀ n : Nat, ((n : Int) + 1) ≤ br → Runs sp br (g, g, 0, 3, (n : Int) + 1) (n + 1) 0 (g, g, 0, 0, 0) := by
  intro n
  induction n with
  | zero =>
    intro hn
    have h : DV sp br g g 0 3 ((0 : Nat) + 1) := ⟨hr, by omega, .inr (.inr (.inr ⟨rfl, rfl, rfl, by omega, by omega⟩))⟩
    obtain ⟨e1, e2⟩ := dnx_eq h (by decide)
    have := Runs.step (sp := sp) (br := br) (s := (g, g, 0, 3, ((0 : Nat) : Int) + 1)) (f := (g, g, 0, 0, 0)) (N := 0) (M := 0) (by show (3 : Int) ≠ 0; decide) (by rw [e1]; exact ⟨rfl, rfl, fun k hk => by omega, rfl⟩)
    rw [e2] at this
    exact this
  | succ n ih =>
    intro hn
    have h : DV sp br g g 0 3 ((n + 1 : Nat) + 1) := ⟨hr, by omega, .inr (.inr (.inr ⟨rfl, rfl, rfl, by omega, by omega⟩))⟩
    obtain ⟨e1, e2⟩ := dnx_eq h (by decide)
    have et : tk sp br g g 0 3 ((n + 1 : Nat) + 1) = (g, g, 0, 3, (n : Int) + 1, false) := by
      unfold tk
      rw [if_neg (by decide), if_neg (by decide), if_pos rfl, if_neg (by omega), show (((n + 1 : Nat) : Int) + 1 - 1) = (n : Int) + 1 from by omega]
    rw [et] at e1 e2
    have := Runs.step (sp := sp) (br := br) (s := (g, g, 0, 3, ((n + 1 : Nat) : Int) + 1)) (f := (g, g, 0, 0, 0)) (N := n + 1) (M := 0) (by show (3 : Int) ≠ 0; decide) (by rw [e1]; exact ih (by omega))
    rw [e2] at this
    exact this
theorem runs_go {sp br g : Int} : ∀ (K : Nat) (p s : Int) (T : Nat), DV sp br p g s 2 0 → pcnt sp K (s, lf p g) = some T → Runs sp br (p, g, s, 2, 0) (T + br.toNat) T (g, g, 0, 0, 0) := by
  intro K
  induction K with
  | zero => intro p s T _ h; cases h
  | succ K ih =>
    intro p s T h hc
    have hf : g ≠ p ∧ 0 ≤ s ∧ s ≤ sp ∧ ptri (s - 1) ≤ lf p g := by
      rcases h.form with ⟨e, _⟩ | ⟨e, _⟩ | ⟨_, q⟩ | ⟨e, _⟩
      · exact absurd e (by decide)
      · exact absurd e (by decide)
      · exact ⟨q.1, q.2.2.1, q.2.2.2.1, q.2.2.2.2⟩
      · exact absurd e (by decide)
    have hl := lf_le h.place
    have hl1 := hl.2.2 hf.1
    obtain ⟨v, e, v1, v2, v3, v4, v5, v6, v7, v8⟩ := pnext_ok hf.2.1 hf.2.2.1 h.rule.1 hl1 hf.2.2.2
    rw [pcnt] at hc
    dsimp only at hc
    rw [if_pos (by omega)] at hc
    by_cases c1 : 0 ≤ s ∧ s ≤ 1000 ∧ lf p g ≤ 1000000
    · rw [if_pos c1] at hc
      obtain ⟨m, hm, rfl⟩ := Option.map_eq_some_iff.mp hc
      unfold pnx at hm
      dsimp only at hm
      rw [e] at hm
      dsimp only at hm
      obtain ⟨e1, e2⟩ := dnx_eq h (by decide)
      have ht := (tk_ok h (by decide)).1
      obtain ⟨q, hq⟩ : ∃ q, q = (if g < p then p - v else p + v) := ⟨_, rfl⟩
      have et : tk sp br p g s 2 0 = if q = g then (g, g, 0, (if br = 0 then 0 else 3), br, true) else (q, g, v, 2, 0, true) := by
        unfold tk
        rw [if_pos rfl, e]
        dsimp only
        rw [← hq]
      have hq2 : lf q g = lf p g - v ∧ (q = g ↔ lf p g = v) := by
        unfold lf at *
        split at hq <;> split at v3 <;> (try split) <;> omega
      rw [et] at e1 e2 ht
      have hr := h.rule
      have hpl := h.place
      by_cases cq : q = g
      · rw [if_pos cq] at e1 e2 ht
        have hm0 : m = 0 := by
          have : lf p g = v := hq2.2.1 cq
          rw [this, Int.sub_self] at hm
          cases K with
          | zero => cases hm
          | succ K =>
            rw [pcnt] at hm
            dsimp only at hm
            rw [if_neg (by omega)] at hm
            exact (Option.some.inj hm).symm
        subst hm0
        by_cases cb : br = 0
        · subst cb
          rw [if_pos rfl] at e1
          have := Runs.step (sp := sp) (br := 0) (s := (p, g, s, 2, 0)) (f := (g, g, 0, 0, 0)) (N := 0) (M := 0) (by show (2 : Int) ≠ 0; decide) (by rw [e1]; exact ⟨rfl, rfl, fun k hk => by omega, rfl⟩)
          rw [e2] at this
          exact this
        · rw [if_neg cb] at e1
          obtain ⟨n, hn⟩ : ∃ n : Nat, br = (n : Int) + 1 := ⟨(br - 1).toNat, by omega⟩
          have h3 := runs_set (sp := sp) (br := br) (g := g) hr ⟨hpl.2.2.1, hpl.2.2.2⟩ n (by omega)
          have := Runs.step (sp := sp) (br := br) (s := (p, g, s, 2, 0)) (f := (g, g, 0, 0, 0)) (N := n + 1) (M := 0) (by show (2 : Int) ≠ 0; decide) (by rw [e1]; dsimp only; rw [← hn] at h3; exact h3)
          rw [e2] at this
          rw [show 0 + 1 + br.toNat = n + 1 + 1 from by omega]
          exact this
      · rw [if_neg cq] at e1 e2 ht
        rw [← hq2.1] at hm
        have h3 := ih q v m ht hm
        have := Runs.step (sp := sp) (br := br) (s := (p, g, s, 2, 0)) (f := (g, g, 0, 0, 0)) (by show (2 : Int) ≠ 0; decide) (by rw [e1]; exact h3)
        rw [e2] at this
        rw [show m + 1 + br.toNat = m + br.toNat + 1 from by omega, show ((m + 1 : Nat) : Int) = (if true = true then 1 else 0) + (m : Int) from by rw [if_pos rfl]; omega]
        exact this
    · rw [if_neg c1] at hc; cases hc
theorem runs_release {sp br p g : Int} (hr : 1 ≤ sp ∧ sp ≤ 20 ∧ 0 ≤ br ∧ br ≤ 1000) (hp : 0 ≤ p ∧ p ≤ 63000 ∧ 0 ≤ g ∧ g ≤ 63000) (hne : g ≠ p) {N : Nat} {M : Int} {f : DS} (hR : Runs sp br (p, g, 0, 2, 0) N M f) : ∀ n : Nat, ((n : Int) + 1) ≤ br → Runs sp br (p, g, 0, 1, (n : Int) + 1) (N + (n + 1)) M f := by
  intro n
  induction n with
  | zero =>
    intro hn
    have h : DV sp br p g 0 1 ((0 : Nat) + 1) := ⟨hr, hp, .inr (.inl ⟨rfl, hne, rfl, by omega, by omega⟩)⟩
    obtain ⟨e1, e2⟩ := dnx_eq h (by decide)
    have et : tk sp br p g 0 1 ((0 : Nat) + 1) = (p, g, 0, 2, 0, false) := rfl
    rw [et] at e1 e2
    have := Runs.step (sp := sp) (br := br) (s := (p, g, 0, 1, ((0 : Nat) : Int) + 1)) (by show (1 : Int) ≠ 0; decide) (by rw [e1]; exact hR)
    rw [show dmo sp br _ = false from e2, if_neg (by decide), Int.zero_add] at this
    exact this
  | succ n ih =>
    intro hn
    have h : DV sp br p g 0 1 ((n + 1 : Nat) + 1) := ⟨hr, hp, .inr (.inl ⟨rfl, hne, rfl, by omega, by omega⟩)⟩
    obtain ⟨e1, e2⟩ := dnx_eq h (by decide)
    have et : tk sp br p g 0 1 ((n + 1 : Nat) + 1) = (p, g, 0, 1, (n : Int) + 1, false) := by
      unfold tk
      rw [if_neg (by decide), if_pos rfl, if_neg (by omega), show (((n + 1 : Nat) : Int) + 1 - 1) = (n : Int) + 1 from by omega]
    rw [et] at e1 e2
    have := Runs.step (sp := sp) (br := br) (s := (p, g, 0, 1, ((n + 1 : Nat) : Int) + 1)) (by show (1 : Int) ≠ 0; decide) (by rw [e1]; exact ih (by omega))
    rw [show dmo sp br _ = false from e2, if_neg (by decide), Int.zero_add] at this
    exact this
/-- Where a drive sets out, and how long it is under way. -/
theorem goes_runs (p d br sp : Int) (hf : 0 ≤ p ∧ p ≤ 63000) (ht : 0 ≤ d ∧ d ≤ 63000) (hb : 0 ≤ br ∧ br ≤ 5) (hs : 1 ≤ sp ∧ sp ≤ 20) (T : Nat) (hT : pcnt sp 70000 (0, lf p d) = some T) :
    ∃ part left, drive_goes.f p p 0 0 0 d br = some (p, d, 0, part, left) ∧ DV sp br p d 0 part left ∧ Runs sp br (p, d, 0, part, left) (if d = p then 0 else T + 2 * br.toNat) T (d, d, 0, 0, 0) := by
  have hl0 : ptri (0 - 1) = 0 := by decide
  have hr : 1 ≤ sp ∧ sp ≤ 20 ∧ 0 ≤ br ∧ br ≤ 1000 := by omega
  by_cases c : d = p
  · subst c
    have : lf d d = 0 := by unfold lf; rw [if_pos (Int.le_refl _)]; omega
    rw [this] at hT
    have hT0 : T = 0 := by
      rw [show 70000 = 69999 + 1 from rfl, pcnt] at hT
      dsimp only at hT
      rw [if_neg (by omega)] at hT
      exact (Option.some.inj hT).symm
    subst hT0
    exact ⟨0, 0, by unfold drive_goes.f; rw [if_pos rfl], ⟨hr, by omega, .inl ⟨rfl, rfl, rfl, rfl⟩⟩, by rw [if_pos rfl]; exact ⟨rfl, rfl, fun k hk => by omega, rfl⟩⟩
  · have hl := lf_le (p := p) (g := d) ⟨hf.1, hf.2, ht.1, ht.2⟩
    have h2 : DV sp br p d 0 2 0 := ⟨hr, by omega, .inr (.inr (.inl ⟨rfl, c, rfl, by omega, by omega, by rw [hl0]; exact hl.1⟩))⟩
    have hR := runs_go 70000 p 0 T h2 hT
    by_cases cb : br = 0
    · subst cb
      refine ⟨2, 0, by unfold drive_goes.f; rw [if_neg c, if_pos rfl], h2, ?_⟩
      rw [if_neg c]
      exact hR
    · refine ⟨1, br, by unfold drive_goes.f; rw [if_neg c, if_neg cb], ⟨hr, by omega, .inr (.inl ⟨rfl, c, rfl, by omega, Int.le_refl _⟩)⟩, ?_⟩
      obtain ⟨n, hn⟩ : ∃ n : Nat, br = (n : Int) + 1 := ⟨(br - 1).toNat, by omega⟩
      have := runs_release hr ⟨hf.1, hf.2, ht.1, ht.2⟩ c hR n (by omega)
      rw [← hn] at this
      rw [if_neg c, show T + 2 * br.toNat = T + br.toNat + (n + 1) from by omega]
      exact this
end Go.Proofs.Ytckaofgkepcibaa.P
