/- How many ticks a move takes: the program answers as the reference. No condition beyond the law's own. -/
import Derived.Test.YtckaofgkepcibaaLMoveTicks
import Derived.Test.YtckaofgkepcibaaDm
import Derived.Test.YtckaofgkepcibaaShq
namespace Go.Proofs.Ytckaofgkepcibaa.Pure
open Go.RowKit Go.Proofs.Ytckaofgkepcibaa.P Go.Proofs.YtckaofgkepcibaaW.PrintWords Go.Proofs.YtckaofgkepcibaaW.PrintLast Go.Proofs.YtckaofgkepcibaaW.PrintMore
set_option linter.unusedSimpArgs false
set_option linter.unusedVariables false

theorem awake_true (k : Nat) : q_awake.f (k + 20) = some true := by
  have h : q_awake.f 20 = some true := by decide +kernel
  induction k with
  | zero => exact h
  | succ k ih => exact q_awake.mono _ _ ih
theorem rtri_eq (v : Int) (h : 0 ≤ v) (h2 : v ≤ 100) : r08_tri.f v = some (ptri v) := by
  unfold r08_tri.f ptri
  have h3 : 0 ≤ v * (v + 1) := Int.mul_nonneg h (by omega)
  have h4 : v * (v + 1) ≤ 100 * 101 := Int.mul_le_mul h2 (by omega) (by omega) (by omega)
  rw [wsm (v + 1) (by omega) (by omega), wsm (v * (v + 1)) (by omega) (by omega), Int.tdiv_eq_ediv_of_nonneg h3, wsm _ (by omega) (by omega)]
theorem rnext_eq (k : Nat) {s L sp : Int} (h0 : 0 ≤ s) (h1 : s ≤ sp) (h2 : 1 ≤ sp) (h3 : sp ≤ 20) (hL : 1 ≤ L) (ht : ptri (s - 1) ≤ L) : r08_next.f (k + 4) s L sp = some (pnext s L sp).1 := by
  obtain ⟨v, e, v1, v2, v3, v4, v5, v6, v7, v8⟩ := pnext_ok h0 h1 h2 hL ht
  rw [e]
  unfold r08_next.f
  rw [wsm (s + 1) (by omega) (by omega)]
  have step : ∀ (j : Nat) (x : Int), 0 ≤ x → s - 1 ≤ x → x ≤ 30 → r08_next.l0 (j + 1) s L sp x = (if pok x L sp then some x else r08_next.l0 j s L sp (x - 1)) := by
    intro j x hx hx2 hx3
    rw [r08_next.l0, wsm (s - 1) (by omega) (by omega), if_pos (by omega), if_pos (by omega), wsm (x - 1) (by omega) (by omega)]
    by_cases c : x ≤ sp
    · rw [if_pos c, rtri_eq x hx (by omega), Option.bind_some]
      by_cases c2 : ptri x ≤ L
      · rw [if_pos c2, if_pos ⟨hx, c, c2⟩]
      · rw [if_neg c2, if_neg (fun q => c2 q.2.2)]
    · rw [if_neg c, if_neg (fun q => c q.2.1)]
  rw [show k + 4 = (k + 3) + 1 from rfl, step (k + 3) (s + 1) (by omega) (by omega) (by omega)]
  rcases v8 with v8 | ⟨v8, w1⟩ | ⟨v8, w1, w2⟩
  · rw [if_pos (by rw [← v8]; exact ⟨by omega, v2, v7⟩), v8]
  · rw [if_neg w1, show s + 1 - 1 = s by omega, show k + 3 = (k + 2) + 1 from rfl, step (k + 2) s h0 (by omega) (by omega), if_pos (by rw [← v8]; exact ⟨by omega, v2, v7⟩), v8]
  · rw [if_neg w1, show s + 1 - 1 = s by omega, show k + 3 = (k + 2) + 1 from rfl, step (k + 2) s h0 (by omega) (by omega), if_neg w2, show k + 2 = (k + 1) + 1 from rfl, step (k + 1) (s - 1) (by omega) (by omega) (by omega), if_pos (by rw [← v8]; exact ⟨by omega, v2, v7⟩), v8]
theorem rride_eq (sp : Int) (h2 : 1 ≤ sp) (h3 : sp ≤ 20) : ∀ (K : Nat) (s L t p : Int) (T : Nat) (k : Nat), 0 ≤ s → s ≤ sp → ptri (s - 1) ≤ L → 0 ≤ L → L ≤ 70000 → 0 ≤ t → t + T ≤ 1000000 → pcnt sp K (s, L) = some T → ∃ p', r08_ride.l0 (k + T + 5) sp t p s L = some (t + T, p') := by
  intro K
  induction K with
  | zero => intro s L t p T k _ _ _ _ _ _ _ h; cases h
  | succ K ih =>
    intro s L t p T k hs0 hs1 ht hL0 hL1 h0 h1 h
    rw [pcnt] at h
    dsimp only at h
    by_cases c : L > 0
    · rw [if_pos c, if_pos (by omega)] at h
      obtain ⟨m, hm, rfl⟩ := Option.map_eq_some_iff.mp h
      obtain ⟨v, e, v1, v2, v3, v4, v5, v6, v7, v8⟩ := pnext_ok hs0 hs1 h2 (show 1 ≤ L by omega) ht
      unfold pnx at hm
      dsimp only at hm
      rw [e] at hm
      dsimp only at hm
      obtain ⟨p', hp⟩ := ih v (L - v) (t + 1) (mx p v) m k (by omega) v2 v4 (by omega) (by omega) (by omega) (by omega) hm
      refine ⟨p', ?_⟩
      rw [show k + (m + 1) + 5 = (k + m + 5) + 1 by omega, r08_ride.l0, if_pos c, show k + m + 5 = (k + m + 1) + 4 by omega, rnext_eq _ hs0 hs1 h2 h3 (by omega) ht, e, Option.bind_some, show (k + m + 1) + 4 = k + m + 5 by omega, wsm (t + 1) (by omega) (by omega), wsm (L - v) (by omega) (by omega), hp]
      congr 2
      omega
    · rw [if_neg c] at h
      have hT := Option.some.inj h
      subst hT
      exact ⟨p, by rw [show k + 0 + 5 = (k + 4) + 1 by omega, r08_ride.l0, if_neg c]; congr 2; omega⟩
theorem pcnt_way (L sp : Int) (h : 0 ≤ L) (h1 : L ≤ 63000) (h2 : 1 ≤ sp) (h3 : sp ≤ 20) : ∃ T : Nat, pcnt sp 70000 (0, L) = some T ∧ (T : Int) ≤ L :=
  pcnt_ex sp h2 h3 70000 0 L (by omega) (by omega) (by rw [show ptri (0 - 1) = 0 from by decide]; exact h) h (by omega) (by omega)
theorem travel_eq (L sp : Int) (h : 0 ≤ L) (h1 : L ≤ 63000) (h2 : 1 ≤ sp) (h3 : sp ≤ 20) {T : Nat} (hT : pcnt sp 70000 (0, L) = some T) : profile_Travel.f L sp = some ((T : Int), 0) := by
  unfold profile_Travel.f profile_travel.f
  rw [limits_ok L sp ⟨h, h1⟩ ⟨h2, h3⟩, Option.bind_some, if_pos rfl, hT]
  rfl
theorem rtravel_eq (L sp : Int) (h : 0 ≤ L) (h1 : L ≤ 63000) (h2 : 1 ≤ sp) (h3 : sp ≤ 20) {T : Nat} (hT : pcnt sp 70000 (0, L) = some T) (hl : (T : Int) ≤ L) (k : Nat) : r08_Travel.f (k + T + 5) L sp = some ((T : Int), 0) := by
  unfold r08_Travel.f r08_asks.f r08_ride.f
  rw [if_neg (by omega), if_neg (by omega), if_neg (by omega), if_neg (by omega), Option.bind_some, if_pos rfl]
  obtain ⟨p, hp⟩ := rride_eq sp h2 h3 70000 0 L 0 0 T k (by omega) (by omega) (by rw [show ptri (0 - 1) = 0 from by decide]; exact h) h (by omega) (by omega) (by omega) hT
  rw [hp, Option.bind_some]
  congr 2
  omega
theorem Ticks_same (l : List Int) (sp br : Int) : ∃ a b, move_Ticks.f l sp br = some (a, b) ∧ ref_Ticks.f 70101 l sp br = some (a, b) := by
  by_cases hg : Sh.gok l
  · have hp := Sh.pos_top l hg l.length (Nat.le_refl _)
    have hb := pos_bound l hg.2.2 l.length (Nat.le_refl _)
    have hlen := hg.2.1
    unfold move_Ticks.f ref_Ticks.f
    rw [Sh.Height_ok l hg, Option.bind_some, show 70101 = 70031 + 70 from rfl, Sh.ref_Check_eq, Sh.check_ok l hg, Option.bind_some]
    dsimp only
    rw [if_pos rfl, if_pos rfl, show ref_limits.f sp br = move_numbers.f sp br from rfl]
    by_cases c : (1 ≤ sp ∧ sp ≤ 20) ∧ (0 ≤ br ∧ br ≤ 5)
    · have hn : move_numbers.f sp br = some 0 := by
        unfold move_numbers.f
        rw [if_neg (by omega), if_neg (by omega), if_neg (by omega), if_neg (by omega)]
      obtain ⟨T, hT, hl⟩ := pcnt_way (pos l l.length) sp hp.1 (by omega) c.1.1 c.1.2
      rw [hn, Option.bind_some, if_pos rfl, travel_eq _ _ hp.1 (by omega) c.1.1 c.1.2 hT, Option.bind_some, Option.bind_some, show 70031 + 70 = 70100 + 1 from rfl, ref_Ticks.j0, if_pos rfl, show 70100 = 70030 + 70 from rfl, Sh.ref_Height_ok l hg, Option.bind_some]
      dsimp only
      rw [show 70030 + 70 = (70095 - T) + T + 5 by omega, rtravel_eq _ _ hp.1 (by omega) c.1.1 c.1.2 hT hl, Option.bind_some]
      exact ⟨_, _, rfl, rfl⟩
    · have hn : move_numbers.f sp br = some 2 := by
        unfold move_numbers.f
        by_cases c1 : sp < 1
        · rw [if_pos c1]
        · rw [if_neg c1]
          by_cases c2 : sp > 20
          · rw [if_pos c2]
          · rw [if_neg c2]
            by_cases c3 : br < 0
            · rw [if_pos c3]
            · rw [if_neg c3, if_pos (by omega)]
      rw [hn, Option.bind_some, if_neg (by decide), Option.bind_some, show 70031 + 70 = 70100 + 1 from rfl, ref_Ticks.j0, if_neg (by decide)]
      exact ⟨_, _, rfl, rfl⟩
  · obtain ⟨e, i, he, hne⟩ := Sh.check_bad l hg
    unfold move_Ticks.f ref_Ticks.f
    rw [Sh.Height_err l e i he hne, Option.bind_some, show 70101 = 70031 + 70 from rfl, Sh.ref_Check_eq, he, Option.bind_some]
    dsimp only
    rw [if_neg hne, if_neg hne, show 70031 + 70 = 70100 + 1 from rfl, ref_Ticks.j0, if_neg hne]
    exact ⟨_, _, rfl, rfl⟩
theorem MoveTicks : q_MoveTicks.Pure := by
  intro l sp br _ _ _ _ _
  refine ⟨70101, ?_⟩
  have ha : q_awake.f 70101 = some true := awake_true 70081
  unfold q_MoveTicks.f
  by_cases c : (l.length : Int) > 70
  · rw [if_pos c, ha, Option.bind_some, if_pos rfl]
  · obtain ⟨a, b, h1, h2⟩ := Ticks_same l sp br
    rw [if_neg c, h1, h2, Option.bind_some, Option.bind_some, if_pos rfl, if_pos rfl, ha, Option.bind_some, if_pos rfl]
end Go.Proofs.Ytckaofgkepcibaa.Pure
