/- A move between any two floors takes as many ticks, is valid after each of them, and at rest at its goal in the end. -/
import Derived.Test.YtckaofgkepcibaaLMoveSuffices
import Derived.Test.YtckaofgkepcibaaMp
namespace Go.Proofs.Ytckaofgkepcibaa.Pure
open Go.RowKit Go.Proofs.Ytckaofgkepcibaa.P Go.Proofs.YtckaofgkepcibaaW.PrintWords Go.Proofs.YtckaofgkepcibaaW.PrintLast Go.Proofs.YtckaofgkepcibaaW.PrintMore
set_option linter.unusedSimpArgs false
set_option linter.unusedVariables false
theorem loop_ok {sp br goal x : Int} {s : DS} {N T : Nat} (h : PWay sp br s N T (goal, goal, 0, 0, 0)) (hg : 0 ≤ goal ∧ goal ≤ 63000) (tot : Nat) (ht : tot ≤ 2000) (hN : (N : Int) ≤ tot) : ∀ (d k K : Nat), k + d = tot → 2 * d + 30 < K →
    q_MoveSuffices.l0 K goal tot T (wmo sp br s N k) k sp br x (wst sp br s N k).1 (wst sp br s N k).2.1 (wst sp br s N k).2.2.1 (wst sp br s N k).2.2.2.1 (wst sp br s N k).2.2.2.2 tot k = some true := by
  intro d
  induction d with
  | zero =>
    intro k K hk hK
    obtain ⟨K, rfl⟩ : ∃ K', K = K' + 20 + 1 := ⟨K - 21, by omega⟩
    obtain rfl : k = tot := by omega
    have hc := h.check k k (by omega) (by omega) hN
    have e : wst sp br s N k = (goal, goal, 0, 0, 0) := by
      unfold wst
      rw [show min N k = N by omega]
      exact h.runs.last
    have e2 : wmo sp br s N k = T := by
      unfold wmo
      rw [show min N k = N by omega]
      exact h.runs.motor
    rw [q_MoveSuffices.l0, if_neg (by omega)]
    unfold move_Over.f
    rw [hc, Option.bind_some, if_pos rfl, Option.bind_some]
    dsimp only
    rw [if_pos rfl, if_pos (by simp), at_rest goal hg, Option.bind_some, e, e2]
    dsimp only
    rw [if_pos (by simp), if_pos rfl, awake_t K, Option.bind_some, if_pos rfl]
  | succ d ih =>
    intro k K hk hK
    obtain ⟨K, rfl⟩ : ∃ K', K = K' + 1 + 1 := ⟨K - 2, by omega⟩
    have hc := h.check k tot (by omega) (by omega) hN
    have hc2 := h.check (k + 1) tot (by omega) (by omega) hN
    rw [show ((k + 1 : Nat) : Int) = (k : Int) + 1 by omega] at hc2
    obtain ⟨m, hs, hm⟩ := h.step k
    have hst : move_Step.f (wst sp br s N k).1 (wst sp br s N k).2.1 (wst sp br s N k).2.2.1 (wst sp br s N k).2.2.2.1 (wst sp br s N k).2.2.2.2 tot k sp br = some ((wst sp br s N (k + 1)).1, (wst sp br s N (k + 1)).2.1, (wst sp br s N (k + 1)).2.2.1, (wst sp br s N (k + 1)).2.2.2.1, (wst sp br s N (k + 1)).2.2.2.2, (tot : Int), (k : Int) + 1, m, 0) := by
      unfold move_Step.f
      rw [hc, Option.bind_some, if_pos rfl, if_neg (by omega), hs, Option.bind_some]
      dsimp only
      rw [if_pos rfl]
    have hrec := ih (k + 1) K (by omega) (by omega)
    rw [show ((k + 1 : Nat) : Int) = (k : Int) + 1 by omega, hm] at hrec
    have hw0 : 0 ≤ wmo sp br s N k ∧ wmo sp br s N k ≤ 2000 := by
      have : ∀ j : Nat, 0 ≤ dmc sp br s j ∧ dmc sp br s j ≤ j := by
        intro j
        induction j with
        | zero => exact ⟨Int.le_refl _, Int.le_refl _⟩
        | succ j ihj => rw [dmc]; split <;> omega
      unfold wmo
      have := this (min N k)
      omega
    rw [q_MoveSuffices.l0, if_pos (by omega), hst, Option.bind_some]
    dsimp only
    rw [if_pos rfl, hc2, Option.bind_some, if_pos rfl, wsm ((k : Int) + 1) (by omega) (by omega), if_pos rfl, show ((tot : Int) != tot) = false by simp, q_MoveSuffices.j2, if_neg (by decide), wsm ((k : Int) + 1) (by omega) (by omega)]
    cases m
    · rw [if_neg (by decide)]
      rw [if_neg (by decide), Int.add_zero] at hrec
      exact hrec
    · rw [if_pos rfl, wsm (wmo sp br s N k + 1) (by omega) (by omega)]
      rw [if_pos rfl] at hrec
      exact hrec
theorem MoveSuffices : q_MoveSuffices.Pure := by
  intro nums x _ _ _ _
  obtain ⟨l, sp, br, p, d, T0, T, hsh, hr, hb, hp, hd, hti, hT, hle, hT0⟩ := way_ok nums x 2100 (by decide)
  obtain ⟨tot, htot⟩ : ∃ tot : Nat, (tot : Int) = (T0 : Int) + 2 * br := ⟨((T0 : Int) + 2 * br).toNat, by omega⟩
  obtain ⟨s, N, hN, hw, hbeg⟩ := begin_ok 2091 p d sp br (by omega) (by omega) hr (by omega) tot T hT (by omega) (by omega)
  refine ⟨2100, ?_⟩
  have hlf : mx (wrap64 (p - d)) (wrap64 (d - p)) = lf d p := mx_lf d p (by omega)
  have hsym : lf d p = lf p d := by unfold lf; split <;> split <;> omega
  have hlfb : 0 ≤ lf p d ∧ lf p d ≤ 400 := by unfold lf; split <;> omega
  unfold q_MoveSuffices.f
  rw [hsh, Option.bind_some]
  dsimp only
  rw [hti, Option.bind_some, at_rest p (by omega), Option.bind_some]
  dsimp only
  rw [← htot, show (2100 : Nat) = 2091 + 9 from rfl, hbeg, Option.bind_some, hlf, hsym, travel_ok _ sp hlfb.1 (by omega) hr.1 hr.2 hT, Option.bind_some]
  dsimp only
  rw [if_pos rfl, if_pos rfl, if_pos rfl, if_neg (by omega), decide_eq_false (by omega), show 2091 + 9 = 2099 + 1 from rfl, q_MoveSuffices.j0, if_neg (by decide)]
  have e0 : wst sp br s N 0 = s := by
    unfold wst
    rw [show min N 0 = 0 by omega]
    rfl
  have e1 : wmo sp br s N 0 = 0 := by
    unfold wmo
    rw [show min N 0 = 0 by omega]
    rfl
  have := loop_ok (x := 0) hw (by omega) tot (by omega) hN tot 0 2099 (by omega) (by omega)
  rw [e0, e1] at this
  exact this
end Go.Proofs.Ytckaofgkepcibaa.Pure
