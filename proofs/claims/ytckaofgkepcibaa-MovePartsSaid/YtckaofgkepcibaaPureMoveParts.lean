/- Two runs are one, and a move that was stopped stays where it is, and takes as many ticks. -/
import Derived.Test.YtckaofgkepcibaaLMoveParts
import Derived.Test.YtckaofgkepcibaaMq
namespace Go.Proofs.Ytckaofgkepcibaa.Pure
open Go.RowKit Go.Proofs.Ytckaofgkepcibaa.P Go.Proofs.YtckaofgkepcibaaW.PrintWords Go.Proofs.YtckaofgkepcibaaW.PrintLast Go.Proofs.YtckaofgkepcibaaW.PrintMore
set_option linter.unusedSimpArgs false
set_option linter.unusedVariables false
theorem dmc_in (sp br : Int) (s : DS) : ∀ j : Nat, 0 ≤ dmc sp br s j ∧ dmc sp br s j ≤ j := by
  intro j
  induction j with
  | zero => exact ⟨Int.le_refl _, Int.le_refl _⟩
  | succ j ihj => rw [dmc]; split <;> omega
theorem MoveParts : q_MoveParts.Pure := by
  intro nums x y _ _ _ _ _
  obtain ⟨l, sp, br, p, d, T0, T, hsh, hr, hb, hp, hd, hti, hT, hle, hT0⟩ := way_ok nums x 102 (by decide)
  obtain ⟨tot, htot⟩ : ∃ tot : Nat, (tot : Int) = (T0 : Int) + 2 * br := ⟨((T0 : Int) + 2 * br).toNat, by omega⟩
  obtain ⟨s, N, hN, hw, hbeg⟩ := begin_ok 93 p d sp br (by omega) (by omega) hr (by omega) tot T hT (by omega) (by omega)
  obtain ⟨k, hk, k0, k1⟩ := mod_big y ((tot : Int) + 1) (by omega) (by omega)
  obtain ⟨k, rfl⟩ := Int.eq_ofNat_of_zero_le k0
  refine ⟨102, ?_⟩
  have e0 : wst sp br s N 0 = s := by
    unfold wst
    rw [show min N 0 = 0 by omega]
    rfl
  have e1 : wmo sp br s N 0 = 0 := by
    unfold wmo
    rw [show min N 0 = 0 by omega]
    rfl
  have r1 := hw.runs_ 0 k tot (by omega) (by omega) hN
  have r2 := hw.runs_ k (tot - k) tot (by omega) (by omega) hN
  have r3 := hw.runs_ 0 tot tot (by omega) (by omega) hN
  rw [Nat.zero_add, e0, e1, show ((0 : Nat) : Int) = 0 from rfl, Int.zero_add] at r1
  rw [Nat.zero_add, e0, e1, show ((0 : Nat) : Int) = 0 from rfl, Int.zero_add] at r3
  rw [show k + (tot - k) = tot by omega, show ((tot - k : Nat) : Int) = (tot : Int) - k by omega] at r2
  have w1 := dmc_in sp br s (min N k)
  have w2 := dmc_in sp br s (min N tot)
  have hv := hw.valid k
  have hpos : 0 ≤ (wst sp br s N k).1 ∧ (wst sp br s N k).1 ≤ 63000 := ⟨hv.place.1, hv.place.2.1⟩
  -- the move that was stopped
  have hR0 : ∀ q : Int, Runs sp br (q, q, 0, 0, 0) 0 0 (q, q, 0, 0, 0) := fun q => ⟨rfl, rfl, fun j hj => by omega, rfl⟩
  have hst : PWay sp br ((wst sp br s N k).1, (wst sp br s N k).1, 0, 0, 0) 0 0 ((wst sp br s N k).1, (wst sp br s N k).1, 0, 0, 0) := PWay.of hr (by omega) ⟨by omega, by dsimp only; omega, .inl ⟨rfl, rfl, rfl, rfl⟩⟩ (hR0 _)
  have r4 := hst.runs_ k (tot - k) tot (by omega) (by omega) (by omega)
  have f1 : ∀ j, wst sp br ((wst sp br s N k).1, (wst sp br s N k).1, 0, 0, 0) 0 j = ((wst sp br s N k).1, (wst sp br s N k).1, 0, 0, 0) := fun j => by
    unfold wst
    rw [show min 0 j = 0 by omega]
    rfl
  have f2 : ∀ j, wmo sp br ((wst sp br s N k).1, (wst sp br s N k).1, 0, 0, 0) 0 j = 0 := fun j => by
    unfold wmo
    rw [show min 0 j = 0 by omega]
    rfl
  rw [f1, f1, f2, f2, show ((tot - k : Nat) : Int) = (tot : Int) - k by omega] at r4
  dsimp only at r4
  have hc := hw.check k tot (by omega) (by omega) hN
  have hstop : ∀ K, move_Stop.f (K + 3) (wst sp br s N k).1 (wst sp br s N k).2.1 (wst sp br s N k).2.2.1 (wst sp br s N k).2.2.2.1 (wst sp br s N k).2.2.2.2 tot k sp br = some ((wst sp br s N k).1, (wst sp br s N k).1, 0, 0, 0, (tot : Int), (k : Int), 0) := by
    intro K
    unfold move_Stop.f drive_Halt.f drive_At.f
    rw [hc, Option.bind_some, if_pos rfl, check_ok K hv (by omega), Option.bind_some, if_pos rfl, at_eq, decide_eq_true hpos, Option.bind_some, if_pos rfl, Option.bind_some, Option.bind_some]
    dsimp only
    rw [if_pos rfl]
  unfold q_MoveParts.f
  rw [hsh, Option.bind_some]
  dsimp only
  rw [hti, Option.bind_some, at_rest p (by omega), Option.bind_some]
  dsimp only
  rw [← htot, show (102 : Nat) = 93 + 9 from rfl, hbeg, Option.bind_some]
  dsimp only
  rw [if_pos rfl, if_pos rfl, if_neg (by omega), decide_eq_false (by omega), show 93 + 9 = 101 + 1 from rfl, q_MoveParts.j0, if_neg (by decide), wsm ((tot : Int) + 1) (by omega) (by omega), hk, Option.bind_some, r1, Option.bind_some]
  dsimp only
  rw [wsm ((tot : Int) - k) (by omega) (by omega), r2, Option.bind_some, r3, Option.bind_some]
  dsimp only
  have hsum : wmo sp br s N k - 0 + (wmo sp br s N tot - wmo sp br s N k) = wmo sp br s N tot - 0 := by omega
  have hw2 : 0 ≤ wmo sp br s N tot ∧ wmo sp br s N tot ≤ 5000 := by unfold wmo; omega
  rw [if_pos rfl, if_pos rfl, if_pos rfl, if_neg (by simp; omega), hsum, wsm (wmo sp br s N tot - 0) (by omega) (by omega), show (wmo sp br s N tot - 0 != wmo sp br s N tot - 0) = false by simp, show 101 = 100 + 1 from rfl, q_MoveParts.j1, if_neg (by decide), show 100 = 97 + 3 from rfl, hstop 97, Option.bind_some]
  dsimp only
  rw [wsm ((tot : Int) - k) (by omega) (by omega), r4, Option.bind_some]
  dsimp only
  rw [if_pos rfl, if_pos rfl, if_pos (by omega), if_pos rfl, if_pos (by omega), show 97 + 3 = 80 + 20 from rfl, awake_t 80, Option.bind_some, if_pos rfl]
end Go.Proofs.Ytckaofgkepcibaa.Pure
