/- Positions ascend to the height, distances add up and do not depend on the order, and all floors lie between the ends: for gaps made of any numbers and any three floors. No condition. -/
import Derived.Test.YtiahfabhhkpdpaaLShaftAscends
import Derived.Test.YtiahfabhhkpdpaaV2
namespace Go.Proofs.Ytiahfabhhkpdpaa.Pure
open Go.RowKit Go.Proofs.Ytiahfabhhkpdpaa.P Go.Proofs.YtiahfabhhkpdpaaW.PrintWords Go.Proofs.YtiahfabhhkpdpaaW.PrintLast
set_option linter.unusedSimpArgs false
set_option linter.unusedVariables false

theorem ascends_loop (g : List Int) (h : gok g) (a b c : Int) : ∀ (d k i : Nat), 1 ≤ i → i + d = g.length + 1 →
    tipstafflaw07_ShaftAscends.l0 (k + d + 1) a b c g (posns g) ((List.range (g.length + 1)).map fun j : Nat => (j : Int)) i = some true := by
  have hl := h.2.1
  intro d
  induction d with
  | zero =>
    intro k i h1 hi
    obtain ⟨x, hx, hx0, hx1⟩ := mod_eq a ((g.length + 1 : Nat) : Int) (by omega) (by omega)
    obtain ⟨y, hy, hy0, hy1⟩ := mod_eq b ((g.length + 1 : Nat) : Int) (by omega) (by omega)
    obtain ⟨z, hz, hz0, hz1⟩ := mod_eq c ((g.length + 1 : Nat) : Int) (by omega) (by omega)
    obtain ⟨lo, hlo⟩ : ∃ lo : Nat, mn (mn x y) z = lo := ⟨(mn (mn x y) z).toNat, by unfold mn; split <;> split <;> omega⟩
    obtain ⟨hi2, hhi⟩ : ∃ hi : Nat, mx (mx x y) z = hi := ⟨(mx (mx x y) z).toNat, by unfold mx; split <;> split <;> omega⟩
    have hlh : (lo : Int) ≤ x ∧ (lo : Int) ≤ y ∧ (lo : Int) ≤ z ∧ x ≤ hi2 ∧ y ≤ hi2 ∧ z ≤ hi2 ∧ ((lo : Int) = x ∨ (lo : Int) = y ∨ (lo : Int) = z) ∧ ((hi2 : Int) = x ∨ (hi2 : Int) = y ∨ (hi2 : Int) = z) := by
      rw [← hlo, ← hhi]; unfold mn mx; (repeat' split) <;> omega
    obtain ⟨mid, hmid⟩ : ∃ m : Nat, x + y + z - lo - hi2 = m := ⟨(x + y + z - lo - hi2).toNat, by omega⟩
    rw [tipstafflaw07_ShaftAscends.l0, if_neg (by rw [posns_len]; omega), posns_len, hx, Option.bind_some, hy, Option.bind_some, hz, Option.bind_some, hlo, hhi, wsm (x + y) (by omega) (by omega), wsm (x + y + z) (by omega) (by omega), wsm (x + y + z - lo) (by omega) (by omega), wsm (x + y + z - lo - hi2) (by omega) (by omega), hmid]
    have p1 := pos_le g h lo mid (by omega) (by omega)
    have p2 := pos_le g h mid hi2 (by omega) (by omega)
    have p3 := pos_top g h lo (by omega)
    have p4 := pos_top g h hi2 (by omega)
    rw [Distance_in g h lo mid (by omega) (by omega), Option.bind_some, Distance_in g h hi2 mid (by omega) (by omega), Option.bind_some, Distance_in g h lo hi2 (by omega) (by omega), Option.bind_some, if_pos rfl, if_pos rfl, if_pos rfl]
    congr 1
    dsimp only
    have e : dst (pos g lo) (pos g mid) + dst (pos g hi2) (pos g mid) = dst (pos g lo) (pos g hi2) := by unfold dst; omega
    rw [wsm _ (by unfold dst; omega) (by unfold dst; omega), e]
    simp
  | succ d ih =>
    intro k i h1 hi
    have ps := pos_succ g (i - 1) (by omega)
    rw [show i - 1 + 1 = i from by omega] at ps
    have t1 := pos_top g h i (by omega)
    have t2 := pos_top g h (i - 1) (by omega)
    rw [show k + (d + 1) + 1 = (k + d + 1) + 1 from by omega, tipstafflaw07_ShaftAscends.l0, if_pos (by rw [posns_len]; omega), if_pos (by omega), wsm ((i : Int) - 1) (by omega) (by omega), show (i : Int) - 1 = ((i - 1 : Nat) : Int) from by omega, if_pos (by omega), if_pos (by rw [posns_len]; omega), if_pos (by omega), posns_rd g i (by omega), posns_rd g (i - 1) (by omega), wsm (pos g i - pos g (i - 1)) (by omega) (by omega), if_pos (by omega), if_pos (by simp; omega), rd_range _ i (by omega), if_pos rfl, wsm _ (by omega) (by omega), show (i : Int) + 1 = ((i + 1 : Nat) : Int) from by omega]
    exact ih k (i + 1) (by omega) (by omega)

theorem ShaftAscends : tipstafflaw07_ShaftAscends.Pure := by
  intro xs a b c _ _ _ _ _ _
  obtain ⟨g, hg, h⟩ := made_ok xs 250
  have hl := h.2.1
  have hn := h.1
  have p0 := pos_zero g
  have pt := pos_top g h g.length (by omega)
  have r0 : rd (posns g) 0 = 0 := (posns_rd g 0 (by omega)).trans p0
  refine ⟨300, ?_⟩
  have e := ascends_loop g h a b c g.length (298 - g.length) 1 (by omega) (by omega)
  rw [show 298 - g.length + g.length + 1 = 299 from by omega, show ((1 : Nat) : Int) = 1 from rfl] at e
  unfold tipstafflaw07_ShaftAscends.f
  rw [show 300 = 260 + 40 from rfl, known_true, Option.bind_some, if_pos rfl, show 260 + 40 = 250 + 50 from rfl, hg, Option.bind_some, positions_ok g h, Option.bind_some, Height_ok g h, Option.bind_some]
  dsimp only
  rw [show 250 + 50 = 220 + 80 from rfl, Between_in g h 0 _ (by omega) (by omega) (by omega), Option.bind_some, btw_posns g h]
  dsimp only
  rw [if_pos rfl, if_pos rfl, if_pos rfl, posns_len, wsm _ (by omega) (by omega), if_pos (by omega), if_pos (by omega), r0, if_pos rfl, if_pos (by omega), if_pos (by omega), posns_rd g g.length (by omega), if_pos rfl, List.length_map, List.length_range, bne_self_eq_false, show 220 + 80 = 299 + 1 from rfl, tipstafflaw07_ShaftAscends.j0, if_neg (by decide)]
  exact e

end Go.Proofs.Ytiahfabhhkpdpaa.Pure
