/- No floor is nearer than Nearest, a floor's own position is nearest to it, and At's floor is level: for gaps made of any numbers, any position and tolerance. No condition. -/
import Derived.Test.YtiahfabhhkpdpaaLShaftNear
import Derived.Test.YtiahfabhhkpdpaaV2
namespace Go.Proofs.Ytiahfabhhkpdpaa.Pure
open Go.RowKit Go.Proofs.Ytiahfabhhkpdpaa.P Go.Proofs.YtiahfabhhkpdpaaW.PrintWords Go.Proofs.YtiahfabhhkpdpaaW.PrintLast
set_option linter.unusedSimpArgs false
set_option linter.unusedVariables false

theorem near_loop (g : List Int) (h : gok g) (p t : Int) (hp : 0 ≤ p) (hp2 : p ≤ pos g g.length) (ht : 0 ≤ t) (ht2 : t ≤ 20) (m : Nat) (hm : near g p m) : ∀ (d k i : Nat), i + d = g.length + 1 →
    tipstafflaw07_ShaftNear.l0 (k + d + 72) t g (posns g) p m (dst (pos g m) p) i = some true := by
  have hl := h.2.1
  have pt := pos_top g h g.length (by omega)
  have hml := hm.1
  intro d
  induction d with
  | zero =>
    intro k i hi
    obtain ⟨e, _⟩ := At_in g h p t hp hp2 ht ht2 m hm k
    rw [show k + 0 + 72 = (k + 71) + 1 from rfl, tipstafflaw07_ShaftNear.l0, if_neg (by rw [posns_len]; omega), e, Option.bind_some]
    by_cases hd : dst (pos g m) p > t
    · rw [if_pos hd, if_pos hd]; rfl
    · rw [if_neg hd, if_neg hd]
      dsimp only
      rw [Level_in g h p t m hp hp2 hml ht ht2, Option.bind_some, if_pos rfl, if_pos rfl, if_pos rfl, decide_eq_true (by omega)]
  | succ d ih =>
    intro k i hi
    have ti := pos_top g h i (by omega)
    have tm := pos_top g h m hml
    have hle := pos_le g h i g.length (by omega) (by omega)
    obtain ⟨m', n1, _, _, n2⟩ := Nearest_in g h (pos g i) ti.1 hle (k + d + 2)
    have e := near_unique g (pos g i) m' i n2 (near_own g h i (by omega))
    subst e
    have hd := hm.2 m' (by omega)
    have ed : wrap64 ((mx (pos g m') p) - (mn (pos g m') p)) = dst (pos g m') p := by
      unfold mx mn dst
      rw [wsm]
      · (repeat' split) <;> omega
      · (repeat' split) <;> omega
      · (repeat' split) <;> omega
    have e2 := ih k (m' + 1) (by omega)
    rw [show k + (d + 1) + 72 = (k + d + 2 + 70) + 1 from by omega, tipstafflaw07_ShaftNear.l0, if_pos (by rw [posns_len]; omega), if_pos (by omega), posns_rd g m' (by omega), n1, Option.bind_some, ed, if_neg (by omega), wsm _ (by omega) (by omega), show (m' : Int) + 1 = ((m' + 1 : Nat) : Int) from by omega, show k + d + 2 + 70 = k + d + 72 from by omega, e2]
    by_cases hq : dst (pos g m') p = dst (pos g m) p
    · rw [if_pos hq, if_neg (fun hh => by have := hd.2 (by omega); omega), if_pos rfl, if_pos rfl]
    · rw [if_neg hq, if_pos rfl, if_pos rfl]

theorem ShaftNear : tipstafflaw07_ShaftNear.Pure := by
  intro xs a b _ _ _ _ _
  obtain ⟨g, hg, h⟩ := made_ok xs 250
  have hl := h.2.1
  have hn := h.1
  have pt := pos_top g h g.length (by omega)
  have p1 : 1 ≤ pos g g.length := by have := pos_lt g h 0 g.length (by omega) (by omega); have := pos_zero g; omega
  obtain ⟨p, hp, hp0, hp1⟩ := mod_eq a (pos g g.length + 1) (by omega) (by omega)
  obtain ⟨t, ht, ht0, ht1⟩ := mod_eq b 21 (by omega) (by omega)
  obtain ⟨m, n1, _, _, hm⟩ := Nearest_in g h p hp0 (by omega) 229
  have hml := hm.1
  have tm := pos_top g h m hml
  refine ⟨300, ?_⟩
  have e := near_loop g h p t hp0 (by omega) ht0 (by omega) m hm (g.length + 1) (298 - 72 - (g.length + 1)) 0 (by omega)
  rw [show 298 - 72 - (g.length + 1) + (g.length + 1) + 72 = 298 from by omega, show ((0 : Nat) : Int) = 0 from rfl] at e
  have ed : wrap64 ((mx (pos g m) p) - (mn (pos g m) p)) = dst (pos g m) p := by
    unfold mx mn dst
    rw [wsm]
    · (repeat' split) <;> omega
    · (repeat' split) <;> omega
    · (repeat' split) <;> omega
  unfold tipstafflaw07_ShaftNear.f
  rw [show 300 = 260 + 40 from rfl, known_true, Option.bind_some, if_pos rfl, show 260 + 40 = 250 + 50 from rfl, hg, Option.bind_some, positions_ok g h, Option.bind_some, if_pos rfl]
  dsimp only
  rw [posns_len, wsm _ (by omega) (by omega), if_pos (by omega), if_pos (by omega), if_pos (by omega), posns_rd g g.length (by omega), decide_eq_false (by omega), show 250 + 50 = 299 + 1 from rfl, tipstafflaw07_ShaftNear.j0, if_neg (by decide), if_pos (by omega), posns_len, if_pos (by omega), posns_rd g g.length (by omega), wsm _ (by omega) (by omega), hp, Option.bind_some, ht, Option.bind_some, show 299 = 229 + 70 from rfl, n1, Option.bind_some, if_pos rfl, if_neg (by omega), decide_eq_false (by omega), show 229 + 70 = 298 + 1 from rfl, tipstafflaw07_ShaftNear.j1, if_neg (by decide), if_pos (by omega), posns_len, if_pos (by omega), posns_rd g m hml, ed]
  exact e

end Go.Proofs.Ytiahfabhhkpdpaa.Pure
