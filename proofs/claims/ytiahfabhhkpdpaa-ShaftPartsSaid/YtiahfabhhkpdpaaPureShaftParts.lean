/- Two adjoining ranges of positions have together the floors of the whole: for gaps made of any numbers and any cut. No condition. -/
import Derived.Test.YtiahfabhhkpdpaaLShaftParts
import Derived.Test.YtiahfabhhkpdpaaV2
namespace Go.Proofs.Ytiahfabhhkpdpaa.Pure
open Go.RowKit Go.Proofs.Ytiahfabhhkpdpaa.P Go.Proofs.YtiahfabhhkpdpaaW.PrintWords Go.Proofs.YtiahfabhhkpdpaaW.PrintLast
set_option linter.unusedSimpArgs false
set_option linter.unusedVariables false

theorem ShaftParts : tipstafflaw07_ShaftParts.Pure := by
  intro xs a _ _ _ _
  obtain ⟨g, hg, h⟩ := made_ok xs 250
  have hl := h.2.1
  have hn := h.1
  have pt := pos_top g h g.length (by omega)
  have p1 : 1 ≤ pos g g.length := by have := pos_lt g h 0 g.length (by omega) (by omega); have := pos_zero g; omega
  obtain ⟨c, hc, hc0, hc1⟩ := mod_eq a (pos g g.length) (by omega) (by omega)
  refine ⟨300, ?_⟩
  unfold tipstafflaw07_ShaftParts.f
  rw [show 300 = 260 + 40 from rfl, known_true, Option.bind_some, if_pos rfl, show 260 + 40 = 250 + 50 from rfl, hg, Option.bind_some, Height_ok g h, Option.bind_some, if_pos rfl]
  dsimp only
  rw [decide_eq_false (by omega), show 250 + 50 = 299 + 1 from rfl, tipstafflaw07_ShaftParts.j0, if_neg (by decide), hc, Option.bind_some, show 299 = 219 + 80 from rfl, Between_in g h 0 c (by omega) (by omega) (by omega), Option.bind_some, wsm (c + 1) (by omega) (by omega), Between_in g h (c + 1) _ (by omega) (by omega) (by omega), Option.bind_some, Between_in g h 0 _ (by omega) (by omega) (by omega), Option.bind_some]
  dsimp only
  have l1 := btw_len (posns g) 0 c (g.length + 1) 0
  have l2 := btw_len (posns g) (c + 1) (pos g g.length) (g.length + 1) 0
  rw [if_pos rfl, if_pos rfl, if_pos rfl, own_eq _ (by omega), Option.bind_some, if_pos (by omega), btw_cut g h c (g.length + 1) 0 (by omega), btw_posns g h, show 219 + 80 = 198 + 100 + 1 from rfl, same_refl _ 100 (by simp; omega) (by omega), Option.bind_some, if_pos rfl, wsm _ (by omega) (by omega)]
  simp

end Go.Proofs.Ytiahfabhhkpdpaa.Pure
