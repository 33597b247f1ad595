/- Which floor is nearest to a position, whether it is level at a floor, and which floors lie between two positions, or which errors: the program answers as the reference, for all gaps and any four numbers, and does not change the gaps. No condition. -/
import Derived.Test.YtiahfabhhkpdpaaLShaftLooks
import Derived.Test.YtiahfabhhkpdpaaV
namespace Go.Proofs.Ytiahfabhhkpdpaa.Pure
open Go.RowKit Go.Proofs.Ytiahfabhhkpdpaa.P Go.Proofs.YtiahfabhhkpdpaaW.PrintWords Go.Proofs.YtiahfabhhkpdpaaW.PrintLast
set_option linter.unusedSimpArgs false
set_option linter.unusedVariables false

theorem ShaftLooks : tipstafflaw07_ShaftLooks.Pure := by
  intro l p f t u _ _ _ _ _ _ _
  refine ⟨301, ?_⟩
  unfold tipstafflaw07_ShaftLooks.f
  by_cases h70 : (l.length : Int) > 70
  · rw [if_pos h70, show 301 = 281 + 20 from rfl, awake_true]; rfl
  · rw [if_neg h70, own_eq l (by omega), Option.bind_some]
    obtain ⟨n, e1, h1, h2⟩ := Nearest_same l p 231
    obtain ⟨c, e2, h3, h4⟩ := Level_same l p f t 231
    obtain ⟨m, e3, h5, h6⟩ := At_same l p t 229
    obtain ⟨x, e4, h7, h8, h9⟩ := Between_same l p u 220
    rw [show 301 = 231 + 70 from rfl, h1, Option.bind_some, h2, Option.bind_some, h3, Option.bind_some, h4, Option.bind_some, if_pos rfl, if_pos rfl, bne_self_eq_false, bne_self_eq_false, if_neg (by decide), show 231 + 70 = (229 + 71) + 1 from rfl, tipstafflaw07_ShaftLooks.j0, if_neg (by decide), h5, Option.bind_some, h6, Option.bind_some, show 229 + 71 = 220 + 80 from rfl, h7, Option.bind_some, h8, Option.bind_some, if_pos rfl, if_pos rfl]
    dsimp only
    rw [show 220 + 80 = 199 + 100 + 1 from rfl, same_refl x 100 h9 (by omega), Option.bind_some, if_pos rfl, if_pos rfl, same_refl l 100 (by omega) (by omega), Option.bind_some, if_pos rfl, show 199 + 100 + 1 = 280 + 20 from rfl, awake_true]
    rfl

end Go.Proofs.Ytiahfabhhkpdpaa.Pure
