/- Which gaps are valid, where the floors are, how high the shaft is, and how far floors are apart, or which errors: the program answers as the reference, for all gaps and any two numbers, and does not change the gaps. No condition. -/
import Derived.Test.YtiahfabhhkpdpaaLShaftPlaces
import Derived.Test.YtiahfabhhkpdpaaV
namespace Go.Proofs.Ytiahfabhhkpdpaa.Pure
open Go.RowKit Go.Proofs.Ytiahfabhhkpdpaa.P Go.Proofs.YtiahfabhhkpdpaaW.PrintWords Go.Proofs.YtiahfabhhkpdpaaW.PrintLast
set_option linter.unusedSimpArgs false
set_option linter.unusedVariables false

theorem ShaftPlaces : tipstafflaw07_ShaftPlaces.Pure := by
  intro l a b _ _ _ _ _
  refine ⟨302, ?_⟩
  unfold tipstafflaw07_ShaftPlaces.f
  by_cases h70 : (l.length : Int) > 70
  · rw [if_pos h70, show 302 = 282 + 20 from rfl, awake_true]; rfl
  · rw [if_neg h70, own_eq l (by omega), Option.bind_some]
    obtain ⟨e, i, hc⟩ := check_some l
    obtain ⟨p, e1, h1, h2, h3⟩ := Positions_same l 231
    obtain ⟨q, e2, h4, h5⟩ := Height_same l 230
    obtain ⟨d, e3, h6, h7⟩ := Distance_same l a b 229
    rw [hc, Option.bind_some, show 302 = 232 + 70 from rfl, ref_Check_eq, hc, Option.bind_some, if_pos rfl, bne_self_eq_false, show 232 + 70 = (231 + 70) + 1 from rfl, tipstafflaw07_ShaftPlaces.j0, if_neg (by decide), h1, Option.bind_some, h2, Option.bind_some]
    dsimp only
    rw [show 231 + 70 = 200 + 100 + 1 from rfl, same_refl p 100 h3 (by omega), Option.bind_some, if_pos rfl, bne_self_eq_false, show 200 + 100 + 1 = (230 + 70) + 1 from rfl, tipstafflaw07_ShaftPlaces.j1, if_neg (by decide), h4, Option.bind_some, h5, Option.bind_some, h6, Option.bind_some, show 230 + 70 = 229 + 71 from rfl, h7, Option.bind_some, if_pos rfl, if_pos rfl, if_pos rfl, if_pos rfl, show 229 + 71 = 199 + 100 + 1 from rfl, same_refl l 100 (by omega) (by omega), Option.bind_some, if_pos rfl, show 199 + 100 + 1 = 280 + 20 from rfl, awake_true]
    rfl

end Go.Proofs.Ytiahfabhhkpdpaa.Pure
