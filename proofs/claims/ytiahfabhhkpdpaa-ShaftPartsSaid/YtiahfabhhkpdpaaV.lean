/- What the laws of this chapter share: plain Lean, no program. -/
import Derived.Test.YtiahfabhhkpdpaaShaftU
import Derived.Test.YtiahfabhhkpdpaaP2tipstafflaw07
namespace Go.Proofs.Ytiahfabhhkpdpaa.P
open Go.RowKit Go.Proofs.YtiahfabhhkpdpaaW.PrintWords Go.Proofs.YtiahfabhhkpdpaaW.PrintLast Go.Proofs.YtiahfabhhkpdpaaW.PrintMore
theorem awake_true (k : Nat) : tipstafflaw07_awake.f (k + 20) = some true := by
  have h : tipstafflaw07_awake.f 20 = some true := by decide +kernel
  induction k with
  | zero => exact h
  | succ k ih => exact tipstafflaw07_awake.mono _ _ ih
theorem own_eq (l : List Int) (h : l.length ≤ 100000) : tipstaffkit_OwnInts.f l = some l := by
  unfold tipstaffkit_OwnInts.f
  rw [Option.bind_some, if_pos (by simp; omega), List.nil_append]
end Go.Proofs.Ytiahfabhhkpdpaa.P
