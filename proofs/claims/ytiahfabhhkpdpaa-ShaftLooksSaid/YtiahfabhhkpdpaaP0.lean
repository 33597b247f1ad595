-- Printed by wip/myprint.py of this repo (over the kit's printer). Not trusted: Lean checks it.
import Derived.Test.YtiahfabhhkpdpaaProg
import Derived.Below
import Derived.Deep.Draws
import Derived.Deep.AppendLies
import Derived.Maps.AppendAt
import Derived.OwnWalk
import Derived.Laws.BytesArg
import Derived.Laws.MakeOwn
import Derived.Laws.OwnMore
import Derived.Deep.OwnRows
import Derived.Tactics
import Derived.Lib.ConvBytes
import Derived.Laws.Slices
import Derived.WalkKit
import Derived.KernelRfl
import Derived.RowKit3
import Derived.Deep.LoopGhost
import Derived.Deep.QuietTactic
import Derived.BigQuiet
import Derived.WideLaws
import Derived.Deep.DeepCutAuto
import Derived.Deep.CutBlock
import Derived.Deep.RegionHeld3
import Derived.Laws.Rows
import Derived.Lib.AppendStr
import Derived.ArgAppend
import Derived.Laws.IdiomCopy
import Derived.OrdersHeld
import Derived.Laws.BitsLemmas
import Derived.RowKit
import Derived.Test.YtiahfabhhkpdpaaWWords
import Derived.Test.YtiahfabhhkpdpaaWLast
import Derived.Test.YtiahfabhhkpdpaaWTab
import Derived.Test.YtiahfabhhkpdpaaWFour
import Derived.Test.YtiahfabhhkpdpaaWQPut
import Derived.Test.YtiahfabhhkpdpaaWApart
import Derived.Test.YtiahfabhhkpdpaaWArr
import Derived.Test.YtiahfabhhkpdpaaWZeros
import Derived.Test.YtiahfabhhkpdpaaWFoot
import Derived.Test.YtiahfabhhkpdpaaWKept
import Derived.Test.YtiahfabhhkpdpaaWShare
import Derived.Test.YtiahfabhhkpdpaaWN
import Derived.Test.YtiahfabhhkpdpaaWFootNe
import Derived.Test.YtiahfabhhkpdpaaWAt
import Derived.Test.YtiahfabhhkpdpaaWEqStruct
import Derived.Test.YtiahfabhhkpdpaaWRepsOne
import Derived.Test.YtiahfabhhkpdpaaWInv
import Derived.Test.YtiahfabhhkpdpaaWInvWords
import Derived.Test.YtiahfabhhkpdpaaWGuard
import Derived.Test.YtiahfabhhkpdpaaWNEv
import Derived.Test.YtiahfabhhkpdpaaWMore
namespace Go.Proofs.Ytiahfabhhkpdpaa.P
open Go.RowKit Go.Proofs.YtiahfabhhkpdpaaW.PrintWords Go.Proofs.YtiahfabhhkpdpaaW.PrintLast Go.Proofs.YtiahfabhhkpdpaaW.PrintMore
attribute [local go_sem] max2_int min2_int max_two min_two max_three min_three max_four min_four   -- for this text's walks alone
set_option linter.unusedVariables false
set_option linter.unusedSimpArgs false



def errW : Option Int → Value
  | none => .nilIface
  | some c => .iface 0 (.int .i64 c)
theorem errW_none : errW none = .nilIface := rfl
theorem errW_some (c : Int) : errW (some c) = .iface 0 (.int .i64 c) := rfl

theorem info3 : (Try.prog.info? 3).map (fun i => (i.zero, i.size, i.bytes)) = some (some (.int .i64 0), 1, 8) := by kernel_rfl
-- the values' own types

end Go.Proofs.Ytiahfabhhkpdpaa.P
