-- Printed by wip/myprint.py of this repo (over the kit's printer). Not trusted: Lean checks it.
import Derived.Test.YtfeikhooaadlbaaProg
import Derived.Below
import Derived.Deep.Draws
import Derived.Deep.AppendLies
import Derived.Maps.AppendAt
import Derived.OwnWalk
import Derived.Laws.BytesArg
import Derived.Laws.MakeOwn
import Derived.Laws.OwnMore
import Derived.Deep.OwnRows
import Derived.Tactics
import Derived.Lib.ConvBytes
import Derived.Laws.Slices
import Derived.WalkKit
import Derived.KernelRfl
import Derived.RowKit3
import Derived.Deep.LoopGhost
import Derived.Deep.QuietTactic
import Derived.BigQuiet
import Derived.WideLaws
import Derived.Deep.DeepCutAuto
import Derived.Deep.CutBlock
import Derived.Deep.RegionHeld3
import Derived.Laws.Rows
import Derived.Lib.AppendStr
import Derived.ArgAppend
import Derived.Laws.IdiomCopy
import Derived.OrdersHeld
import Derived.Laws.BitsLemmas
import Derived.RowKit
import Derived.Test.YtfeikhooaadlbaaWWords
import Derived.Test.YtfeikhooaadlbaaWLast
import Derived.Test.YtfeikhooaadlbaaWTab
import Derived.Test.YtfeikhooaadlbaaWFour
import Derived.Test.YtfeikhooaadlbaaWQPut
import Derived.Test.YtfeikhooaadlbaaWApart
import Derived.Test.YtfeikhooaadlbaaWArr
import Derived.Test.YtfeikhooaadlbaaWZeros
import Derived.Test.YtfeikhooaadlbaaWFoot
import Derived.Test.YtfeikhooaadlbaaWKept
import Derived.Test.YtfeikhooaadlbaaWShare
import Derived.Test.YtfeikhooaadlbaaWN
import Derived.Test.YtfeikhooaadlbaaWFootNe
import Derived.Test.YtfeikhooaadlbaaWAt
import Derived.Test.YtfeikhooaadlbaaWEqStruct
import Derived.Test.YtfeikhooaadlbaaWRepsOne
import Derived.Test.YtfeikhooaadlbaaWInv
import Derived.Test.YtfeikhooaadlbaaWInvWords
import Derived.Test.YtfeikhooaadlbaaWGuard
import Derived.Test.YtfeikhooaadlbaaWNEv
import Derived.Test.YtfeikhooaadlbaaWMore
namespace Go.Proofs.Ytfeikhooaadlbaa.P
open Go.RowKit Go.Proofs.YtfeikhooaadlbaaW.PrintWords Go.Proofs.YtfeikhooaadlbaaW.PrintLast Go.Proofs.YtfeikhooaadlbaaW.PrintMore
attribute [local go_sem] max2_int min2_int max_two min_two max_three min_three max_four min_four   -- for this text's walks alone
set_option linter.unusedVariables false
set_option linter.unusedSimpArgs false



def errW : Option Int → Value
  | none => .nilIface
  | some c => .iface 0 (.int .i64 c)
theorem errW_none : errW none = .nilIface := rfl
theorem errW_some (c : Int) : errW (some c) = .iface 0 (.int .i64 c) := rfl

-- the values' own types

theorem cell_same1 {W : World} {a : Addr} {v : Value} (h : (W.cell? a).isSome = true) : (W.setCell a v).cell? a = some v := by
  obtain ⟨x, hx⟩ := Option.isSome_iff_exists.mp h
  exact World.cell?_setCell_same W a v hx
theorem cell_some1 {W : World} {a b : Addr} {v : Value} : ((W.setCell b v).cell? a).isSome = (W.cell? a).isSome := by
  by_cases e : b = a
  · subst e
    simp only [World.setCell, World.cell?, Array.getElem?_modify, ↓reduceIte]
    cases hh : W.heap[b.block]? with
    | none => simp
    | some x => cases x <;> simp <;> cases hs : b.spot <;> simp [Array.getElem?_setIfInBounds] <;> split <;> simp_all
  · rw [World.cell?_setCell_other W b a v e]
end Go.Proofs.Ytfeikhooaadlbaa.P
