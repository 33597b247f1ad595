/-
  No cell of these rows narrows 'for every input' (looked for: loops, veiled, ifaces, maps, wideKeys, modest, calm, conditions, laid).
  DERIVED. THE GIVEN ROWS OF THIS SEAT. 7 by the template 'for every input the law returns true; each argument reads behind the call as it read before'; 0 by the template 'total and deterministic' (their statements: YtfibbdbpclkbgaaTotals.lean).
  GIVEN WITH THE SEED: the statements are not yours to turn. If you find one false, say at which input.
  Laid BY PROGRAM, IN A SANDBOX (cutbox-rows.mjs): the forced cells as the released guide's own fill.sh prints them over the translation 5bbcaf136216f5d9… (all of the seat's roots in one cut). By AI agents, Wed Nov 11 2026. No macro, syntax, notation, axiom, sorry.
-/
import Derived.Test.YtfibbdbpclkbgaaChecked
import GoSem.Claim
import GoSem.ClaimJoined
import GoSem.ClaimMapViews
import Derived.JoinedTies
import Derived.KernelRfl
namespace Go.Proofs.Ytfibbdbpclkbgaa
/- THE CELL 'sum', in the pinned program and in every row, IS THE sha256 OF THE DUMP (.gsa) THAT YtfibbdbpclkbgaaProg.lean LOADS. Nothing in Lean hashes anything: it is a label: what it is worth is what the hold of that sum in a sandbox is worth. -/
noncomputable def Try.pinned : Pinned := { name := "ytfibbdbpclkbgaa", sum := "5bbcaf136216f5d98f4c210bb3e26a88d66bc4acbe41f04333668bc8140f8188", checked := Try.checked }
namespace Rows
def none {H : Type} : Left H := { results := [], args := [] }

/-- 'tipstafflaw10.BrakeStates': WHATEVER THE INPUT: true; the input reads as it did. -/
def brakeStatesSpec : ChangeSpec := { name := "brakeStates", fn := fun _ => fun
  | [d1, d2] => { results := [.lit (.bool true)], args := [d1, d2] }
  | _ => none }
def brakeStatesRow : OpenClaim := { program := "ytfibbdbpclkbgaa", sum := "5bbcaf136216f5d98f4c210bb3e26a88d66bc4acbe41f04333668bc8140f8188", func := "tipstaff/tipstafflaw10.BrakeStates", spec := "brakeStates", unfollowed := true, recurses := true, apart := false }
def BrakeStatesSaid : Prop := brakeStatesRow.holds Try.pinned (OpenSpec.ofChange brakeStatesSpec)

/-- ITS FALSE NEIGHBOUR: 'it returns false'. Refute it at one input. -/
def brakeStatesWrong : ChangeSpec := { name := "brakeStates", fn := fun _ => fun
  | [d1, d2] => { results := [.lit (.bool false)], args := [d1, d2] }
  | _ => none }
def BrakeStatesWrongFalsely : Prop := brakeStatesRow.holds Try.pinned (OpenSpec.ofChange brakeStatesWrong)

/-- 'tipstafflaw10.BrakeValid': WHATEVER THE INPUT: true; the input reads as it did. -/
def brakeValidSpec : ChangeSpec := { name := "brakeValid", fn := fun _ => fun
  | [d1, d2] => { results := [.lit (.bool true)], args := [d1, d2] }
  | _ => none }
def brakeValidRow : OpenClaim := { program := "ytfibbdbpclkbgaa", sum := "5bbcaf136216f5d98f4c210bb3e26a88d66bc4acbe41f04333668bc8140f8188", func := "tipstaff/tipstafflaw10.BrakeValid", spec := "brakeValid", unfollowed := true, recurses := true, apart := false }
def BrakeValidSaid : Prop := brakeValidRow.holds Try.pinned (OpenSpec.ofChange brakeValidSpec)

/-- ITS FALSE NEIGHBOUR: 'it returns false'. Refute it at one input. -/
def brakeValidWrong : ChangeSpec := { name := "brakeValid", fn := fun _ => fun
  | [d1, d2] => { results := [.lit (.bool false)], args := [d1, d2] }
  | _ => none }
def BrakeValidWrongFalsely : Prop := brakeValidRow.holds Try.pinned (OpenSpec.ofChange brakeValidWrong)

/-- 'tipstafflaw10.BrakeRuns': WHATEVER THE INPUT: true; the input reads as it did. -/
def brakeRunsSpec : ChangeSpec := { name := "brakeRuns", fn := fun _ => fun
  | [d1, d2, d3] => { results := [.lit (.bool true)], args := [d1, d2, d3] }
  | _ => none }
def brakeRunsRow : OpenClaim := { program := "ytfibbdbpclkbgaa", sum := "5bbcaf136216f5d98f4c210bb3e26a88d66bc4acbe41f04333668bc8140f8188", func := "tipstaff/tipstafflaw10.BrakeRuns", spec := "brakeRuns", unfollowed := true, recurses := true, apart := false }
def BrakeRunsSaid : Prop := brakeRunsRow.holds Try.pinned (OpenSpec.ofChange brakeRunsSpec)

/-- ITS FALSE NEIGHBOUR: 'it returns false'. Refute it at one input. -/
def brakeRunsWrong : ChangeSpec := { name := "brakeRuns", fn := fun _ => fun
  | [d1, d2, d3] => { results := [.lit (.bool false)], args := [d1, d2, d3] }
  | _ => none }
def BrakeRunsWrongFalsely : Prop := brakeRunsRow.holds Try.pinned (OpenSpec.ofChange brakeRunsWrong)

/-- 'tipstafflaw10.BrakeTimes': WHATEVER THE INPUT: true; the input reads as it did. -/
def brakeTimesSpec : ChangeSpec := { name := "brakeTimes", fn := fun _ => fun
  | [d] => { results := [.lit (.bool true)], args := [d] }
  | _ => none }
def brakeTimesRow : OpenClaim := { program := "ytfibbdbpclkbgaa", sum := "5bbcaf136216f5d98f4c210bb3e26a88d66bc4acbe41f04333668bc8140f8188", func := "tipstaff/tipstafflaw10.BrakeTimes", spec := "brakeTimes", unfollowed := true, recurses := true, apart := false }
def BrakeTimesSaid : Prop := brakeTimesRow.holds Try.pinned (OpenSpec.ofChange brakeTimesSpec)

/-- ITS FALSE NEIGHBOUR: 'it returns false'. Refute it at one input. -/
def brakeTimesWrong : ChangeSpec := { name := "brakeTimes", fn := fun _ => fun
  | [d] => { results := [.lit (.bool false)], args := [d] }
  | _ => none }
def BrakeTimesWrongFalsely : Prop := brakeTimesRow.holds Try.pinned (OpenSpec.ofChange brakeTimesWrong)

/-- 'tipstafflaw10.BrakeSums': WHATEVER THE INPUT: true; the input reads as it did. -/
def brakeSumsSpec : ChangeSpec := { name := "brakeSums", fn := fun _ => fun
  | [d1, d2, d3, d4, d5] => { results := [.lit (.bool true)], args := [d1, d2, d3, d4, d5] }
  | _ => none }
def brakeSumsRow : OpenClaim := { program := "ytfibbdbpclkbgaa", sum := "5bbcaf136216f5d98f4c210bb3e26a88d66bc4acbe41f04333668bc8140f8188", func := "tipstaff/tipstafflaw10.BrakeSums", spec := "brakeSums", unfollowed := true, recurses := true, apart := false }
def BrakeSumsSaid : Prop := brakeSumsRow.holds Try.pinned (OpenSpec.ofChange brakeSumsSpec)

/-- ITS FALSE NEIGHBOUR: 'it returns false'. Refute it at one input. -/
def brakeSumsWrong : ChangeSpec := { name := "brakeSums", fn := fun _ => fun
  | [d1, d2, d3, d4, d5] => { results := [.lit (.bool false)], args := [d1, d2, d3, d4, d5] }
  | _ => none }
def BrakeSumsWrongFalsely : Prop := brakeSumsRow.holds Try.pinned (OpenSpec.ofChange brakeSumsWrong)

/-- 'tipstafflaw10.BrakeOrders': WHATEVER THE INPUT: true; the input reads as it did. -/
def brakeOrdersSpec : ChangeSpec := { name := "brakeOrders", fn := fun _ => fun
  | [d1, d2] => { results := [.lit (.bool true)], args := [d1, d2] }
  | _ => none }
def brakeOrdersRow : OpenClaim := { program := "ytfibbdbpclkbgaa", sum := "5bbcaf136216f5d98f4c210bb3e26a88d66bc4acbe41f04333668bc8140f8188", func := "tipstaff/tipstafflaw10.BrakeOrders", spec := "brakeOrders", unfollowed := true, recurses := true, apart := false }
def BrakeOrdersSaid : Prop := brakeOrdersRow.holds Try.pinned (OpenSpec.ofChange brakeOrdersSpec)

/-- ITS FALSE NEIGHBOUR: 'it returns false'. Refute it at one input. -/
def brakeOrdersWrong : ChangeSpec := { name := "brakeOrders", fn := fun _ => fun
  | [d1, d2] => { results := [.lit (.bool false)], args := [d1, d2] }
  | _ => none }
def BrakeOrdersWrongFalsely : Prop := brakeOrdersRow.holds Try.pinned (OpenSpec.ofChange brakeOrdersWrong)

/-- 'tipstafflaw10.BrakeKnown': WHATEVER THE INPUT: true; the input reads as it did. -/
def brakeKnownSpec : ChangeSpec := { name := "brakeKnown", fn := fun _ => fun
  | [] => { results := [.lit (.bool true)], args := [] }
  | _ => none }
def brakeKnownRow : OpenClaim := { program := "ytfibbdbpclkbgaa", sum := "5bbcaf136216f5d98f4c210bb3e26a88d66bc4acbe41f04333668bc8140f8188", func := "tipstaff/tipstafflaw10.BrakeKnown", spec := "brakeKnown", unfollowed := true, recurses := true, apart := false }
def BrakeKnownSaid : Prop := brakeKnownRow.holds Try.pinned (OpenSpec.ofChange brakeKnownSpec)

/-- ITS FALSE NEIGHBOUR: 'it returns false'. Refute it at one input. -/
def brakeKnownWrong : ChangeSpec := { name := "brakeKnown", fn := fun _ => fun
  | [] => { results := [.lit (.bool false)], args := [] }
  | _ => none }
def BrakeKnownWrongFalsely : Prop := brakeKnownRow.holds Try.pinned (OpenSpec.ofChange brakeKnownWrong)

/- THE SECOND FORM. 'bulk': how many values and letters a reading holds, each counted each time it is reached (what is shared counts as often as it is met; a slice's spare places count too). A statement '..UptoSaid' is the law's where the arguments, and the package variables that the reading takes, are together of bulk at most 1048576: NARROWER than '..Said'. Prove '..Said' where nothing that the law and all that it calls make is longer than what came in: it says more and counts as full. Else prove '..UptoSaid'. A law counts once. -/
mutual
def uptoBulk {H : Type} : DataW H → Nat
  | .lit (.string bytes) => bytes.length + 1
  | .lit _ => 1
  | .nil => 1
  | .ptr d => uptoBulk d + 1
  | .slice elems spare => uptoBulkAll elems + uptoBulkAll spare + 1
  | .agg parts => uptoBulkAll parts + 1
  | .iface _ d => uptoBulk d + 1
  | .map entries => uptoBulkEntries entries + 1
  | .held _ => 1
def uptoBulkAll {H : Type} : List (DataW H) → Nat
  | [] => 0
  | d :: r => uptoBulk d + uptoBulkAll r
def uptoBulkEntries {H : Type} : List (Lit × DataW H) → Nat
  | [] => 0
  | x :: r => uptoBulkEntry x + uptoBulkEntries r
def uptoBulkEntry {H : Type} : Lit × DataW H → Nat
  | (.string bytes, d) => bytes.length + uptoBulk d + 1
  | (_, d) => uptoBulk d + 1
 end
def uptoSmall : (H : Type) → List (DataW H) → Bool := fun _ ds => decide (uptoBulkAll ds ≤ 1048576)
def OpenSpec.upto (s : _root_.Go.ChangeSpec) : _root_.Go.OpenSpec := { _root_.Go.OpenSpec.ofChange s with cond := some uptoSmall }

/-- 'tipstafflaw10.BrakeStates', WHERE WHAT IT READS IS OF BULK AT MOST 1048576: true; the input reads as it did. -/
def brakeStatesUptoRow : OpenClaim := { program := "ytfibbdbpclkbgaa", sum := "5bbcaf136216f5d98f4c210bb3e26a88d66bc4acbe41f04333668bc8140f8188", func := "tipstaff/tipstafflaw10.BrakeStates", spec := "brakeStates", unfollowed := true, recurses := true, apart := false, narrowed := true }
def BrakeStatesUptoSaid : Prop := brakeStatesUptoRow.holds Try.pinned (OpenSpec.upto brakeStatesSpec)

/-- 'tipstafflaw10.BrakeValid', WHERE WHAT IT READS IS OF BULK AT MOST 1048576: true; the input reads as it did. -/
def brakeValidUptoRow : OpenClaim := { program := "ytfibbdbpclkbgaa", sum := "5bbcaf136216f5d98f4c210bb3e26a88d66bc4acbe41f04333668bc8140f8188", func := "tipstaff/tipstafflaw10.BrakeValid", spec := "brakeValid", unfollowed := true, recurses := true, apart := false, narrowed := true }
def BrakeValidUptoSaid : Prop := brakeValidUptoRow.holds Try.pinned (OpenSpec.upto brakeValidSpec)

/-- 'tipstafflaw10.BrakeRuns', WHERE WHAT IT READS IS OF BULK AT MOST 1048576: true; the input reads as it did. -/
def brakeRunsUptoRow : OpenClaim := { program := "ytfibbdbpclkbgaa", sum := "5bbcaf136216f5d98f4c210bb3e26a88d66bc4acbe41f04333668bc8140f8188", func := "tipstaff/tipstafflaw10.BrakeRuns", spec := "brakeRuns", unfollowed := true, recurses := true, apart := false, narrowed := true }
def BrakeRunsUptoSaid : Prop := brakeRunsUptoRow.holds Try.pinned (OpenSpec.upto brakeRunsSpec)

/-- 'tipstafflaw10.BrakeTimes', WHERE WHAT IT READS IS OF BULK AT MOST 1048576: true; the input reads as it did. -/
def brakeTimesUptoRow : OpenClaim := { program := "ytfibbdbpclkbgaa", sum := "5bbcaf136216f5d98f4c210bb3e26a88d66bc4acbe41f04333668bc8140f8188", func := "tipstaff/tipstafflaw10.BrakeTimes", spec := "brakeTimes", unfollowed := true, recurses := true, apart := false, narrowed := true }
def BrakeTimesUptoSaid : Prop := brakeTimesUptoRow.holds Try.pinned (OpenSpec.upto brakeTimesSpec)

/-- 'tipstafflaw10.BrakeSums', WHERE WHAT IT READS IS OF BULK AT MOST 1048576: true; the input reads as it did. -/
def brakeSumsUptoRow : OpenClaim := { program := "ytfibbdbpclkbgaa", sum := "5bbcaf136216f5d98f4c210bb3e26a88d66bc4acbe41f04333668bc8140f8188", func := "tipstaff/tipstafflaw10.BrakeSums", spec := "brakeSums", unfollowed := true, recurses := true, apart := false, narrowed := true }
def BrakeSumsUptoSaid : Prop := brakeSumsUptoRow.holds Try.pinned (OpenSpec.upto brakeSumsSpec)

/-- 'tipstafflaw10.BrakeOrders', WHERE WHAT IT READS IS OF BULK AT MOST 1048576: true; the input reads as it did. -/
def brakeOrdersUptoRow : OpenClaim := { program := "ytfibbdbpclkbgaa", sum := "5bbcaf136216f5d98f4c210bb3e26a88d66bc4acbe41f04333668bc8140f8188", func := "tipstaff/tipstafflaw10.BrakeOrders", spec := "brakeOrders", unfollowed := true, recurses := true, apart := false, narrowed := true }
def BrakeOrdersUptoSaid : Prop := brakeOrdersUptoRow.holds Try.pinned (OpenSpec.upto brakeOrdersSpec)

/-- 'tipstafflaw10.BrakeKnown', WHERE WHAT IT READS IS OF BULK AT MOST 1048576: true; the input reads as it did. -/
def brakeKnownUptoRow : OpenClaim := { program := "ytfibbdbpclkbgaa", sum := "5bbcaf136216f5d98f4c210bb3e26a88d66bc4acbe41f04333668bc8140f8188", func := "tipstaff/tipstafflaw10.BrakeKnown", spec := "brakeKnown", unfollowed := true, recurses := true, apart := false, narrowed := true }
def BrakeKnownUptoSaid : Prop := brakeKnownUptoRow.holds Try.pinned (OpenSpec.upto brakeKnownSpec)

end Rows
end Go.Proofs.Ytfibbdbpclkbgaa
