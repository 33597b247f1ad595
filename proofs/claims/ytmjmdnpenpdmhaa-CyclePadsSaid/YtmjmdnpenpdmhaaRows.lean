/-
  No cell of these rows narrows 'for every input' (looked for: loops, veiled, ifaces, maps, wideKeys, modest, calm, conditions, laid).
  DERIVED. THE GIVEN ROWS OF THIS SEAT. 6 by the template 'for every input the law returns true; each argument reads behind the call as it read before'; 0 by the template 'total and deterministic' (their statements: YtmjmdnpenpdmhaaTotals.lean).
  GIVEN WITH THE SEED: the statements are not yours to turn. If you find one false, say at which input.
  Laid BY PROGRAM, IN A SANDBOX (cutbox-rows.mjs): the forced cells as the released guide's own fill.sh prints them over the translation 9f88be0aedf5acab… (all of the seat's roots in one cut). By AI agents, Wed Nov 11 2026. No macro, syntax, notation, axiom, sorry.
-/
import Derived.Test.YtmjmdnpenpdmhaaChecked
import GoSem.Claim
import GoSem.ClaimJoined
import GoSem.ClaimMapViews
import Derived.JoinedTies
import Derived.KernelRfl
namespace Go.Proofs.Ytmjmdnpenpdmhaa
/- THE CELL 'sum', in the pinned program and in every row, IS THE sha256 OF THE DUMP (.gsa) THAT YtmjmdnpenpdmhaaProg.lean LOADS. Nothing in Lean hashes anything: it is a label: what it is worth is what the hold of that sum in a sandbox is worth. -/
noncomputable def Try.pinned : Pinned := { name := "ytmjmdnpenpdmhaa", sum := "9f88be0aedf5acab506301e0a13c85cc78244f7abcf705cfae6b44e146311d82", checked := Try.checked }
namespace Rows
def none {H : Type} : Left H := { results := [], args := [] }

/-- 'tipstafflaw19.CyclePanels': WHATEVER THE INPUT: true; the input reads as it did. -/
def cyclePanelsSpec : ChangeSpec := { name := "cyclePanels", fn := fun _ => fun
  | [d1, d2, d3] => { results := [.lit (.bool true)], args := [d1, d2, d3] }
  | _ => none }
def cyclePanelsRow : OpenClaim := { program := "ytmjmdnpenpdmhaa", sum := "9f88be0aedf5acab506301e0a13c85cc78244f7abcf705cfae6b44e146311d82", func := "tipstaff/tipstafflaw19.CyclePanels", spec := "cyclePanels", unfollowed := true, recurses := true, plainKeys := false, apart := false }
def CyclePanelsSaid : Prop := cyclePanelsRow.holds Try.pinned (OpenSpec.ofChange cyclePanelsSpec)

/-- ITS FALSE NEIGHBOUR: 'it returns false'. Refute it at one input. -/
def cyclePanelsWrong : ChangeSpec := { name := "cyclePanels", fn := fun _ => fun
  | [d1, d2, d3] => { results := [.lit (.bool false)], args := [d1, d2, d3] }
  | _ => none }
def CyclePanelsWrongFalsely : Prop := cyclePanelsRow.holds Try.pinned (OpenSpec.ofChange cyclePanelsWrong)

/-- 'tipstafflaw19.CycleKnown': WHATEVER THE INPUT: true; the input reads as it did. -/
def cycleKnownSpec : ChangeSpec := { name := "cycleKnown", fn := fun _ => fun
  | [] => { results := [.lit (.bool true)], args := [] }
  | _ => none }
def cycleKnownRow : OpenClaim := { program := "ytmjmdnpenpdmhaa", sum := "9f88be0aedf5acab506301e0a13c85cc78244f7abcf705cfae6b44e146311d82", func := "tipstaff/tipstafflaw19.CycleKnown", spec := "cycleKnown", unfollowed := true, recurses := true, plainKeys := false, apart := false }
def CycleKnownSaid : Prop := cycleKnownRow.holds Try.pinned (OpenSpec.ofChange cycleKnownSpec)

/-- ITS FALSE NEIGHBOUR: 'it returns false'. Refute it at one input. -/
def cycleKnownWrong : ChangeSpec := { name := "cycleKnown", fn := fun _ => fun
  | [] => { results := [.lit (.bool false)], args := [] }
  | _ => none }
def CycleKnownWrongFalsely : Prop := cycleKnownRow.holds Try.pinned (OpenSpec.ofChange cycleKnownWrong)

/-- 'tipstafflaw19.CyclePads': WHATEVER THE INPUT: true; the input reads as it did. -/
def cyclePadsSpec : ChangeSpec := { name := "cyclePads", fn := fun _ => fun
  | [d1, d2] => { results := [.lit (.bool true)], args := [d1, d2] }
  | _ => none }
def cyclePadsRow : OpenClaim := { program := "ytmjmdnpenpdmhaa", sum := "9f88be0aedf5acab506301e0a13c85cc78244f7abcf705cfae6b44e146311d82", func := "tipstaff/tipstafflaw19.CyclePads", spec := "cyclePads", unfollowed := true, recurses := true, plainKeys := false, apart := false }
def CyclePadsSaid : Prop := cyclePadsRow.holds Try.pinned (OpenSpec.ofChange cyclePadsSpec)

/-- ITS FALSE NEIGHBOUR: 'it returns false'. Refute it at one input. -/
def cyclePadsWrong : ChangeSpec := { name := "cyclePads", fn := fun _ => fun
  | [d1, d2] => { results := [.lit (.bool false)], args := [d1, d2] }
  | _ => none }
def CyclePadsWrongFalsely : Prop := cyclePadsRow.holds Try.pinned (OpenSpec.ofChange cyclePadsWrong)

/-- 'tipstafflaw19.CycleForces': WHATEVER THE INPUT: true; the input reads as it did. -/
def cycleForcesSpec : ChangeSpec := { name := "cycleForces", fn := fun _ => fun
  | [d1, d2, d3] => { results := [.lit (.bool true)], args := [d1, d2, d3] }
  | _ => none }
def cycleForcesRow : OpenClaim := { program := "ytmjmdnpenpdmhaa", sum := "9f88be0aedf5acab506301e0a13c85cc78244f7abcf705cfae6b44e146311d82", func := "tipstaff/tipstafflaw19.CycleForces", spec := "cycleForces", unfollowed := true, recurses := true, plainKeys := false, apart := false }
def CycleForcesSaid : Prop := cycleForcesRow.holds Try.pinned (OpenSpec.ofChange cycleForcesSpec)

/-- ITS FALSE NEIGHBOUR: 'it returns false'. Refute it at one input. -/
def cycleForcesWrong : ChangeSpec := { name := "cycleForces", fn := fun _ => fun
  | [d1, d2, d3] => { results := [.lit (.bool false)], args := [d1, d2, d3] }
  | _ => none }
def CycleForcesWrongFalsely : Prop := cycleForcesRow.holds Try.pinned (OpenSpec.ofChange cycleForcesWrong)

/-- 'tipstafflaw19.CyclePasses': WHATEVER THE INPUT: true; the input reads as it did. -/
def cyclePassesSpec : ChangeSpec := { name := "cyclePasses", fn := fun _ => fun
  | [d1, d2] => { results := [.lit (.bool true)], args := [d1, d2] }
  | _ => none }
def cyclePassesRow : OpenClaim := { program := "ytmjmdnpenpdmhaa", sum := "9f88be0aedf5acab506301e0a13c85cc78244f7abcf705cfae6b44e146311d82", func := "tipstaff/tipstafflaw19.CyclePasses", spec := "cyclePasses", unfollowed := true, recurses := true, plainKeys := false, apart := false }
def CyclePassesSaid : Prop := cyclePassesRow.holds Try.pinned (OpenSpec.ofChange cyclePassesSpec)

/-- ITS FALSE NEIGHBOUR: 'it returns false'. Refute it at one input. -/
def cyclePassesWrong : ChangeSpec := { name := "cyclePasses", fn := fun _ => fun
  | [d1, d2] => { results := [.lit (.bool false)], args := [d1, d2] }
  | _ => none }
def CyclePassesWrongFalsely : Prop := cyclePassesRow.holds Try.pinned (OpenSpec.ofChange cyclePassesWrong)

/-- 'tipstafflaw19.CycleSteps': WHATEVER THE INPUT: true; the input reads as it did. -/
def cycleStepsSpec : ChangeSpec := { name := "cycleSteps", fn := fun _ => fun
  | [d1, d2, d3] => { results := [.lit (.bool true)], args := [d1, d2, d3] }
  | _ => none }
def cycleStepsRow : OpenClaim := { program := "ytmjmdnpenpdmhaa", sum := "9f88be0aedf5acab506301e0a13c85cc78244f7abcf705cfae6b44e146311d82", func := "tipstaff/tipstafflaw19.CycleSteps", spec := "cycleSteps", unfollowed := true, recurses := true, plainKeys := false, apart := false }
def CycleStepsSaid : Prop := cycleStepsRow.holds Try.pinned (OpenSpec.ofChange cycleStepsSpec)

/-- ITS FALSE NEIGHBOUR: 'it returns false'. Refute it at one input. -/
def cycleStepsWrong : ChangeSpec := { name := "cycleSteps", fn := fun _ => fun
  | [d1, d2, d3] => { results := [.lit (.bool false)], args := [d1, d2, d3] }
  | _ => none }
def CycleStepsWrongFalsely : Prop := cycleStepsRow.holds Try.pinned (OpenSpec.ofChange cycleStepsWrong)

/- THE SECOND FORM. 'bulk': how many values and letters a reading holds, each counted each time it is reached (what is shared counts as often as it is met; a slice's spare places count too). A statement '..UptoSaid' is the law's where the arguments, and the package variables that the reading takes, are together of bulk at most 1048576: NARROWER than '..Said'. Prove '..Said' where nothing that the law and all that it calls make is longer than what came in: it says more and counts as full. Else prove '..UptoSaid'. A law counts once. -/
mutual
def uptoBulk {H : Type} : DataW H → Nat
  | .lit (.string bytes) => bytes.length + 1
  | .lit _ => 1
  | .nil => 1
  | .ptr d => uptoBulk d + 1
  | .slice elems spare => uptoBulkAll elems + uptoBulkAll spare + 1
  | .agg parts => uptoBulkAll parts + 1
  | .iface _ d => uptoBulk d + 1
  | .map entries => uptoBulkEntries entries + 1
  | .held _ => 1
def uptoBulkAll {H : Type} : List (DataW H) → Nat
  | [] => 0
  | d :: r => uptoBulk d + uptoBulkAll r
def uptoBulkEntries {H : Type} : List (Lit × DataW H) → Nat
  | [] => 0
  | x :: r => uptoBulkEntry x + uptoBulkEntries r
def uptoBulkEntry {H : Type} : Lit × DataW H → Nat
  | (.string bytes, d) => bytes.length + uptoBulk d + 1
  | (_, d) => uptoBulk d + 1
 end
def uptoSmall : (H : Type) → List (DataW H) → Bool := fun _ ds => decide (uptoBulkAll ds ≤ 1048576)
def OpenSpec.upto (s : _root_.Go.ChangeSpec) : _root_.Go.OpenSpec := { _root_.Go.OpenSpec.ofChange s with cond := some uptoSmall }

/-- 'tipstafflaw19.CyclePanels', WHERE WHAT IT READS IS OF BULK AT MOST 1048576: true; the input reads as it did. -/
def cyclePanelsUptoRow : OpenClaim := { program := "ytmjmdnpenpdmhaa", sum := "9f88be0aedf5acab506301e0a13c85cc78244f7abcf705cfae6b44e146311d82", func := "tipstaff/tipstafflaw19.CyclePanels", spec := "cyclePanels", unfollowed := true, recurses := true, plainKeys := false, apart := false, narrowed := true }
def CyclePanelsUptoSaid : Prop := cyclePanelsUptoRow.holds Try.pinned (OpenSpec.upto cyclePanelsSpec)

/-- 'tipstafflaw19.CycleKnown', WHERE WHAT IT READS IS OF BULK AT MOST 1048576: true; the input reads as it did. -/
def cycleKnownUptoRow : OpenClaim := { program := "ytmjmdnpenpdmhaa", sum := "9f88be0aedf5acab506301e0a13c85cc78244f7abcf705cfae6b44e146311d82", func := "tipstaff/tipstafflaw19.CycleKnown", spec := "cycleKnown", unfollowed := true, recurses := true, plainKeys := false, apart := false, narrowed := true }
def CycleKnownUptoSaid : Prop := cycleKnownUptoRow.holds Try.pinned (OpenSpec.upto cycleKnownSpec)

/-- 'tipstafflaw19.CyclePads', WHERE WHAT IT READS IS OF BULK AT MOST 1048576: true; the input reads as it did. -/
def cyclePadsUptoRow : OpenClaim := { program := "ytmjmdnpenpdmhaa", sum := "9f88be0aedf5acab506301e0a13c85cc78244f7abcf705cfae6b44e146311d82", func := "tipstaff/tipstafflaw19.CyclePads", spec := "cyclePads", unfollowed := true, recurses := true, plainKeys := false, apart := false, narrowed := true }
def CyclePadsUptoSaid : Prop := cyclePadsUptoRow.holds Try.pinned (OpenSpec.upto cyclePadsSpec)

/-- 'tipstafflaw19.CycleForces', WHERE WHAT IT READS IS OF BULK AT MOST 1048576: true; the input reads as it did. -/
def cycleForcesUptoRow : OpenClaim := { program := "ytmjmdnpenpdmhaa", sum := "9f88be0aedf5acab506301e0a13c85cc78244f7abcf705cfae6b44e146311d82", func := "tipstaff/tipstafflaw19.CycleForces", spec := "cycleForces", unfollowed := true, recurses := true, plainKeys := false, apart := false, narrowed := true }
def CycleForcesUptoSaid : Prop := cycleForcesUptoRow.holds Try.pinned (OpenSpec.upto cycleForcesSpec)

/-- 'tipstafflaw19.CyclePasses', WHERE WHAT IT READS IS OF BULK AT MOST 1048576: true; the input reads as it did. -/
def cyclePassesUptoRow : OpenClaim := { program := "ytmjmdnpenpdmhaa", sum := "9f88be0aedf5acab506301e0a13c85cc78244f7abcf705cfae6b44e146311d82", func := "tipstaff/tipstafflaw19.CyclePasses", spec := "cyclePasses", unfollowed := true, recurses := true, plainKeys := false, apart := false, narrowed := true }
def CyclePassesUptoSaid : Prop := cyclePassesUptoRow.holds Try.pinned (OpenSpec.upto cyclePassesSpec)

/-- 'tipstafflaw19.CycleSteps', WHERE WHAT IT READS IS OF BULK AT MOST 1048576: true; the input reads as it did. -/
def cycleStepsUptoRow : OpenClaim := { program := "ytmjmdnpenpdmhaa", sum := "9f88be0aedf5acab506301e0a13c85cc78244f7abcf705cfae6b44e146311d82", func := "tipstaff/tipstafflaw19.CycleSteps", spec := "cycleSteps", unfollowed := true, recurses := true, plainKeys := false, apart := false, narrowed := true }
def CycleStepsUptoSaid : Prop := cycleStepsUptoRow.holds Try.pinned (OpenSpec.upto cycleStepsSpec)

end Rows
end Go.Proofs.Ytmjmdnpenpdmhaa
