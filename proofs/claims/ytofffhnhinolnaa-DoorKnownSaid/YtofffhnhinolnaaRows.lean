/-
  No cell of these rows narrows 'for every input' (looked for: loops, veiled, ifaces, maps, wideKeys, modest, calm, conditions, laid).
  DERIVED. THE GIVEN ROWS OF THIS SEAT. 6 by the template 'for every input the law returns true; each argument reads behind the call as it read before'; 0 by the template 'total and deterministic' (their statements: YtofffhnhinolnaaTotals.lean).
  GIVEN WITH THE SEED: the statements are not yours to turn. If you find one false, say at which input.
  Laid BY PROGRAM, IN A SANDBOX (cutbox-rows.mjs): the forced cells as the released guide's own fill.sh prints them over the translation 187e41def0710f30… (all of the seat's roots in one cut). By AI agents, Wed Nov 11 2026. No macro, syntax, notation, axiom, sorry.
-/
import Derived.Test.YtofffhnhinolnaaChecked
import GoSem.Claim
import GoSem.ClaimJoined
import GoSem.ClaimMapViews
import Derived.JoinedTies
import Derived.KernelRfl
namespace Go.Proofs.Ytofffhnhinolnaa
/- THE CELL 'sum', in the pinned program and in every row, IS THE sha256 OF THE DUMP (.gsa) THAT YtofffhnhinolnaaProg.lean LOADS. Nothing in Lean hashes anything: it is a label: what it is worth is what the hold of that sum in a sandbox is worth. -/
noncomputable def Try.pinned : Pinned := { name := "ytofffhnhinolnaa", sum := "187e41def0710f308b7e7f6d8a153b78512e25c02c2a1f247927c838e6a6090e", checked := Try.checked }
namespace Rows
def none {H : Type} : Left H := { results := [], args := [] }

/-- 'tipstafflaw18.DoorSteps': WHATEVER THE INPUT: true; the input reads as it did. -/
def doorStepsSpec : ChangeSpec := { name := "doorSteps", fn := fun _ => fun
  | [d1, d2, d3] => { results := [.lit (.bool true)], args := [d1, d2, d3] }
  | _ => none }
def doorStepsRow : OpenClaim := { program := "ytofffhnhinolnaa", sum := "187e41def0710f308b7e7f6d8a153b78512e25c02c2a1f247927c838e6a6090e", func := "tipstaff/tipstafflaw18.DoorSteps", spec := "doorSteps", plainKeys := false, apart := false }
def DoorStepsSaid : Prop := doorStepsRow.holds Try.pinned (OpenSpec.ofChange doorStepsSpec)

/-- ITS FALSE NEIGHBOUR: 'it returns false'. Refute it at one input. -/
def doorStepsWrong : ChangeSpec := { name := "doorSteps", fn := fun _ => fun
  | [d1, d2, d3] => { results := [.lit (.bool false)], args := [d1, d2, d3] }
  | _ => none }
def DoorStepsWrongFalsely : Prop := doorStepsRow.holds Try.pinned (OpenSpec.ofChange doorStepsWrong)

/-- 'tipstafflaw18.DoorTimes': WHATEVER THE INPUT: true; the input reads as it did. -/
def doorTimesSpec : ChangeSpec := { name := "doorTimes", fn := fun _ => fun
  | [d1, d2] => { results := [.lit (.bool true)], args := [d1, d2] }
  | _ => none }
def doorTimesRow : OpenClaim := { program := "ytofffhnhinolnaa", sum := "187e41def0710f308b7e7f6d8a153b78512e25c02c2a1f247927c838e6a6090e", func := "tipstaff/tipstafflaw18.DoorTimes", spec := "doorTimes", unfollowed := true, recurses := true, plainKeys := false, apart := false }
def DoorTimesSaid : Prop := doorTimesRow.holds Try.pinned (OpenSpec.ofChange doorTimesSpec)

/-- ITS FALSE NEIGHBOUR: 'it returns false'. Refute it at one input. -/
def doorTimesWrong : ChangeSpec := { name := "doorTimes", fn := fun _ => fun
  | [d1, d2] => { results := [.lit (.bool false)], args := [d1, d2] }
  | _ => none }
def DoorTimesWrongFalsely : Prop := doorTimesRow.holds Try.pinned (OpenSpec.ofChange doorTimesWrong)

/-- 'tipstafflaw18.DoorRuns': WHATEVER THE INPUT: true; the input reads as it did. -/
def doorRunsSpec : ChangeSpec := { name := "doorRuns", fn := fun _ => fun
  | [d1, d2, d3] => { results := [.lit (.bool true)], args := [d1, d2, d3] }
  | _ => none }
def doorRunsRow : OpenClaim := { program := "ytofffhnhinolnaa", sum := "187e41def0710f308b7e7f6d8a153b78512e25c02c2a1f247927c838e6a6090e", func := "tipstaff/tipstafflaw18.DoorRuns", spec := "doorRuns", unfollowed := true, recurses := true, plainKeys := false, apart := false }
def DoorRunsSaid : Prop := doorRunsRow.holds Try.pinned (OpenSpec.ofChange doorRunsSpec)

/-- ITS FALSE NEIGHBOUR: 'it returns false'. Refute it at one input. -/
def doorRunsWrong : ChangeSpec := { name := "doorRuns", fn := fun _ => fun
  | [d1, d2, d3] => { results := [.lit (.bool false)], args := [d1, d2, d3] }
  | _ => none }
def DoorRunsWrongFalsely : Prop := doorRunsRow.holds Try.pinned (OpenSpec.ofChange doorRunsWrong)

/-- 'tipstafflaw18.DoorCycles': WHATEVER THE INPUT: true; the input reads as it did. -/
def doorCyclesSpec : ChangeSpec := { name := "doorCycles", fn := fun _ => fun
  | [d1, d2, d3] => { results := [.lit (.bool true)], args := [d1, d2, d3] }
  | _ => none }
def doorCyclesRow : OpenClaim := { program := "ytofffhnhinolnaa", sum := "187e41def0710f308b7e7f6d8a153b78512e25c02c2a1f247927c838e6a6090e", func := "tipstaff/tipstafflaw18.DoorCycles", spec := "doorCycles", unfollowed := true, recurses := true, plainKeys := false, apart := false }
def DoorCyclesSaid : Prop := doorCyclesRow.holds Try.pinned (OpenSpec.ofChange doorCyclesSpec)

/-- ITS FALSE NEIGHBOUR: 'it returns false'. Refute it at one input. -/
def doorCyclesWrong : ChangeSpec := { name := "doorCycles", fn := fun _ => fun
  | [d1, d2, d3] => { results := [.lit (.bool false)], args := [d1, d2, d3] }
  | _ => none }
def DoorCyclesWrongFalsely : Prop := doorCyclesRow.holds Try.pinned (OpenSpec.ofChange doorCyclesWrong)

/-- 'tipstafflaw18.DoorWorst': WHATEVER THE INPUT: true; the input reads as it did. -/
def doorWorstSpec : ChangeSpec := { name := "doorWorst", fn := fun _ => fun
  | [d] => { results := [.lit (.bool true)], args := [d] }
  | _ => none }
def doorWorstRow : OpenClaim := { program := "ytofffhnhinolnaa", sum := "187e41def0710f308b7e7f6d8a153b78512e25c02c2a1f247927c838e6a6090e", func := "tipstaff/tipstafflaw18.DoorWorst", spec := "doorWorst", unfollowed := true, recurses := true, plainKeys := false, apart := false }
def DoorWorstSaid : Prop := doorWorstRow.holds Try.pinned (OpenSpec.ofChange doorWorstSpec)

/-- ITS FALSE NEIGHBOUR: 'it returns false'. Refute it at one input. -/
def doorWorstWrong : ChangeSpec := { name := "doorWorst", fn := fun _ => fun
  | [d] => { results := [.lit (.bool false)], args := [d] }
  | _ => none }
def DoorWorstWrongFalsely : Prop := doorWorstRow.holds Try.pinned (OpenSpec.ofChange doorWorstWrong)

/-- 'tipstafflaw18.DoorKnown': WHATEVER THE INPUT: true; the input reads as it did. -/
def doorKnownSpec : ChangeSpec := { name := "doorKnown", fn := fun _ => fun
  | [] => { results := [.lit (.bool true)], args := [] }
  | _ => none }
def doorKnownRow : OpenClaim := { program := "ytofffhnhinolnaa", sum := "187e41def0710f308b7e7f6d8a153b78512e25c02c2a1f247927c838e6a6090e", func := "tipstaff/tipstafflaw18.DoorKnown", spec := "doorKnown", unfollowed := true, recurses := true, plainKeys := false, apart := false }
def DoorKnownSaid : Prop := doorKnownRow.holds Try.pinned (OpenSpec.ofChange doorKnownSpec)

/-- ITS FALSE NEIGHBOUR: 'it returns false'. Refute it at one input. -/
def doorKnownWrong : ChangeSpec := { name := "doorKnown", fn := fun _ => fun
  | [] => { results := [.lit (.bool false)], args := [] }
  | _ => none }
def DoorKnownWrongFalsely : Prop := doorKnownRow.holds Try.pinned (OpenSpec.ofChange doorKnownWrong)

/- THE SECOND FORM. 'bulk': how many values and letters a reading holds, each counted each time it is reached (what is shared counts as often as it is met; a slice's spare places count too). A statement '..UptoSaid' is the law's where the arguments, and the package variables that the reading takes, are together of bulk at most 1048576: NARROWER than '..Said'. Prove '..Said' where nothing that the law and all that it calls make is longer than what came in: it says more and counts as full. Else prove '..UptoSaid'. A law counts once. -/
mutual
def uptoBulk {H : Type} : DataW H → Nat
  | .lit (.string bytes) => bytes.length + 1
  | .lit _ => 1
  | .nil => 1
  | .ptr d => uptoBulk d + 1
  | .slice elems spare => uptoBulkAll elems + uptoBulkAll spare + 1
  | .agg parts => uptoBulkAll parts + 1
  | .iface _ d => uptoBulk d + 1
  | .map entries => uptoBulkEntries entries + 1
  | .held _ => 1
def uptoBulkAll {H : Type} : List (DataW H) → Nat
  | [] => 0
  | d :: r => uptoBulk d + uptoBulkAll r
def uptoBulkEntries {H : Type} : List (Lit × DataW H) → Nat
  | [] => 0
  | x :: r => uptoBulkEntry x + uptoBulkEntries r
def uptoBulkEntry {H : Type} : Lit × DataW H → Nat
  | (.string bytes, d) => bytes.length + uptoBulk d + 1
  | (_, d) => uptoBulk d + 1
 end
def uptoSmall : (H : Type) → List (DataW H) → Bool := fun _ ds => decide (uptoBulkAll ds ≤ 1048576)
def OpenSpec.upto (s : _root_.Go.ChangeSpec) : _root_.Go.OpenSpec := { _root_.Go.OpenSpec.ofChange s with cond := some uptoSmall }

/-- 'tipstafflaw18.DoorSteps', WHERE WHAT IT READS IS OF BULK AT MOST 1048576: true; the input reads as it did. -/
def doorStepsUptoRow : OpenClaim := { program := "ytofffhnhinolnaa", sum := "187e41def0710f308b7e7f6d8a153b78512e25c02c2a1f247927c838e6a6090e", func := "tipstaff/tipstafflaw18.DoorSteps", spec := "doorSteps", plainKeys := false, apart := false, narrowed := true }
def DoorStepsUptoSaid : Prop := doorStepsUptoRow.holds Try.pinned (OpenSpec.upto doorStepsSpec)

/-- 'tipstafflaw18.DoorTimes', WHERE WHAT IT READS IS OF BULK AT MOST 1048576: true; the input reads as it did. -/
def doorTimesUptoRow : OpenClaim := { program := "ytofffhnhinolnaa", sum := "187e41def0710f308b7e7f6d8a153b78512e25c02c2a1f247927c838e6a6090e", func := "tipstaff/tipstafflaw18.DoorTimes", spec := "doorTimes", unfollowed := true, recurses := true, plainKeys := false, apart := false, narrowed := true }
def DoorTimesUptoSaid : Prop := doorTimesUptoRow.holds Try.pinned (OpenSpec.upto doorTimesSpec)

/-- 'tipstafflaw18.DoorRuns', WHERE WHAT IT READS IS OF BULK AT MOST 1048576: true; the input reads as it did. -/
def doorRunsUptoRow : OpenClaim := { program := "ytofffhnhinolnaa", sum := "187e41def0710f308b7e7f6d8a153b78512e25c02c2a1f247927c838e6a6090e", func := "tipstaff/tipstafflaw18.DoorRuns", spec := "doorRuns", unfollowed := true, recurses := true, plainKeys := false, apart := false, narrowed := true }
def DoorRunsUptoSaid : Prop := doorRunsUptoRow.holds Try.pinned (OpenSpec.upto doorRunsSpec)

/-- 'tipstafflaw18.DoorCycles', WHERE WHAT IT READS IS OF BULK AT MOST 1048576: true; the input reads as it did. -/
def doorCyclesUptoRow : OpenClaim := { program := "ytofffhnhinolnaa", sum := "187e41def0710f308b7e7f6d8a153b78512e25c02c2a1f247927c838e6a6090e", func := "tipstaff/tipstafflaw18.DoorCycles", spec := "doorCycles", unfollowed := true, recurses := true, plainKeys := false, apart := false, narrowed := true }
def DoorCyclesUptoSaid : Prop := doorCyclesUptoRow.holds Try.pinned (OpenSpec.upto doorCyclesSpec)

/-- 'tipstafflaw18.DoorWorst', WHERE WHAT IT READS IS OF BULK AT MOST 1048576: true; the input reads as it did. -/
def doorWorstUptoRow : OpenClaim := { program := "ytofffhnhinolnaa", sum := "187e41def0710f308b7e7f6d8a153b78512e25c02c2a1f247927c838e6a6090e", func := "tipstaff/tipstafflaw18.DoorWorst", spec := "doorWorst", unfollowed := true, recurses := true, plainKeys := false, apart := false, narrowed := true }
def DoorWorstUptoSaid : Prop := doorWorstUptoRow.holds Try.pinned (OpenSpec.upto doorWorstSpec)

/-- 'tipstafflaw18.DoorKnown', WHERE WHAT IT READS IS OF BULK AT MOST 1048576: true; the input reads as it did. -/
def doorKnownUptoRow : OpenClaim := { program := "ytofffhnhinolnaa", sum := "187e41def0710f308b7e7f6d8a153b78512e25c02c2a1f247927c838e6a6090e", func := "tipstaff/tipstafflaw18.DoorKnown", spec := "doorKnown", unfollowed := true, recurses := true, plainKeys := false, apart := false, narrowed := true }
def DoorKnownUptoSaid : Prop := doorKnownUptoRow.holds Try.pinned (OpenSpec.upto doorKnownSpec)

end Rows
end Go.Proofs.Ytofffhnhinolnaa
