/-
  No cell of these rows narrows 'for every input' (looked for: loops, veiled, ifaces, maps, wideKeys, modest, calm, conditions, laid).
  DERIVED. THE GIVEN ROWS OF THIS SEAT. 7 by the template 'for every input the law returns true; each argument reads behind the call as it read before'; 0 by the template 'total and deterministic' (their statements: YtlkphdcfgaolnaaTotals.lean).
  GIVEN WITH THE SEED: the statements are not yours to turn. If you find one false, say at which input.
  Laid BY PROGRAM, IN A SANDBOX (cutbox-rows.mjs): the forced cells as the released guide's own fill.sh prints them over the translation 93f0beabf2678d90… (all of the seat's roots in one cut). By AI agents, Wed Nov 11 2026. No macro, syntax, notation, axiom, sorry.
-/
import Derived.Test.YtlkphdcfgaolnaaChecked
import GoSem.Claim
import GoSem.ClaimJoined
import GoSem.ClaimMapViews
import Derived.JoinedTies
import Derived.KernelRfl
namespace Go.Proofs.Ytlkphdcfgaolnaa
/- THE CELL 'sum', in the pinned program and in every row, IS THE sha256 OF THE DUMP (.gsa) THAT YtlkphdcfgaolnaaProg.lean LOADS. Nothing in Lean hashes anything: it is a label: what it is worth is what the hold of that sum in a sandbox is worth. -/
noncomputable def Try.pinned : Pinned := { name := "ytlkphdcfgaolnaa", sum := "93f0beabf2678d90f87073825314c645d5629ecce7ce323cf05413c8fb439207", checked := Try.checked }
namespace Rows
def none {H : Type} : Left H := { results := [], args := [] }

/-- 'tipstafflaw12.SensorReads': WHATEVER THE INPUT: true; the input reads as it did. -/
def sensorReadsSpec : ChangeSpec := { name := "sensorReads", fn := fun _ => fun
  | [d1, d2, d3, d4, d5] => { results := [.lit (.bool true)], args := [d1, d2, d3, d4, d5] }
  | _ => none }
def sensorReadsRow : OpenClaim := { program := "ytlkphdcfgaolnaa", sum := "93f0beabf2678d90f87073825314c645d5629ecce7ce323cf05413c8fb439207", func := "tipstaff/tipstafflaw12.SensorReads", spec := "sensorReads", unfollowed := true, recurses := true, plainKeys := false, apart := false }
def SensorReadsSaid : Prop := sensorReadsRow.holds Try.pinned (OpenSpec.ofChange sensorReadsSpec)

/-- ITS FALSE NEIGHBOUR: 'it returns false'. Refute it at one input. -/
def sensorReadsWrong : ChangeSpec := { name := "sensorReads", fn := fun _ => fun
  | [d1, d2, d3, d4, d5] => { results := [.lit (.bool false)], args := [d1, d2, d3, d4, d5] }
  | _ => none }
def SensorReadsWrongFalsely : Prop := sensorReadsRow.holds Try.pinned (OpenSpec.ofChange sensorReadsWrong)

/-- 'tipstafflaw12.SensorVotes': WHATEVER THE INPUT: true; the input reads as it did. -/
def sensorVotesSpec : ChangeSpec := { name := "sensorVotes", fn := fun _ => fun
  | [d1, d2, d3] => { results := [.lit (.bool true)], args := [d1, d2, d3] }
  | _ => none }
def sensorVotesRow : OpenClaim := { program := "ytlkphdcfgaolnaa", sum := "93f0beabf2678d90f87073825314c645d5629ecce7ce323cf05413c8fb439207", func := "tipstaff/tipstafflaw12.SensorVotes", spec := "sensorVotes", unfollowed := true, recurses := true, plainKeys := false, apart := false }
def SensorVotesSaid : Prop := sensorVotesRow.holds Try.pinned (OpenSpec.ofChange sensorVotesSpec)

/-- ITS FALSE NEIGHBOUR: 'it returns false'. Refute it at one input. -/
def sensorVotesWrong : ChangeSpec := { name := "sensorVotes", fn := fun _ => fun
  | [d1, d2, d3] => { results := [.lit (.bool false)], args := [d1, d2, d3] }
  | _ => none }
def SensorVotesWrongFalsely : Prop := sensorVotesRow.holds Try.pinned (OpenSpec.ofChange sensorVotesWrong)

/-- 'tipstafflaw12.SensorFaults': WHATEVER THE INPUT: true; the input reads as it did. -/
def sensorFaultsSpec : ChangeSpec := { name := "sensorFaults", fn := fun _ => fun
  | [d1, d2] => { results := [.lit (.bool true)], args := [d1, d2] }
  | _ => none }
def sensorFaultsRow : OpenClaim := { program := "ytlkphdcfgaolnaa", sum := "93f0beabf2678d90f87073825314c645d5629ecce7ce323cf05413c8fb439207", func := "tipstaff/tipstafflaw12.SensorFaults", spec := "sensorFaults", unfollowed := true, recurses := true, plainKeys := false, apart := false }
def SensorFaultsSaid : Prop := sensorFaultsRow.holds Try.pinned (OpenSpec.ofChange sensorFaultsSpec)

/-- ITS FALSE NEIGHBOUR: 'it returns false'. Refute it at one input. -/
def sensorFaultsWrong : ChangeSpec := { name := "sensorFaults", fn := fun _ => fun
  | [d1, d2] => { results := [.lit (.bool false)], args := [d1, d2] }
  | _ => none }
def SensorFaultsWrongFalsely : Prop := sensorFaultsRow.holds Try.pinned (OpenSpec.ofChange sensorFaultsWrong)

/-- 'tipstafflaw12.SensorKnown': WHATEVER THE INPUT: true; the input reads as it did. -/
def sensorKnownSpec : ChangeSpec := { name := "sensorKnown", fn := fun _ => fun
  | [] => { results := [.lit (.bool true)], args := [] }
  | _ => none }
def sensorKnownRow : OpenClaim := { program := "ytlkphdcfgaolnaa", sum := "93f0beabf2678d90f87073825314c645d5629ecce7ce323cf05413c8fb439207", func := "tipstaff/tipstafflaw12.SensorKnown", spec := "sensorKnown", unfollowed := true, recurses := true, plainKeys := false, apart := false }
def SensorKnownSaid : Prop := sensorKnownRow.holds Try.pinned (OpenSpec.ofChange sensorKnownSpec)

/-- ITS FALSE NEIGHBOUR: 'it returns false'. Refute it at one input. -/
def sensorKnownWrong : ChangeSpec := { name := "sensorKnown", fn := fun _ => fun
  | [] => { results := [.lit (.bool false)], args := [] }
  | _ => none }
def SensorKnownWrongFalsely : Prop := sensorKnownRow.holds Try.pinned (OpenSpec.ofChange sensorKnownWrong)

/-- 'tipstafflaw12.SensorOrder': WHATEVER THE INPUT: true; the input reads as it did. -/
def sensorOrderSpec : ChangeSpec := { name := "sensorOrder", fn := fun _ => fun
  | [d1, d2, d3] => { results := [.lit (.bool true)], args := [d1, d2, d3] }
  | _ => none }
def sensorOrderRow : OpenClaim := { program := "ytlkphdcfgaolnaa", sum := "93f0beabf2678d90f87073825314c645d5629ecce7ce323cf05413c8fb439207", func := "tipstaff/tipstafflaw12.SensorOrder", spec := "sensorOrder", unfollowed := true, recurses := true, plainKeys := false, apart := false }
def SensorOrderSaid : Prop := sensorOrderRow.holds Try.pinned (OpenSpec.ofChange sensorOrderSpec)

/-- ITS FALSE NEIGHBOUR: 'it returns false'. Refute it at one input. -/
def sensorOrderWrong : ChangeSpec := { name := "sensorOrder", fn := fun _ => fun
  | [d1, d2, d3] => { results := [.lit (.bool false)], args := [d1, d2, d3] }
  | _ => none }
def SensorOrderWrongFalsely : Prop := sensorOrderRow.holds Try.pinned (OpenSpec.ofChange sensorOrderWrong)

/-- 'tipstafflaw12.SensorTwo': WHATEVER THE INPUT: true; the input reads as it did. -/
def sensorTwoSpec : ChangeSpec := { name := "sensorTwo", fn := fun _ => fun
  | [d1, d2, d3, d4] => { results := [.lit (.bool true)], args := [d1, d2, d3, d4] }
  | _ => none }
def sensorTwoRow : OpenClaim := { program := "ytlkphdcfgaolnaa", sum := "93f0beabf2678d90f87073825314c645d5629ecce7ce323cf05413c8fb439207", func := "tipstaff/tipstafflaw12.SensorTwo", spec := "sensorTwo", unfollowed := true, recurses := true, plainKeys := false, apart := false }
def SensorTwoSaid : Prop := sensorTwoRow.holds Try.pinned (OpenSpec.ofChange sensorTwoSpec)

/-- ITS FALSE NEIGHBOUR: 'it returns false'. Refute it at one input. -/
def sensorTwoWrong : ChangeSpec := { name := "sensorTwo", fn := fun _ => fun
  | [d1, d2, d3, d4] => { results := [.lit (.bool false)], args := [d1, d2, d3, d4] }
  | _ => none }
def SensorTwoWrongFalsely : Prop := sensorTwoRow.holds Try.pinned (OpenSpec.ofChange sensorTwoWrong)

/-- 'tipstafflaw12.SensorJoins': WHATEVER THE INPUT: true; the input reads as it did. -/
def sensorJoinsSpec : ChangeSpec := { name := "sensorJoins", fn := fun _ => fun
  | [d1, d2, d3] => { results := [.lit (.bool true)], args := [d1, d2, d3] }
  | _ => none }
def sensorJoinsRow : OpenClaim := { program := "ytlkphdcfgaolnaa", sum := "93f0beabf2678d90f87073825314c645d5629ecce7ce323cf05413c8fb439207", func := "tipstaff/tipstafflaw12.SensorJoins", spec := "sensorJoins", unfollowed := true, recurses := true, plainKeys := false, apart := false }
def SensorJoinsSaid : Prop := sensorJoinsRow.holds Try.pinned (OpenSpec.ofChange sensorJoinsSpec)

/-- ITS FALSE NEIGHBOUR: 'it returns false'. Refute it at one input. -/
def sensorJoinsWrong : ChangeSpec := { name := "sensorJoins", fn := fun _ => fun
  | [d1, d2, d3] => { results := [.lit (.bool false)], args := [d1, d2, d3] }
  | _ => none }
def SensorJoinsWrongFalsely : Prop := sensorJoinsRow.holds Try.pinned (OpenSpec.ofChange sensorJoinsWrong)

/- THE SECOND FORM. 'bulk': how many values and letters a reading holds, each counted each time it is reached (what is shared counts as often as it is met; a slice's spare places count too). A statement '..UptoSaid' is the law's where the arguments, and the package variables that the reading takes, are together of bulk at most 1048576: NARROWER than '..Said'. Prove '..Said' where nothing that the law and all that it calls make is longer than what came in: it says more and counts as full. Else prove '..UptoSaid'. A law counts once. -/
mutual
def uptoBulk {H : Type} : DataW H → Nat
  | .lit (.string bytes) => bytes.length + 1
  | .lit _ => 1
  | .nil => 1
  | .ptr d => uptoBulk d + 1
  | .slice elems spare => uptoBulkAll elems + uptoBulkAll spare + 1
  | .agg parts => uptoBulkAll parts + 1
  | .iface _ d => uptoBulk d + 1
  | .map entries => uptoBulkEntries entries + 1
  | .held _ => 1
def uptoBulkAll {H : Type} : List (DataW H) → Nat
  | [] => 0
  | d :: r => uptoBulk d + uptoBulkAll r
def uptoBulkEntries {H : Type} : List (Lit × DataW H) → Nat
  | [] => 0
  | x :: r => uptoBulkEntry x + uptoBulkEntries r
def uptoBulkEntry {H : Type} : Lit × DataW H → Nat
  | (.string bytes, d) => bytes.length + uptoBulk d + 1
  | (_, d) => uptoBulk d + 1
 end
def uptoSmall : (H : Type) → List (DataW H) → Bool := fun _ ds => decide (uptoBulkAll ds ≤ 1048576)
def OpenSpec.upto (s : _root_.Go.ChangeSpec) : _root_.Go.OpenSpec := { _root_.Go.OpenSpec.ofChange s with cond := some uptoSmall }

/-- 'tipstafflaw12.SensorReads', WHERE WHAT IT READS IS OF BULK AT MOST 1048576: true; the input reads as it did. -/
def sensorReadsUptoRow : OpenClaim := { program := "ytlkphdcfgaolnaa", sum := "93f0beabf2678d90f87073825314c645d5629ecce7ce323cf05413c8fb439207", func := "tipstaff/tipstafflaw12.SensorReads", spec := "sensorReads", unfollowed := true, recurses := true, plainKeys := false, apart := false, narrowed := true }
def SensorReadsUptoSaid : Prop := sensorReadsUptoRow.holds Try.pinned (OpenSpec.upto sensorReadsSpec)

/-- 'tipstafflaw12.SensorVotes', WHERE WHAT IT READS IS OF BULK AT MOST 1048576: true; the input reads as it did. -/
def sensorVotesUptoRow : OpenClaim := { program := "ytlkphdcfgaolnaa", sum := "93f0beabf2678d90f87073825314c645d5629ecce7ce323cf05413c8fb439207", func := "tipstaff/tipstafflaw12.SensorVotes", spec := "sensorVotes", unfollowed := true, recurses := true, plainKeys := false, apart := false, narrowed := true }
def SensorVotesUptoSaid : Prop := sensorVotesUptoRow.holds Try.pinned (OpenSpec.upto sensorVotesSpec)

/-- 'tipstafflaw12.SensorFaults', WHERE WHAT IT READS IS OF BULK AT MOST 1048576: true; the input reads as it did. -/
def sensorFaultsUptoRow : OpenClaim := { program := "ytlkphdcfgaolnaa", sum := "93f0beabf2678d90f87073825314c645d5629ecce7ce323cf05413c8fb439207", func := "tipstaff/tipstafflaw12.SensorFaults", spec := "sensorFaults", unfollowed := true, recurses := true, plainKeys := false, apart := false, narrowed := true }
def SensorFaultsUptoSaid : Prop := sensorFaultsUptoRow.holds Try.pinned (OpenSpec.upto sensorFaultsSpec)

/-- 'tipstafflaw12.SensorKnown', WHERE WHAT IT READS IS OF BULK AT MOST 1048576: true; the input reads as it did. -/
def sensorKnownUptoRow : OpenClaim := { program := "ytlkphdcfgaolnaa", sum := "93f0beabf2678d90f87073825314c645d5629ecce7ce323cf05413c8fb439207", func := "tipstaff/tipstafflaw12.SensorKnown", spec := "sensorKnown", unfollowed := true, recurses := true, plainKeys := false, apart := false, narrowed := true }
def SensorKnownUptoSaid : Prop := sensorKnownUptoRow.holds Try.pinned (OpenSpec.upto sensorKnownSpec)

/-- 'tipstafflaw12.SensorOrder', WHERE WHAT IT READS IS OF BULK AT MOST 1048576: true; the input reads as it did. -/
def sensorOrderUptoRow : OpenClaim := { program := "ytlkphdcfgaolnaa", sum := "93f0beabf2678d90f87073825314c645d5629ecce7ce323cf05413c8fb439207", func := "tipstaff/tipstafflaw12.SensorOrder", spec := "sensorOrder", unfollowed := true, recurses := true, plainKeys := false, apart := false, narrowed := true }
def SensorOrderUptoSaid : Prop := sensorOrderUptoRow.holds Try.pinned (OpenSpec.upto sensorOrderSpec)

/-- 'tipstafflaw12.SensorTwo', WHERE WHAT IT READS IS OF BULK AT MOST 1048576: true; the input reads as it did. -/
def sensorTwoUptoRow : OpenClaim := { program := "ytlkphdcfgaolnaa", sum := "93f0beabf2678d90f87073825314c645d5629ecce7ce323cf05413c8fb439207", func := "tipstaff/tipstafflaw12.SensorTwo", spec := "sensorTwo", unfollowed := true, recurses := true, plainKeys := false, apart := false, narrowed := true }
def SensorTwoUptoSaid : Prop := sensorTwoUptoRow.holds Try.pinned (OpenSpec.upto sensorTwoSpec)

/-- 'tipstafflaw12.SensorJoins', WHERE WHAT IT READS IS OF BULK AT MOST 1048576: true; the input reads as it did. -/
def sensorJoinsUptoRow : OpenClaim := { program := "ytlkphdcfgaolnaa", sum := "93f0beabf2678d90f87073825314c645d5629ecce7ce323cf05413c8fb439207", func := "tipstaff/tipstafflaw12.SensorJoins", spec := "sensorJoins", unfollowed := true, recurses := true, plainKeys := false, apart := false, narrowed := true }
def SensorJoinsUptoSaid : Prop := sensorJoinsUptoRow.holds Try.pinned (OpenSpec.upto sensorJoinsSpec)

end Rows
end Go.Proofs.Ytlkphdcfgaolnaa
