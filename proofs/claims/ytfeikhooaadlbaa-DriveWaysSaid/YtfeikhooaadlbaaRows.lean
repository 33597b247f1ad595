/-
  No cell of these rows narrows 'for every input' (looked for: loops, veiled, ifaces, maps, wideKeys, modest, calm, conditions, laid).
  DERIVED. THE GIVEN ROWS OF THIS SEAT. 5 by the template 'for every input the law returns true; each argument reads behind the call as it read before'; 0 by the template 'total and deterministic' (their statements: YtfeikhooaadlbaaTotals.lean).
  GIVEN WITH THE SEED: the statements are not yours to turn. If you find one false, say at which input.
  Laid BY PROGRAM, IN A SANDBOX (cutbox-rows.mjs): the forced cells as the released guide's own fill.sh prints them over the translation f4cddd5e4bef0c65… (all of the seat's roots in one cut). By AI agents, Wed Nov 11 2026. No macro, syntax, notation, axiom, sorry.
-/
import Derived.Test.YtfeikhooaadlbaaChecked
import GoSem.Claim
import GoSem.ClaimJoined
import GoSem.ClaimMapViews
import Derived.JoinedTies
import Derived.KernelRfl
namespace Go.Proofs.Ytfeikhooaadlbaa
/- THE CELL 'sum', in the pinned program and in every row, IS THE sha256 OF THE DUMP (.gsa) THAT YtfeikhooaadlbaaProg.lean LOADS. Nothing in Lean hashes anything: it is a label: what it is worth is what the hold of that sum in a sandbox is worth. -/
noncomputable def Try.pinned : Pinned := { name := "ytfeikhooaadlbaa", sum := "f4cddd5e4bef0c650f16aa728d01f28d41506a6a2943cbfc2bac90e8df01311c", checked := Try.checked }
namespace Rows
def none {H : Type} : Left H := { results := [], args := [] }

/-- 'tipstafflaw13.DriveTicks': WHATEVER THE INPUT: true; the input reads as it did. -/
def driveTicksSpec : ChangeSpec := { name := "driveTicks", fn := fun _ => fun
  | [d1, d2, d3, d4] => { results := [.lit (.bool true)], args := [d1, d2, d3, d4] }
  | _ => none }
def driveTicksRow : OpenClaim := { program := "ytfeikhooaadlbaa", sum := "f4cddd5e4bef0c650f16aa728d01f28d41506a6a2943cbfc2bac90e8df01311c", func := "tipstaff/tipstafflaw13.DriveTicks", spec := "driveTicks", unfollowed := true, recurses := true, apart := false }
def DriveTicksSaid : Prop := driveTicksRow.holds Try.pinned (OpenSpec.ofChange driveTicksSpec)

/-- ITS FALSE NEIGHBOUR: 'it returns false'. Refute it at one input. -/
def driveTicksWrong : ChangeSpec := { name := "driveTicks", fn := fun _ => fun
  | [d1, d2, d3, d4] => { results := [.lit (.bool false)], args := [d1, d2, d3, d4] }
  | _ => none }
def DriveTicksWrongFalsely : Prop := driveTicksRow.holds Try.pinned (OpenSpec.ofChange driveTicksWrong)

/-- 'tipstafflaw13.DriveKnown': WHATEVER THE INPUT: true; the input reads as it did. -/
def driveKnownSpec : ChangeSpec := { name := "driveKnown", fn := fun _ => fun
  | [] => { results := [.lit (.bool true)], args := [] }
  | _ => none }
def driveKnownRow : OpenClaim := { program := "ytfeikhooaadlbaa", sum := "f4cddd5e4bef0c650f16aa728d01f28d41506a6a2943cbfc2bac90e8df01311c", func := "tipstaff/tipstafflaw13.DriveKnown", spec := "driveKnown", unfollowed := true, recurses := true, apart := false }
def DriveKnownSaid : Prop := driveKnownRow.holds Try.pinned (OpenSpec.ofChange driveKnownSpec)

/-- ITS FALSE NEIGHBOUR: 'it returns false'. Refute it at one input. -/
def driveKnownWrong : ChangeSpec := { name := "driveKnown", fn := fun _ => fun
  | [] => { results := [.lit (.bool false)], args := [] }
  | _ => none }
def DriveKnownWrongFalsely : Prop := driveKnownRow.holds Try.pinned (OpenSpec.ofChange driveKnownWrong)

/-- 'tipstafflaw13.DriveArrives': WHATEVER THE INPUT: true; the input reads as it did. -/
def driveArrivesSpec : ChangeSpec := { name := "driveArrives", fn := fun _ => fun
  | [d1, d2, d3] => { results := [.lit (.bool true)], args := [d1, d2, d3] }
  | _ => none }
def driveArrivesRow : OpenClaim := { program := "ytfeikhooaadlbaa", sum := "f4cddd5e4bef0c650f16aa728d01f28d41506a6a2943cbfc2bac90e8df01311c", func := "tipstaff/tipstafflaw13.DriveArrives", spec := "driveArrives", unfollowed := true, recurses := true, apart := false }
def DriveArrivesSaid : Prop := driveArrivesRow.holds Try.pinned (OpenSpec.ofChange driveArrivesSpec)

/-- ITS FALSE NEIGHBOUR: 'it returns false'. Refute it at one input. -/
def driveArrivesWrong : ChangeSpec := { name := "driveArrives", fn := fun _ => fun
  | [d1, d2, d3] => { results := [.lit (.bool false)], args := [d1, d2, d3] }
  | _ => none }
def DriveArrivesWrongFalsely : Prop := driveArrivesRow.holds Try.pinned (OpenSpec.ofChange driveArrivesWrong)

/-- 'tipstafflaw13.DriveParts': WHATEVER THE INPUT: true; the input reads as it did. -/
def drivePartsSpec : ChangeSpec := { name := "driveParts", fn := fun _ => fun
  | [d1, d2, d3, d4, d5] => { results := [.lit (.bool true)], args := [d1, d2, d3, d4, d5] }
  | _ => none }
def drivePartsRow : OpenClaim := { program := "ytfeikhooaadlbaa", sum := "f4cddd5e4bef0c650f16aa728d01f28d41506a6a2943cbfc2bac90e8df01311c", func := "tipstaff/tipstafflaw13.DriveParts", spec := "driveParts", unfollowed := true, recurses := true, apart := false }
def DrivePartsSaid : Prop := drivePartsRow.holds Try.pinned (OpenSpec.ofChange drivePartsSpec)

/-- ITS FALSE NEIGHBOUR: 'it returns false'. Refute it at one input. -/
def drivePartsWrong : ChangeSpec := { name := "driveParts", fn := fun _ => fun
  | [d1, d2, d3, d4, d5] => { results := [.lit (.bool false)], args := [d1, d2, d3, d4, d5] }
  | _ => none }
def DrivePartsWrongFalsely : Prop := drivePartsRow.holds Try.pinned (OpenSpec.ofChange drivePartsWrong)

/-- 'tipstafflaw13.DriveWays': WHATEVER THE INPUT: true; the input reads as it did. -/
def driveWaysSpec : ChangeSpec := { name := "driveWays", fn := fun _ => fun
  | [d1, d2, d3] => { results := [.lit (.bool true)], args := [d1, d2, d3] }
  | _ => none }
def driveWaysRow : OpenClaim := { program := "ytfeikhooaadlbaa", sum := "f4cddd5e4bef0c650f16aa728d01f28d41506a6a2943cbfc2bac90e8df01311c", func := "tipstaff/tipstafflaw13.DriveWays", spec := "driveWays", unfollowed := true, recurses := true, apart := false }
def DriveWaysSaid : Prop := driveWaysRow.holds Try.pinned (OpenSpec.ofChange driveWaysSpec)

/-- ITS FALSE NEIGHBOUR: 'it returns false'. Refute it at one input. -/
def driveWaysWrong : ChangeSpec := { name := "driveWays", fn := fun _ => fun
  | [d1, d2, d3] => { results := [.lit (.bool false)], args := [d1, d2, d3] }
  | _ => none }
def DriveWaysWrongFalsely : Prop := driveWaysRow.holds Try.pinned (OpenSpec.ofChange driveWaysWrong)

/- THE SECOND FORM. 'bulk': how many values and letters a reading holds, each counted each time it is reached (what is shared counts as often as it is met; a slice's spare places count too). A statement '..UptoSaid' is the law's where the arguments, and the package variables that the reading takes, are together of bulk at most 1048576: NARROWER than '..Said'. Prove '..Said' where nothing that the law and all that it calls make is longer than what came in: it says more and counts as full. Else prove '..UptoSaid'. A law counts once. -/
mutual
def uptoBulk {H : Type} : DataW H → Nat
  | .lit (.string bytes) => bytes.length + 1
  | .lit _ => 1
  | .nil => 1
  | .ptr d => uptoBulk d + 1
  | .slice elems spare => uptoBulkAll elems + uptoBulkAll spare + 1
  | .agg parts => uptoBulkAll parts + 1
  | .iface _ d => uptoBulk d + 1
  | .map entries => uptoBulkEntries entries + 1
  | .held _ => 1
def uptoBulkAll {H : Type} : List (DataW H) → Nat
  | [] => 0
  | d :: r => uptoBulk d + uptoBulkAll r
def uptoBulkEntries {H : Type} : List (Lit × DataW H) → Nat
  | [] => 0
  | x :: r => uptoBulkEntry x + uptoBulkEntries r
def uptoBulkEntry {H : Type} : Lit × DataW H → Nat
  | (.string bytes, d) => bytes.length + uptoBulk d + 1
  | (_, d) => uptoBulk d + 1
 end
def uptoSmall : (H : Type) → List (DataW H) → Bool := fun _ ds => decide (uptoBulkAll ds ≤ 1048576)
def OpenSpec.upto (s : _root_.Go.ChangeSpec) : _root_.Go.OpenSpec := { _root_.Go.OpenSpec.ofChange s with cond := some uptoSmall }

/-- 'tipstafflaw13.DriveTicks', WHERE WHAT IT READS IS OF BULK AT MOST 1048576: true; the input reads as it did. -/
def driveTicksUptoRow : OpenClaim := { program := "ytfeikhooaadlbaa", sum := "f4cddd5e4bef0c650f16aa728d01f28d41506a6a2943cbfc2bac90e8df01311c", func := "tipstaff/tipstafflaw13.DriveTicks", spec := "driveTicks", unfollowed := true, recurses := true, apart := false, narrowed := true }
def DriveTicksUptoSaid : Prop := driveTicksUptoRow.holds Try.pinned (OpenSpec.upto driveTicksSpec)

/-- 'tipstafflaw13.DriveKnown', WHERE WHAT IT READS IS OF BULK AT MOST 1048576: true; the input reads as it did. -/
def driveKnownUptoRow : OpenClaim := { program := "ytfeikhooaadlbaa", sum := "f4cddd5e4bef0c650f16aa728d01f28d41506a6a2943cbfc2bac90e8df01311c", func := "tipstaff/tipstafflaw13.DriveKnown", spec := "driveKnown", unfollowed := true, recurses := true, apart := false, narrowed := true }
def DriveKnownUptoSaid : Prop := driveKnownUptoRow.holds Try.pinned (OpenSpec.upto driveKnownSpec)

/-- 'tipstafflaw13.DriveArrives', WHERE WHAT IT READS IS OF BULK AT MOST 1048576: true; the input reads as it did. -/
def driveArrivesUptoRow : OpenClaim := { program := "ytfeikhooaadlbaa", sum := "f4cddd5e4bef0c650f16aa728d01f28d41506a6a2943cbfc2bac90e8df01311c", func := "tipstaff/tipstafflaw13.DriveArrives", spec := "driveArrives", unfollowed := true, recurses := true, apart := false, narrowed := true }
def DriveArrivesUptoSaid : Prop := driveArrivesUptoRow.holds Try.pinned (OpenSpec.upto driveArrivesSpec)

/-- 'tipstafflaw13.DriveParts', WHERE WHAT IT READS IS OF BULK AT MOST 1048576: true; the input reads as it did. -/
def drivePartsUptoRow : OpenClaim := { program := "ytfeikhooaadlbaa", sum := "f4cddd5e4bef0c650f16aa728d01f28d41506a6a2943cbfc2bac90e8df01311c", func := "tipstaff/tipstafflaw13.DriveParts", spec := "driveParts", unfollowed := true, recurses := true, apart := false, narrowed := true }
def DrivePartsUptoSaid : Prop := drivePartsUptoRow.holds Try.pinned (OpenSpec.upto drivePartsSpec)

/-- 'tipstafflaw13.DriveWays', WHERE WHAT IT READS IS OF BULK AT MOST 1048576: true; the input reads as it did. -/
def driveWaysUptoRow : OpenClaim := { program := "ytfeikhooaadlbaa", sum := "f4cddd5e4bef0c650f16aa728d01f28d41506a6a2943cbfc2bac90e8df01311c", func := "tipstaff/tipstafflaw13.DriveWays", spec := "driveWays", unfollowed := true, recurses := true, apart := false, narrowed := true }
def DriveWaysUptoSaid : Prop := driveWaysUptoRow.holds Try.pinned (OpenSpec.upto driveWaysSpec)

end Rows
end Go.Proofs.Ytfeikhooaadlbaa
