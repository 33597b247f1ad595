/-
  No cell of these rows narrows 'for every input' (looked for: loops, veiled, ifaces, maps, wideKeys, modest, calm, conditions, laid).
  DERIVED. THE GIVEN ROWS OF THIS SEAT. 4 by the template 'for every input the law returns true; each argument reads behind the call as it read before'; 0 by the template 'total and deterministic' (their statements: YtckaofgkepcibaaTotals.lean).
  GIVEN WITH THE SEED: the statements are not yours to turn. If you find one false, say at which input.
  Laid BY PROGRAM, IN A SANDBOX (cutbox-rows.mjs): the forced cells as the released guide's own fill.sh prints them over the translation d45212155fab0991… (all of the seat's roots in one cut). By AI agents, Wed Nov 11 2026. No macro, syntax, notation, axiom, sorry.
-/
import Derived.Test.YtckaofgkepcibaaChecked
import GoSem.Claim
import GoSem.ClaimJoined
import GoSem.ClaimMapViews
import Derived.JoinedTies
import Derived.KernelRfl
namespace Go.Proofs.Ytckaofgkepcibaa
/- THE CELL 'sum', in the pinned program and in every row, IS THE sha256 OF THE DUMP (.gsa) THAT YtckaofgkepcibaaProg.lean LOADS. Nothing in Lean hashes anything: it is a label: what it is worth is what the hold of that sum in a sandbox is worth. -/
noncomputable def Try.pinned : Pinned := { name := "ytckaofgkepcibaa", sum := "d45212155fab0991b16e3d89a6fdb5e7b5b29080a34b82bb80cb27d121d093e6", checked := Try.checked }
namespace Rows
def none {H : Type} : Left H := { results := [], args := [] }

/-- 'tipstafflaw15.MoveTicks': WHATEVER THE INPUT: true; the input reads as it did. -/
def moveTicksSpec : ChangeSpec := { name := "moveTicks", fn := fun _ => fun
  | [d1, d2, d3] => { results := [.lit (.bool true)], args := [d1, d2, d3] }
  | _ => none }
def moveTicksRow : OpenClaim := { program := "ytckaofgkepcibaa", sum := "d45212155fab0991b16e3d89a6fdb5e7b5b29080a34b82bb80cb27d121d093e6", func := "tipstaff/tipstafflaw15.MoveTicks", spec := "moveTicks", unfollowed := true, recurses := true, apart := false }
def MoveTicksSaid : Prop := moveTicksRow.holds Try.pinned (OpenSpec.ofChange moveTicksSpec)

/-- ITS FALSE NEIGHBOUR: 'it returns false'. Refute it at one input. -/
def moveTicksWrong : ChangeSpec := { name := "moveTicks", fn := fun _ => fun
  | [d1, d2, d3] => { results := [.lit (.bool false)], args := [d1, d2, d3] }
  | _ => none }
def MoveTicksWrongFalsely : Prop := moveTicksRow.holds Try.pinned (OpenSpec.ofChange moveTicksWrong)

/-- 'tipstafflaw15.MoveSuffices': WHATEVER THE INPUT: true; the input reads as it did. -/
def moveSufficesSpec : ChangeSpec := { name := "moveSuffices", fn := fun _ => fun
  | [d1, d2] => { results := [.lit (.bool true)], args := [d1, d2] }
  | _ => none }
def moveSufficesRow : OpenClaim := { program := "ytckaofgkepcibaa", sum := "d45212155fab0991b16e3d89a6fdb5e7b5b29080a34b82bb80cb27d121d093e6", func := "tipstaff/tipstafflaw15.MoveSuffices", spec := "moveSuffices", unfollowed := true, recurses := true, apart := false }
def MoveSufficesSaid : Prop := moveSufficesRow.holds Try.pinned (OpenSpec.ofChange moveSufficesSpec)

/-- ITS FALSE NEIGHBOUR: 'it returns false'. Refute it at one input. -/
def moveSufficesWrong : ChangeSpec := { name := "moveSuffices", fn := fun _ => fun
  | [d1, d2] => { results := [.lit (.bool false)], args := [d1, d2] }
  | _ => none }
def MoveSufficesWrongFalsely : Prop := moveSufficesRow.holds Try.pinned (OpenSpec.ofChange moveSufficesWrong)

/-- 'tipstafflaw15.MoveParts': WHATEVER THE INPUT: true; the input reads as it did. -/
def movePartsSpec : ChangeSpec := { name := "moveParts", fn := fun _ => fun
  | [d1, d2, d3] => { results := [.lit (.bool true)], args := [d1, d2, d3] }
  | _ => none }
def movePartsRow : OpenClaim := { program := "ytckaofgkepcibaa", sum := "d45212155fab0991b16e3d89a6fdb5e7b5b29080a34b82bb80cb27d121d093e6", func := "tipstaff/tipstafflaw15.MoveParts", spec := "moveParts", unfollowed := true, recurses := true, apart := false }
def MovePartsSaid : Prop := movePartsRow.holds Try.pinned (OpenSpec.ofChange movePartsSpec)

/-- ITS FALSE NEIGHBOUR: 'it returns false'. Refute it at one input. -/
def movePartsWrong : ChangeSpec := { name := "moveParts", fn := fun _ => fun
  | [d1, d2, d3] => { results := [.lit (.bool false)], args := [d1, d2, d3] }
  | _ => none }
def MovePartsWrongFalsely : Prop := movePartsRow.holds Try.pinned (OpenSpec.ofChange movePartsWrong)

/-- 'tipstafflaw15.MoveKnown': WHATEVER THE INPUT: true; the input reads as it did. -/
def moveKnownSpec : ChangeSpec := { name := "moveKnown", fn := fun _ => fun
  | [] => { results := [.lit (.bool true)], args := [] }
  | _ => none }
def moveKnownRow : OpenClaim := { program := "ytckaofgkepcibaa", sum := "d45212155fab0991b16e3d89a6fdb5e7b5b29080a34b82bb80cb27d121d093e6", func := "tipstaff/tipstafflaw15.MoveKnown", spec := "moveKnown", unfollowed := true, recurses := true, apart := false }
def MoveKnownSaid : Prop := moveKnownRow.holds Try.pinned (OpenSpec.ofChange moveKnownSpec)

/-- ITS FALSE NEIGHBOUR: 'it returns false'. Refute it at one input. -/
def moveKnownWrong : ChangeSpec := { name := "moveKnown", fn := fun _ => fun
  | [] => { results := [.lit (.bool false)], args := [] }
  | _ => none }
def MoveKnownWrongFalsely : Prop := moveKnownRow.holds Try.pinned (OpenSpec.ofChange moveKnownWrong)

/- THE SECOND FORM. 'bulk': how many values and letters a reading holds, each counted each time it is reached (what is shared counts as often as it is met; a slice's spare places count too). A statement '..UptoSaid' is the law's where the arguments, and the package variables that the reading takes, are together of bulk at most 1048576: NARROWER than '..Said'. Prove '..Said' where nothing that the law and all that it calls make is longer than what came in: it says more and counts as full. Else prove '..UptoSaid'. A law counts once. -/
mutual
def uptoBulk {H : Type} : DataW H → Nat
  | .lit (.string bytes) => bytes.length + 1
  | .lit _ => 1
  | .nil => 1
  | .ptr d => uptoBulk d + 1
  | .slice elems spare => uptoBulkAll elems + uptoBulkAll spare + 1
  | .agg parts => uptoBulkAll parts + 1
  | .iface _ d => uptoBulk d + 1
  | .map entries => uptoBulkEntries entries + 1
  | .held _ => 1
def uptoBulkAll {H : Type} : List (DataW H) → Nat
  | [] => 0
  | d :: r => uptoBulk d + uptoBulkAll r
def uptoBulkEntries {H : Type} : List (Lit × DataW H) → Nat
  | [] => 0
  | x :: r => uptoBulkEntry x + uptoBulkEntries r
def uptoBulkEntry {H : Type} : Lit × DataW H → Nat
  | (.string bytes, d) => bytes.length + uptoBulk d + 1
  | (_, d) => uptoBulk d + 1
 end
def uptoSmall : (H : Type) → List (DataW H) → Bool := fun _ ds => decide (uptoBulkAll ds ≤ 1048576)
def OpenSpec.upto (s : _root_.Go.ChangeSpec) : _root_.Go.OpenSpec := { _root_.Go.OpenSpec.ofChange s with cond := some uptoSmall }

/-- 'tipstafflaw15.MoveTicks', WHERE WHAT IT READS IS OF BULK AT MOST 1048576: true; the input reads as it did. -/
def moveTicksUptoRow : OpenClaim := { program := "ytckaofgkepcibaa", sum := "d45212155fab0991b16e3d89a6fdb5e7b5b29080a34b82bb80cb27d121d093e6", func := "tipstaff/tipstafflaw15.MoveTicks", spec := "moveTicks", unfollowed := true, recurses := true, apart := false, narrowed := true }
def MoveTicksUptoSaid : Prop := moveTicksUptoRow.holds Try.pinned (OpenSpec.upto moveTicksSpec)

/-- 'tipstafflaw15.MoveSuffices', WHERE WHAT IT READS IS OF BULK AT MOST 1048576: true; the input reads as it did. -/
def moveSufficesUptoRow : OpenClaim := { program := "ytckaofgkepcibaa", sum := "d45212155fab0991b16e3d89a6fdb5e7b5b29080a34b82bb80cb27d121d093e6", func := "tipstaff/tipstafflaw15.MoveSuffices", spec := "moveSuffices", unfollowed := true, recurses := true, apart := false, narrowed := true }
def MoveSufficesUptoSaid : Prop := moveSufficesUptoRow.holds Try.pinned (OpenSpec.upto moveSufficesSpec)

/-- 'tipstafflaw15.MoveParts', WHERE WHAT IT READS IS OF BULK AT MOST 1048576: true; the input reads as it did. -/
def movePartsUptoRow : OpenClaim := { program := "ytckaofgkepcibaa", sum := "d45212155fab0991b16e3d89a6fdb5e7b5b29080a34b82bb80cb27d121d093e6", func := "tipstaff/tipstafflaw15.MoveParts", spec := "moveParts", unfollowed := true, recurses := true, apart := false, narrowed := true }
def MovePartsUptoSaid : Prop := movePartsUptoRow.holds Try.pinned (OpenSpec.upto movePartsSpec)

/-- 'tipstafflaw15.MoveKnown', WHERE WHAT IT READS IS OF BULK AT MOST 1048576: true; the input reads as it did. -/
def moveKnownUptoRow : OpenClaim := { program := "ytckaofgkepcibaa", sum := "d45212155fab0991b16e3d89a6fdb5e7b5b29080a34b82bb80cb27d121d093e6", func := "tipstaff/tipstafflaw15.MoveKnown", spec := "moveKnown", unfollowed := true, recurses := true, apart := false, narrowed := true }
def MoveKnownUptoSaid : Prop := moveKnownUptoRow.holds Try.pinned (OpenSpec.upto moveKnownSpec)

end Rows
end Go.Proofs.Ytckaofgkepcibaa
