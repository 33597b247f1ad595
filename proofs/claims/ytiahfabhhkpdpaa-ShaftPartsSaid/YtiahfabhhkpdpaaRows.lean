/-
  No cell of these rows narrows 'for every input' (looked for: loops, veiled, ifaces, maps, wideKeys, modest, calm, conditions, laid).
  DERIVED. THE GIVEN ROWS OF THIS SEAT. 6 by the template 'for every input the law returns true; each argument reads behind the call as it read before'; 0 by the template 'total and deterministic' (their statements: YtiahfabhhkpdpaaTotals.lean).
  GIVEN WITH THE SEED: the statements are not yours to turn. If you find one false, say at which input.
  Laid BY PROGRAM, IN A SANDBOX (cutbox-rows.mjs): the forced cells as the released guide's own fill.sh prints them over the translation 1d65a50ab8b1d3a1… (all of the seat's roots in one cut). By AI agents, Wed Nov 11 2026. No macro, syntax, notation, axiom, sorry.
-/
import Derived.Test.YtiahfabhhkpdpaaChecked
import GoSem.Claim
import GoSem.ClaimJoined
import GoSem.ClaimMapViews
import Derived.JoinedTies
import Derived.KernelRfl
namespace Go.Proofs.Ytiahfabhhkpdpaa
/- THE CELL 'sum', in the pinned program and in every row, IS THE sha256 OF THE DUMP (.gsa) THAT YtiahfabhhkpdpaaProg.lean LOADS. Nothing in Lean hashes anything: it is a label: what it is worth is what the hold of that sum in a sandbox is worth. -/
noncomputable def Try.pinned : Pinned := { name := "ytiahfabhhkpdpaa", sum := "1d65a50ab8b1d3a1534efe1d483b12983ca72fe37026f974f05cb908f59beef6", checked := Try.checked }
namespace Rows
def none {H : Type} : Left H := { results := [], args := [] }

/-- 'tipstafflaw07.ShaftPlaces': WHATEVER THE INPUT: true; the input reads as it did. -/
def shaftPlacesSpec : ChangeSpec := { name := "shaftPlaces", fn := fun _ => fun
  | [d1, d2, d3] => { results := [.lit (.bool true)], args := [d1, d2, d3] }
  | _ => none }
def shaftPlacesRow : OpenClaim := { program := "ytiahfabhhkpdpaa", sum := "1d65a50ab8b1d3a1534efe1d483b12983ca72fe37026f974f05cb908f59beef6", func := "tipstaff/tipstafflaw07.ShaftPlaces", spec := "shaftPlaces", unfollowed := true, recurses := true, apart := false }
def ShaftPlacesSaid : Prop := shaftPlacesRow.holds Try.pinned (OpenSpec.ofChange shaftPlacesSpec)

/-- ITS FALSE NEIGHBOUR: 'it returns false'. Refute it at one input. -/
def shaftPlacesWrong : ChangeSpec := { name := "shaftPlaces", fn := fun _ => fun
  | [d1, d2, d3] => { results := [.lit (.bool false)], args := [d1, d2, d3] }
  | _ => none }
def ShaftPlacesWrongFalsely : Prop := shaftPlacesRow.holds Try.pinned (OpenSpec.ofChange shaftPlacesWrong)

/-- 'tipstafflaw07.ShaftLooks': WHATEVER THE INPUT: true; the input reads as it did. -/
def shaftLooksSpec : ChangeSpec := { name := "shaftLooks", fn := fun _ => fun
  | [d1, d2, d3, d4, d5] => { results := [.lit (.bool true)], args := [d1, d2, d3, d4, d5] }
  | _ => none }
def shaftLooksRow : OpenClaim := { program := "ytiahfabhhkpdpaa", sum := "1d65a50ab8b1d3a1534efe1d483b12983ca72fe37026f974f05cb908f59beef6", func := "tipstaff/tipstafflaw07.ShaftLooks", spec := "shaftLooks", unfollowed := true, recurses := true, apart := false }
def ShaftLooksSaid : Prop := shaftLooksRow.holds Try.pinned (OpenSpec.ofChange shaftLooksSpec)

/-- ITS FALSE NEIGHBOUR: 'it returns false'. Refute it at one input. -/
def shaftLooksWrong : ChangeSpec := { name := "shaftLooks", fn := fun _ => fun
  | [d1, d2, d3, d4, d5] => { results := [.lit (.bool false)], args := [d1, d2, d3, d4, d5] }
  | _ => none }
def ShaftLooksWrongFalsely : Prop := shaftLooksRow.holds Try.pinned (OpenSpec.ofChange shaftLooksWrong)

/-- 'tipstafflaw07.ShaftKnown': WHATEVER THE INPUT: true; the input reads as it did. -/
def shaftKnownSpec : ChangeSpec := { name := "shaftKnown", fn := fun _ => fun
  | [] => { results := [.lit (.bool true)], args := [] }
  | _ => none }
def shaftKnownRow : OpenClaim := { program := "ytiahfabhhkpdpaa", sum := "1d65a50ab8b1d3a1534efe1d483b12983ca72fe37026f974f05cb908f59beef6", func := "tipstaff/tipstafflaw07.ShaftKnown", spec := "shaftKnown", unfollowed := true, recurses := true, apart := false }
def ShaftKnownSaid : Prop := shaftKnownRow.holds Try.pinned (OpenSpec.ofChange shaftKnownSpec)

/-- ITS FALSE NEIGHBOUR: 'it returns false'. Refute it at one input. -/
def shaftKnownWrong : ChangeSpec := { name := "shaftKnown", fn := fun _ => fun
  | [] => { results := [.lit (.bool false)], args := [] }
  | _ => none }
def ShaftKnownWrongFalsely : Prop := shaftKnownRow.holds Try.pinned (OpenSpec.ofChange shaftKnownWrong)

/-- 'tipstafflaw07.ShaftAscends': WHATEVER THE INPUT: true; the input reads as it did. -/
def shaftAscendsSpec : ChangeSpec := { name := "shaftAscends", fn := fun _ => fun
  | [d1, d2, d3, d4] => { results := [.lit (.bool true)], args := [d1, d2, d3, d4] }
  | _ => none }
def shaftAscendsRow : OpenClaim := { program := "ytiahfabhhkpdpaa", sum := "1d65a50ab8b1d3a1534efe1d483b12983ca72fe37026f974f05cb908f59beef6", func := "tipstaff/tipstafflaw07.ShaftAscends", spec := "shaftAscends", unfollowed := true, recurses := true, apart := false }
def ShaftAscendsSaid : Prop := shaftAscendsRow.holds Try.pinned (OpenSpec.ofChange shaftAscendsSpec)

/-- ITS FALSE NEIGHBOUR: 'it returns false'. Refute it at one input. -/
def shaftAscendsWrong : ChangeSpec := { name := "shaftAscends", fn := fun _ => fun
  | [d1, d2, d3, d4] => { results := [.lit (.bool false)], args := [d1, d2, d3, d4] }
  | _ => none }
def ShaftAscendsWrongFalsely : Prop := shaftAscendsRow.holds Try.pinned (OpenSpec.ofChange shaftAscendsWrong)

/-- 'tipstafflaw07.ShaftNear': WHATEVER THE INPUT: true; the input reads as it did. -/
def shaftNearSpec : ChangeSpec := { name := "shaftNear", fn := fun _ => fun
  | [d1, d2, d3] => { results := [.lit (.bool true)], args := [d1, d2, d3] }
  | _ => none }
def shaftNearRow : OpenClaim := { program := "ytiahfabhhkpdpaa", sum := "1d65a50ab8b1d3a1534efe1d483b12983ca72fe37026f974f05cb908f59beef6", func := "tipstaff/tipstafflaw07.ShaftNear", spec := "shaftNear", unfollowed := true, recurses := true, apart := false }
def ShaftNearSaid : Prop := shaftNearRow.holds Try.pinned (OpenSpec.ofChange shaftNearSpec)

/-- ITS FALSE NEIGHBOUR: 'it returns false'. Refute it at one input. -/
def shaftNearWrong : ChangeSpec := { name := "shaftNear", fn := fun _ => fun
  | [d1, d2, d3] => { results := [.lit (.bool false)], args := [d1, d2, d3] }
  | _ => none }
def ShaftNearWrongFalsely : Prop := shaftNearRow.holds Try.pinned (OpenSpec.ofChange shaftNearWrong)

/-- 'tipstafflaw07.ShaftParts': WHATEVER THE INPUT: true; the input reads as it did. -/
def shaftPartsSpec : ChangeSpec := { name := "shaftParts", fn := fun _ => fun
  | [d1, d2] => { results := [.lit (.bool true)], args := [d1, d2] }
  | _ => none }
def shaftPartsRow : OpenClaim := { program := "ytiahfabhhkpdpaa", sum := "1d65a50ab8b1d3a1534efe1d483b12983ca72fe37026f974f05cb908f59beef6", func := "tipstaff/tipstafflaw07.ShaftParts", spec := "shaftParts", unfollowed := true, recurses := true, apart := false }
def ShaftPartsSaid : Prop := shaftPartsRow.holds Try.pinned (OpenSpec.ofChange shaftPartsSpec)

/-- ITS FALSE NEIGHBOUR: 'it returns false'. Refute it at one input. -/
def shaftPartsWrong : ChangeSpec := { name := "shaftParts", fn := fun _ => fun
  | [d1, d2] => { results := [.lit (.bool false)], args := [d1, d2] }
  | _ => none }
def ShaftPartsWrongFalsely : Prop := shaftPartsRow.holds Try.pinned (OpenSpec.ofChange shaftPartsWrong)

/- THE SECOND FORM. 'bulk': how many values and letters a reading holds, each counted each time it is reached (what is shared counts as often as it is met; a slice's spare places count too). A statement '..UptoSaid' is the law's where the arguments, and the package variables that the reading takes, are together of bulk at most 1048576: NARROWER than '..Said'. Prove '..Said' where nothing that the law and all that it calls make is longer than what came in: it says more and counts as full. Else prove '..UptoSaid'. A law counts once. -/
mutual
def uptoBulk {H : Type} : DataW H → Nat
  | .lit (.string bytes) => bytes.length + 1
  | .lit _ => 1
  | .nil => 1
  | .ptr d => uptoBulk d + 1
  | .slice elems spare => uptoBulkAll elems + uptoBulkAll spare + 1
  | .agg parts => uptoBulkAll parts + 1
  | .iface _ d => uptoBulk d + 1
  | .map entries => uptoBulkEntries entries + 1
  | .held _ => 1
def uptoBulkAll {H : Type} : List (DataW H) → Nat
  | [] => 0
  | d :: r => uptoBulk d + uptoBulkAll r
def uptoBulkEntries {H : Type} : List (Lit × DataW H) → Nat
  | [] => 0
  | x :: r => uptoBulkEntry x + uptoBulkEntries r
def uptoBulkEntry {H : Type} : Lit × DataW H → Nat
  | (.string bytes, d) => bytes.length + uptoBulk d + 1
  | (_, d) => uptoBulk d + 1
 end
def uptoSmall : (H : Type) → List (DataW H) → Bool := fun _ ds => decide (uptoBulkAll ds ≤ 1048576)
def OpenSpec.upto (s : _root_.Go.ChangeSpec) : _root_.Go.OpenSpec := { _root_.Go.OpenSpec.ofChange s with cond := some uptoSmall }

/-- 'tipstafflaw07.ShaftPlaces', WHERE WHAT IT READS IS OF BULK AT MOST 1048576: true; the input reads as it did. -/
def shaftPlacesUptoRow : OpenClaim := { program := "ytiahfabhhkpdpaa", sum := "1d65a50ab8b1d3a1534efe1d483b12983ca72fe37026f974f05cb908f59beef6", func := "tipstaff/tipstafflaw07.ShaftPlaces", spec := "shaftPlaces", unfollowed := true, recurses := true, apart := false, narrowed := true }
def ShaftPlacesUptoSaid : Prop := shaftPlacesUptoRow.holds Try.pinned (OpenSpec.upto shaftPlacesSpec)

/-- 'tipstafflaw07.ShaftLooks', WHERE WHAT IT READS IS OF BULK AT MOST 1048576: true; the input reads as it did. -/
def shaftLooksUptoRow : OpenClaim := { program := "ytiahfabhhkpdpaa", sum := "1d65a50ab8b1d3a1534efe1d483b12983ca72fe37026f974f05cb908f59beef6", func := "tipstaff/tipstafflaw07.ShaftLooks", spec := "shaftLooks", unfollowed := true, recurses := true, apart := false, narrowed := true }
def ShaftLooksUptoSaid : Prop := shaftLooksUptoRow.holds Try.pinned (OpenSpec.upto shaftLooksSpec)

/-- 'tipstafflaw07.ShaftKnown', WHERE WHAT IT READS IS OF BULK AT MOST 1048576: true; the input reads as it did. -/
def shaftKnownUptoRow : OpenClaim := { program := "ytiahfabhhkpdpaa", sum := "1d65a50ab8b1d3a1534efe1d483b12983ca72fe37026f974f05cb908f59beef6", func := "tipstaff/tipstafflaw07.ShaftKnown", spec := "shaftKnown", unfollowed := true, recurses := true, apart := false, narrowed := true }
def ShaftKnownUptoSaid : Prop := shaftKnownUptoRow.holds Try.pinned (OpenSpec.upto shaftKnownSpec)

/-- 'tipstafflaw07.ShaftAscends', WHERE WHAT IT READS IS OF BULK AT MOST 1048576: true; the input reads as it did. -/
def shaftAscendsUptoRow : OpenClaim := { program := "ytiahfabhhkpdpaa", sum := "1d65a50ab8b1d3a1534efe1d483b12983ca72fe37026f974f05cb908f59beef6", func := "tipstaff/tipstafflaw07.ShaftAscends", spec := "shaftAscends", unfollowed := true, recurses := true, apart := false, narrowed := true }
def ShaftAscendsUptoSaid : Prop := shaftAscendsUptoRow.holds Try.pinned (OpenSpec.upto shaftAscendsSpec)

/-- 'tipstafflaw07.ShaftNear', WHERE WHAT IT READS IS OF BULK AT MOST 1048576: true; the input reads as it did. -/
def shaftNearUptoRow : OpenClaim := { program := "ytiahfabhhkpdpaa", sum := "1d65a50ab8b1d3a1534efe1d483b12983ca72fe37026f974f05cb908f59beef6", func := "tipstaff/tipstafflaw07.ShaftNear", spec := "shaftNear", unfollowed := true, recurses := true, apart := false, narrowed := true }
def ShaftNearUptoSaid : Prop := shaftNearUptoRow.holds Try.pinned (OpenSpec.upto shaftNearSpec)

/-- 'tipstafflaw07.ShaftParts', WHERE WHAT IT READS IS OF BULK AT MOST 1048576: true; the input reads as it did. -/
def shaftPartsUptoRow : OpenClaim := { program := "ytiahfabhhkpdpaa", sum := "1d65a50ab8b1d3a1534efe1d483b12983ca72fe37026f974f05cb908f59beef6", func := "tipstaff/tipstafflaw07.ShaftParts", spec := "shaftParts", unfollowed := true, recurses := true, apart := false, narrowed := true }
def ShaftPartsUptoSaid : Prop := shaftPartsUptoRow.holds Try.pinned (OpenSpec.upto shaftPartsSpec)

end Rows
end Go.Proofs.Ytiahfabhhkpdpaa
