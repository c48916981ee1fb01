/-
  No cell of these rows narrows 'for every input' (looked for: loops, veiled, ifaces, maps, wideKeys, modest, calm, conditions, laid).
  DERIVED. THE GIVEN ROWS OF THIS SEAT. 10 by the template 'for every input the law returns true; each argument reads behind the call as it read before'; 0 by the template 'total and deterministic' (their statements: YtaocclmdlpnjbaaTotals.lean).
  GIVEN WITH THE SEED: the statements are not yours to turn. If you find one false, say at which input.
  Laid BY PROGRAM, IN A SANDBOX (cutbox-rows.mjs): the forced cells as the released guide's own fill.sh prints them over the translation 6a2bb6497e3d78d2… (all of the seat's roots in one cut). By AI agents, Wed Nov 11 2026. No macro, syntax, notation, axiom, sorry.
-/
import Derived.Test.YtaocclmdlpnjbaaChecked
import GoSem.Claim
import GoSem.ClaimJoined
import GoSem.ClaimMapViews
import Derived.JoinedTies
import Derived.KernelRfl
namespace Go.Proofs.Ytaocclmdlpnjbaa
/- THE CELL 'sum', in the pinned program and in every row, IS THE sha256 OF THE DUMP (.gsa) THAT YtaocclmdlpnjbaaProg.lean LOADS. Nothing in Lean hashes anything: it is a label: what it is worth is what the hold of that sum in a sandbox is worth. -/
noncomputable def Try.pinned : Pinned := { name := "ytaocclmdlpnjbaa", sum := "6a2bb6497e3d78d21a9c8518e82c4feba2ff9eb28114da28df81b310e4975a3b", checked := Try.checked }
namespace Rows
def none {H : Type} : Left H := { results := [], args := [] }

/-- 'blazonlaw03.TagsRoots': WHATEVER THE INPUT: true; the input reads as it did. -/
def tagsRootsSpec : ChangeSpec := { name := "tagsRoots", fn := fun _ => fun
  | [d1, d2] => { results := [.lit (.bool true)], args := [d1, d2] }
  | _ => none }
def tagsRootsRow : OpenClaim := { program := "ytaocclmdlpnjbaa", sum := "6a2bb6497e3d78d21a9c8518e82c4feba2ff9eb28114da28df81b310e4975a3b", func := "blazon/blazonlaw03.TagsRoots", spec := "tagsRoots", apart := false }
def TagsRootsSaid : Prop := tagsRootsRow.holds Try.pinned (OpenSpec.ofChange tagsRootsSpec)

/-- ITS FALSE NEIGHBOUR: 'it returns false'. Refute it at one input. -/
def tagsRootsWrong : ChangeSpec := { name := "tagsRoots", fn := fun _ => fun
  | [d1, d2] => { results := [.lit (.bool false)], args := [d1, d2] }
  | _ => none }
def TagsRootsWrongFalsely : Prop := tagsRootsRow.holds Try.pinned (OpenSpec.ofChange tagsRootsWrong)

/-- 'blazonlaw03.TagsApart': WHATEVER THE INPUT: true; the input reads as it did. -/
def tagsApartSpec : ChangeSpec := { name := "tagsApart", fn := fun _ => fun
  | [d1, d2, d3, d4] => { results := [.lit (.bool true)], args := [d1, d2, d3, d4] }
  | _ => none }
def tagsApartRow : OpenClaim := { program := "ytaocclmdlpnjbaa", sum := "6a2bb6497e3d78d21a9c8518e82c4feba2ff9eb28114da28df81b310e4975a3b", func := "blazon/blazonlaw03.TagsApart", spec := "tagsApart", apart := false }
def TagsApartSaid : Prop := tagsApartRow.holds Try.pinned (OpenSpec.ofChange tagsApartSpec)

/-- ITS FALSE NEIGHBOUR: 'it returns false'. Refute it at one input. -/
def tagsApartWrong : ChangeSpec := { name := "tagsApart", fn := fun _ => fun
  | [d1, d2, d3, d4] => { results := [.lit (.bool false)], args := [d1, d2, d3, d4] }
  | _ => none }
def TagsApartWrongFalsely : Prop := tagsApartRow.holds Try.pinned (OpenSpec.ofChange tagsApartWrong)

/-- 'blazonlaw03.TagsBytes': WHATEVER THE INPUT: true; the input reads as it did. -/
def tagsBytesSpec : ChangeSpec := { name := "tagsBytes", fn := fun _ => fun
  | [d1, d2, d3, d4] => { results := [.lit (.bool true)], args := [d1, d2, d3, d4] }
  | _ => none }
def tagsBytesRow : OpenClaim := { program := "ytaocclmdlpnjbaa", sum := "6a2bb6497e3d78d21a9c8518e82c4feba2ff9eb28114da28df81b310e4975a3b", func := "blazon/blazonlaw03.TagsBytes", spec := "tagsBytes", apart := false }
def TagsBytesSaid : Prop := tagsBytesRow.holds Try.pinned (OpenSpec.ofChange tagsBytesSpec)

/-- ITS FALSE NEIGHBOUR: 'it returns false'. Refute it at one input. -/
def tagsBytesWrong : ChangeSpec := { name := "tagsBytes", fn := fun _ => fun
  | [d1, d2, d3, d4] => { results := [.lit (.bool false)], args := [d1, d2, d3, d4] }
  | _ => none }
def TagsBytesWrongFalsely : Prop := tagsBytesRow.holds Try.pinned (OpenSpec.ofChange tagsBytesWrong)

/-- 'blazonlaw03.TagsKinds': WHATEVER THE INPUT: true; the input reads as it did. -/
def tagsKindsSpec : ChangeSpec := { name := "tagsKinds", fn := fun _ => fun
  | [d1, d2, d3, d4] => { results := [.lit (.bool true)], args := [d1, d2, d3, d4] }
  | _ => none }
def tagsKindsRow : OpenClaim := { program := "ytaocclmdlpnjbaa", sum := "6a2bb6497e3d78d21a9c8518e82c4feba2ff9eb28114da28df81b310e4975a3b", func := "blazon/blazonlaw03.TagsKinds", spec := "tagsKinds", apart := false }
def TagsKindsSaid : Prop := tagsKindsRow.holds Try.pinned (OpenSpec.ofChange tagsKindsSpec)

/-- ITS FALSE NEIGHBOUR: 'it returns false'. Refute it at one input. -/
def tagsKindsWrong : ChangeSpec := { name := "tagsKinds", fn := fun _ => fun
  | [d1, d2, d3, d4] => { results := [.lit (.bool false)], args := [d1, d2, d3, d4] }
  | _ => none }
def TagsKindsWrongFalsely : Prop := tagsKindsRow.holds Try.pinned (OpenSpec.ofChange tagsKindsWrong)

/-- 'blazonlaw02.MacDigests': WHATEVER THE INPUT: true; the input reads as it did. -/
def macDigestsSpec : ChangeSpec := { name := "macDigests", fn := fun _ => fun
  | [d1, d2] => { results := [.lit (.bool true)], args := [d1, d2] }
  | _ => none }
def macDigestsRow : OpenClaim := { program := "ytaocclmdlpnjbaa", sum := "6a2bb6497e3d78d21a9c8518e82c4feba2ff9eb28114da28df81b310e4975a3b", func := "blazon/blazonlaw02.MacDigests", spec := "macDigests", unfollowed := true, recurses := true, apart := false }
def MacDigestsSaid : Prop := macDigestsRow.holds Try.pinned (OpenSpec.ofChange macDigestsSpec)

/-- ITS FALSE NEIGHBOUR: 'it returns false'. Refute it at one input. -/
def macDigestsWrong : ChangeSpec := { name := "macDigests", fn := fun _ => fun
  | [d1, d2] => { results := [.lit (.bool false)], args := [d1, d2] }
  | _ => none }
def MacDigestsWrongFalsely : Prop := macDigestsRow.holds Try.pinned (OpenSpec.ofChange macDigestsWrong)

/-- 'blazonlaw02.MacParts': WHATEVER THE INPUT: true; the input reads as it did. -/
def macPartsSpec : ChangeSpec := { name := "macParts", fn := fun _ => fun
  | [d1, d2, d3, d4] => { results := [.lit (.bool true)], args := [d1, d2, d3, d4] }
  | _ => none }
def macPartsRow : OpenClaim := { program := "ytaocclmdlpnjbaa", sum := "6a2bb6497e3d78d21a9c8518e82c4feba2ff9eb28114da28df81b310e4975a3b", func := "blazon/blazonlaw02.MacParts", spec := "macParts", unfollowed := true, recurses := true, apart := false }
def MacPartsSaid : Prop := macPartsRow.holds Try.pinned (OpenSpec.ofChange macPartsSpec)

/-- ITS FALSE NEIGHBOUR: 'it returns false'. Refute it at one input. -/
def macPartsWrong : ChangeSpec := { name := "macParts", fn := fun _ => fun
  | [d1, d2, d3, d4] => { results := [.lit (.bool false)], args := [d1, d2, d3, d4] }
  | _ => none }
def MacPartsWrongFalsely : Prop := macPartsRow.holds Try.pinned (OpenSpec.ofChange macPartsWrong)

/-- 'blazonlaw02.MacSame': WHATEVER THE INPUT: true; the input reads as it did. -/
def macSameSpec : ChangeSpec := { name := "macSame", fn := fun _ => fun
  | [d1, d2] => { results := [.lit (.bool true)], args := [d1, d2] }
  | _ => none }
def macSameRow : OpenClaim := { program := "ytaocclmdlpnjbaa", sum := "6a2bb6497e3d78d21a9c8518e82c4feba2ff9eb28114da28df81b310e4975a3b", func := "blazon/blazonlaw02.MacSame", spec := "macSame", unfollowed := true, recurses := true, apart := false }
def MacSameSaid : Prop := macSameRow.holds Try.pinned (OpenSpec.ofChange macSameSpec)

/-- ITS FALSE NEIGHBOUR: 'it returns false'. Refute it at one input. -/
def macSameWrong : ChangeSpec := { name := "macSame", fn := fun _ => fun
  | [d1, d2] => { results := [.lit (.bool false)], args := [d1, d2] }
  | _ => none }
def MacSameWrongFalsely : Prop := macSameRow.holds Try.pinned (OpenSpec.ofChange macSameWrong)

/-- 'blazonlaw02.MacKeys': WHATEVER THE INPUT: true; the input reads as it did. -/
def macKeysSpec : ChangeSpec := { name := "macKeys", fn := fun _ => fun
  | [d1, d2, d3] => { results := [.lit (.bool true)], args := [d1, d2, d3] }
  | _ => none }
def macKeysRow : OpenClaim := { program := "ytaocclmdlpnjbaa", sum := "6a2bb6497e3d78d21a9c8518e82c4feba2ff9eb28114da28df81b310e4975a3b", func := "blazon/blazonlaw02.MacKeys", spec := "macKeys", unfollowed := true, recurses := true, apart := false }
def MacKeysSaid : Prop := macKeysRow.holds Try.pinned (OpenSpec.ofChange macKeysSpec)

/-- ITS FALSE NEIGHBOUR: 'it returns false'. Refute it at one input. -/
def macKeysWrong : ChangeSpec := { name := "macKeys", fn := fun _ => fun
  | [d1, d2, d3] => { results := [.lit (.bool false)], args := [d1, d2, d3] }
  | _ => none }
def MacKeysWrongFalsely : Prop := macKeysRow.holds Try.pinned (OpenSpec.ofChange macKeysWrong)

/-- 'blazonlaw02.MacChecks': WHATEVER THE INPUT: true; the input reads as it did. -/
def macChecksSpec : ChangeSpec := { name := "macChecks", fn := fun _ => fun
  | [d1, d2, d3, d4] => { results := [.lit (.bool true)], args := [d1, d2, d3, d4] }
  | _ => none }
def macChecksRow : OpenClaim := { program := "ytaocclmdlpnjbaa", sum := "6a2bb6497e3d78d21a9c8518e82c4feba2ff9eb28114da28df81b310e4975a3b", func := "blazon/blazonlaw02.MacChecks", spec := "macChecks", unfollowed := true, recurses := true, apart := false }
def MacChecksSaid : Prop := macChecksRow.holds Try.pinned (OpenSpec.ofChange macChecksSpec)

/-- ITS FALSE NEIGHBOUR: 'it returns false'. Refute it at one input. -/
def macChecksWrong : ChangeSpec := { name := "macChecks", fn := fun _ => fun
  | [d1, d2, d3, d4] => { results := [.lit (.bool false)], args := [d1, d2, d3, d4] }
  | _ => none }
def MacChecksWrongFalsely : Prop := macChecksRow.holds Try.pinned (OpenSpec.ofChange macChecksWrong)

/-- 'blazonlaw03.TagsKeyed': WHATEVER THE INPUT: true; the input reads as it did. -/
def tagsKeyedSpec : ChangeSpec := { name := "tagsKeyed", fn := fun _ => fun
  | [d1, d2, d3, d4] => { results := [.lit (.bool true)], args := [d1, d2, d3, d4] }
  | _ => none }
def tagsKeyedRow : OpenClaim := { program := "ytaocclmdlpnjbaa", sum := "6a2bb6497e3d78d21a9c8518e82c4feba2ff9eb28114da28df81b310e4975a3b", func := "blazon/blazonlaw03.TagsKeyed", spec := "tagsKeyed", unfollowed := true, recurses := true, apart := false }
def TagsKeyedSaid : Prop := tagsKeyedRow.holds Try.pinned (OpenSpec.ofChange tagsKeyedSpec)

/-- ITS FALSE NEIGHBOUR: 'it returns false'. Refute it at one input. -/
def tagsKeyedWrong : ChangeSpec := { name := "tagsKeyed", fn := fun _ => fun
  | [d1, d2, d3, d4] => { results := [.lit (.bool false)], args := [d1, d2, d3, d4] }
  | _ => none }
def TagsKeyedWrongFalsely : Prop := tagsKeyedRow.holds Try.pinned (OpenSpec.ofChange tagsKeyedWrong)

/- THE SECOND FORM. 'bulk': how many values and letters a reading holds, each counted each time it is reached (what is shared counts as often as it is met; a slice's spare places count too). A statement '..UptoSaid' is the law's where the arguments, and the package variables that the reading takes, are together of bulk at most 1048576: NARROWER than '..Said'. Prove '..Said' where nothing that the law and all that it calls make is longer than what came in: it says more and counts as full. Else prove '..UptoSaid'. A law counts once. -/
mutual
def uptoBulk {H : Type} : DataW H → Nat
  | .lit (.string bytes) => bytes.length + 1
  | .lit _ => 1
  | .nil => 1
  | .ptr d => uptoBulk d + 1
  | .slice elems spare => uptoBulkAll elems + uptoBulkAll spare + 1
  | .agg parts => uptoBulkAll parts + 1
  | .iface _ d => uptoBulk d + 1
  | .map entries => uptoBulkEntries entries + 1
  | .held _ => 1
def uptoBulkAll {H : Type} : List (DataW H) → Nat
  | [] => 0
  | d :: r => uptoBulk d + uptoBulkAll r
def uptoBulkEntries {H : Type} : List (Lit × DataW H) → Nat
  | [] => 0
  | x :: r => uptoBulkEntry x + uptoBulkEntries r
def uptoBulkEntry {H : Type} : Lit × DataW H → Nat
  | (.string bytes, d) => bytes.length + uptoBulk d + 1
  | (_, d) => uptoBulk d + 1
 end
def uptoSmall : (H : Type) → List (DataW H) → Bool := fun _ ds => decide (uptoBulkAll ds ≤ 1048576)
def OpenSpec.upto (s : _root_.Go.ChangeSpec) : _root_.Go.OpenSpec := { _root_.Go.OpenSpec.ofChange s with cond := some uptoSmall }

/-- 'blazonlaw03.TagsRoots', WHERE WHAT IT READS IS OF BULK AT MOST 1048576: true; the input reads as it did. -/
def tagsRootsUptoRow : OpenClaim := { program := "ytaocclmdlpnjbaa", sum := "6a2bb6497e3d78d21a9c8518e82c4feba2ff9eb28114da28df81b310e4975a3b", func := "blazon/blazonlaw03.TagsRoots", spec := "tagsRoots", apart := false, narrowed := true }
def TagsRootsUptoSaid : Prop := tagsRootsUptoRow.holds Try.pinned (OpenSpec.upto tagsRootsSpec)

/-- 'blazonlaw03.TagsApart', WHERE WHAT IT READS IS OF BULK AT MOST 1048576: true; the input reads as it did. -/
def tagsApartUptoRow : OpenClaim := { program := "ytaocclmdlpnjbaa", sum := "6a2bb6497e3d78d21a9c8518e82c4feba2ff9eb28114da28df81b310e4975a3b", func := "blazon/blazonlaw03.TagsApart", spec := "tagsApart", apart := false, narrowed := true }
def TagsApartUptoSaid : Prop := tagsApartUptoRow.holds Try.pinned (OpenSpec.upto tagsApartSpec)

/-- 'blazonlaw03.TagsBytes', WHERE WHAT IT READS IS OF BULK AT MOST 1048576: true; the input reads as it did. -/
def tagsBytesUptoRow : OpenClaim := { program := "ytaocclmdlpnjbaa", sum := "6a2bb6497e3d78d21a9c8518e82c4feba2ff9eb28114da28df81b310e4975a3b", func := "blazon/blazonlaw03.TagsBytes", spec := "tagsBytes", apart := false, narrowed := true }
def TagsBytesUptoSaid : Prop := tagsBytesUptoRow.holds Try.pinned (OpenSpec.upto tagsBytesSpec)

/-- 'blazonlaw03.TagsKinds', WHERE WHAT IT READS IS OF BULK AT MOST 1048576: true; the input reads as it did. -/
def tagsKindsUptoRow : OpenClaim := { program := "ytaocclmdlpnjbaa", sum := "6a2bb6497e3d78d21a9c8518e82c4feba2ff9eb28114da28df81b310e4975a3b", func := "blazon/blazonlaw03.TagsKinds", spec := "tagsKinds", apart := false, narrowed := true }
def TagsKindsUptoSaid : Prop := tagsKindsUptoRow.holds Try.pinned (OpenSpec.upto tagsKindsSpec)

/-- 'blazonlaw02.MacDigests', WHERE WHAT IT READS IS OF BULK AT MOST 1048576: true; the input reads as it did. -/
def macDigestsUptoRow : OpenClaim := { program := "ytaocclmdlpnjbaa", sum := "6a2bb6497e3d78d21a9c8518e82c4feba2ff9eb28114da28df81b310e4975a3b", func := "blazon/blazonlaw02.MacDigests", spec := "macDigests", unfollowed := true, recurses := true, apart := false, narrowed := true }
def MacDigestsUptoSaid : Prop := macDigestsUptoRow.holds Try.pinned (OpenSpec.upto macDigestsSpec)

/-- 'blazonlaw02.MacParts', WHERE WHAT IT READS IS OF BULK AT MOST 1048576: true; the input reads as it did. -/
def macPartsUptoRow : OpenClaim := { program := "ytaocclmdlpnjbaa", sum := "6a2bb6497e3d78d21a9c8518e82c4feba2ff9eb28114da28df81b310e4975a3b", func := "blazon/blazonlaw02.MacParts", spec := "macParts", unfollowed := true, recurses := true, apart := false, narrowed := true }
def MacPartsUptoSaid : Prop := macPartsUptoRow.holds Try.pinned (OpenSpec.upto macPartsSpec)

/-- 'blazonlaw02.MacSame', WHERE WHAT IT READS IS OF BULK AT MOST 1048576: true; the input reads as it did. -/
def macSameUptoRow : OpenClaim := { program := "ytaocclmdlpnjbaa", sum := "6a2bb6497e3d78d21a9c8518e82c4feba2ff9eb28114da28df81b310e4975a3b", func := "blazon/blazonlaw02.MacSame", spec := "macSame", unfollowed := true, recurses := true, apart := false, narrowed := true }
def MacSameUptoSaid : Prop := macSameUptoRow.holds Try.pinned (OpenSpec.upto macSameSpec)

/-- 'blazonlaw02.MacKeys', WHERE WHAT IT READS IS OF BULK AT MOST 1048576: true; the input reads as it did. -/
def macKeysUptoRow : OpenClaim := { program := "ytaocclmdlpnjbaa", sum := "6a2bb6497e3d78d21a9c8518e82c4feba2ff9eb28114da28df81b310e4975a3b", func := "blazon/blazonlaw02.MacKeys", spec := "macKeys", unfollowed := true, recurses := true, apart := false, narrowed := true }
def MacKeysUptoSaid : Prop := macKeysUptoRow.holds Try.pinned (OpenSpec.upto macKeysSpec)

/-- 'blazonlaw02.MacChecks', WHERE WHAT IT READS IS OF BULK AT MOST 1048576: true; the input reads as it did. -/
def macChecksUptoRow : OpenClaim := { program := "ytaocclmdlpnjbaa", sum := "6a2bb6497e3d78d21a9c8518e82c4feba2ff9eb28114da28df81b310e4975a3b", func := "blazon/blazonlaw02.MacChecks", spec := "macChecks", unfollowed := true, recurses := true, apart := false, narrowed := true }
def MacChecksUptoSaid : Prop := macChecksUptoRow.holds Try.pinned (OpenSpec.upto macChecksSpec)

/-- 'blazonlaw03.TagsKeyed', WHERE WHAT IT READS IS OF BULK AT MOST 1048576: true; the input reads as it did. -/
def tagsKeyedUptoRow : OpenClaim := { program := "ytaocclmdlpnjbaa", sum := "6a2bb6497e3d78d21a9c8518e82c4feba2ff9eb28114da28df81b310e4975a3b", func := "blazon/blazonlaw03.TagsKeyed", spec := "tagsKeyed", unfollowed := true, recurses := true, apart := false, narrowed := true }
def TagsKeyedUptoSaid : Prop := tagsKeyedUptoRow.holds Try.pinned (OpenSpec.upto tagsKeyedSpec)

end Rows
end Go.Proofs.Ytaocclmdlpnjbaa
