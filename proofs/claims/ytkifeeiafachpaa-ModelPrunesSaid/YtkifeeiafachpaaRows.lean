/-
  No cell of these rows narrows 'for every input' (looked for: loops, veiled, ifaces, maps, wideKeys, modest, calm, conditions, laid).
  DERIVED. THE GIVEN ROWS OF THIS SEAT. 6 by the template 'for every input the law returns true; each argument reads behind the call as it read before'; 0 by the template 'total and deterministic' (their statements: YtkifeeiafachpaaTotals.lean).
  GIVEN WITH THE SEED: the statements are not yours to turn. If you find one false, say at which input.
  Laid BY PROGRAM, IN A SANDBOX (cutbox-rows.mjs): the forced cells as the released guide's own fill.sh prints them over the translation 99ab7fc044e46856… (all of the seat's roots in one cut). By AI agents, Wed Nov 11 2026. No macro, syntax, notation, axiom, sorry.
-/
import Derived.Test.YtkifeeiafachpaaChecked
import GoSem.Claim
import GoSem.ClaimJoined
import GoSem.ClaimMapViews
import Derived.JoinedTies
import Derived.KernelRfl
namespace Go.Proofs.Ytkifeeiafachpaa
/- THE CELL 'sum', in the pinned program and in every row, IS THE sha256 OF THE DUMP (.gsa) THAT YtkifeeiafachpaaProg.lean LOADS. Nothing in Lean hashes anything: it is a label: what it is worth is what the hold of that sum in a sandbox is worth. -/
noncomputable def Try.pinned : Pinned := { name := "ytkifeeiafachpaa", sum := "99ab7fc044e46856b05291a19fa09313a252dd68b17ce8909becbcf59506acef", checked := Try.checked }
namespace Rows
def none {H : Type} : Left H := { results := [], args := [] }

/-- 'blazonlaw20.ModelSteps': WHATEVER THE INPUT: true; the input reads as it did. -/
def modelStepsSpec : ChangeSpec := { name := "modelSteps", fn := fun _ => fun
  | [d1, d2] => { results := [.lit (.bool true)], args := [d1, d2] }
  | _ => none }
def modelStepsRow : OpenClaim := { program := "ytkifeeiafachpaa", sum := "99ab7fc044e46856b05291a19fa09313a252dd68b17ce8909becbcf59506acef", func := "blazon/blazonlaw20.ModelSteps", spec := "modelSteps", inPlace := ["internal/bytealg.abigen_runtime_cmpstring", "slices.overlaps[blazon/api.Binding]"], unfollowed := true, recurses := true, apart := false }
def ModelStepsSaid : Prop := modelStepsRow.holds Try.pinned (OpenSpec.ofChange modelStepsSpec)

/-- ITS FALSE NEIGHBOUR: 'it returns false'. Refute it at one input. -/
def modelStepsWrong : ChangeSpec := { name := "modelSteps", fn := fun _ => fun
  | [d1, d2] => { results := [.lit (.bool false)], args := [d1, d2] }
  | _ => none }
def ModelStepsWrongFalsely : Prop := modelStepsRow.holds Try.pinned (OpenSpec.ofChange modelStepsWrong)

/-- 'blazonlaw20.ModelDoes': WHATEVER THE INPUT: true; the input reads as it did. -/
def modelDoesSpec : ChangeSpec := { name := "modelDoes", fn := fun _ => fun
  | [d] => { results := [.lit (.bool true)], args := [d] }
  | _ => none }
def modelDoesRow : OpenClaim := { program := "ytkifeeiafachpaa", sum := "99ab7fc044e46856b05291a19fa09313a252dd68b17ce8909becbcf59506acef", func := "blazon/blazonlaw20.ModelDoes", spec := "modelDoes", inPlace := ["internal/bytealg.abigen_runtime_cmpstring", "slices.overlaps[blazon/api.Binding]"], unfollowed := true, recurses := true, apart := false }
def ModelDoesSaid : Prop := modelDoesRow.holds Try.pinned (OpenSpec.ofChange modelDoesSpec)

/-- ITS FALSE NEIGHBOUR: 'it returns false'. Refute it at one input. -/
def modelDoesWrong : ChangeSpec := { name := "modelDoes", fn := fun _ => fun
  | [d] => { results := [.lit (.bool false)], args := [d] }
  | _ => none }
def ModelDoesWrongFalsely : Prop := modelDoesRow.holds Try.pinned (OpenSpec.ofChange modelDoesWrong)

/-- 'blazonlaw20.ModelStays': WHATEVER THE INPUT: true; the input reads as it did. -/
def modelStaysSpec : ChangeSpec := { name := "modelStays", fn := fun _ => fun
  | [d1, d2] => { results := [.lit (.bool true)], args := [d1, d2] }
  | _ => none }
def modelStaysRow : OpenClaim := { program := "ytkifeeiafachpaa", sum := "99ab7fc044e46856b05291a19fa09313a252dd68b17ce8909becbcf59506acef", func := "blazon/blazonlaw20.ModelStays", spec := "modelStays", inPlace := ["internal/bytealg.abigen_runtime_cmpstring", "slices.overlaps[blazon/api.Binding]"], unfollowed := true, recurses := true, apart := false }
def ModelStaysSaid : Prop := modelStaysRow.holds Try.pinned (OpenSpec.ofChange modelStaysSpec)

/-- ITS FALSE NEIGHBOUR: 'it returns false'. Refute it at one input. -/
def modelStaysWrong : ChangeSpec := { name := "modelStays", fn := fun _ => fun
  | [d1, d2] => { results := [.lit (.bool false)], args := [d1, d2] }
  | _ => none }
def ModelStaysWrongFalsely : Prop := modelStaysRow.holds Try.pinned (OpenSpec.ofChange modelStaysWrong)

/-- 'blazonlaw20.ModelNames': WHATEVER THE INPUT: true; the input reads as it did. -/
def modelNamesSpec : ChangeSpec := { name := "modelNames", fn := fun _ => fun
  | [d] => { results := [.lit (.bool true)], args := [d] }
  | _ => none }
def modelNamesRow : OpenClaim := { program := "ytkifeeiafachpaa", sum := "99ab7fc044e46856b05291a19fa09313a252dd68b17ce8909becbcf59506acef", func := "blazon/blazonlaw20.ModelNames", spec := "modelNames", inPlace := ["internal/bytealg.abigen_runtime_cmpstring", "slices.overlaps[blazon/api.Binding]"], unfollowed := true, recurses := true, apart := false }
def ModelNamesSaid : Prop := modelNamesRow.holds Try.pinned (OpenSpec.ofChange modelNamesSpec)

/-- ITS FALSE NEIGHBOUR: 'it returns false'. Refute it at one input. -/
def modelNamesWrong : ChangeSpec := { name := "modelNames", fn := fun _ => fun
  | [d] => { results := [.lit (.bool false)], args := [d] }
  | _ => none }
def ModelNamesWrongFalsely : Prop := modelNamesRow.holds Try.pinned (OpenSpec.ofChange modelNamesWrong)

/-- 'blazonlaw20.ModelPrunes': WHATEVER THE INPUT: true; the input reads as it did. -/
def modelPrunesSpec : ChangeSpec := { name := "modelPrunes", fn := fun _ => fun
  | [d1, d2, d3, d4] => { results := [.lit (.bool true)], args := [d1, d2, d3, d4] }
  | _ => none }
def modelPrunesRow : OpenClaim := { program := "ytkifeeiafachpaa", sum := "99ab7fc044e46856b05291a19fa09313a252dd68b17ce8909becbcf59506acef", func := "blazon/blazonlaw20.ModelPrunes", spec := "modelPrunes", inPlace := ["internal/bytealg.abigen_runtime_cmpstring", "slices.overlaps[blazon/api.Binding]"], unfollowed := true, recurses := true, apart := false }
def ModelPrunesSaid : Prop := modelPrunesRow.holds Try.pinned (OpenSpec.ofChange modelPrunesSpec)

/-- ITS FALSE NEIGHBOUR: 'it returns false'. Refute it at one input. -/
def modelPrunesWrong : ChangeSpec := { name := "modelPrunes", fn := fun _ => fun
  | [d1, d2, d3, d4] => { results := [.lit (.bool false)], args := [d1, d2, d3, d4] }
  | _ => none }
def ModelPrunesWrongFalsely : Prop := modelPrunesRow.holds Try.pinned (OpenSpec.ofChange modelPrunesWrong)

/-- 'blazonlaw20.ModelApart': WHATEVER THE INPUT: true; the input reads as it did. -/
def modelApartSpec : ChangeSpec := { name := "modelApart", fn := fun _ => fun
  | [d1, d2] => { results := [.lit (.bool true)], args := [d1, d2] }
  | _ => none }
def modelApartRow : OpenClaim := { program := "ytkifeeiafachpaa", sum := "99ab7fc044e46856b05291a19fa09313a252dd68b17ce8909becbcf59506acef", func := "blazon/blazonlaw20.ModelApart", spec := "modelApart", inPlace := ["internal/bytealg.abigen_runtime_cmpstring", "slices.overlaps[blazon/api.Binding]"], unfollowed := true, recurses := true, apart := false }
def ModelApartSaid : Prop := modelApartRow.holds Try.pinned (OpenSpec.ofChange modelApartSpec)

/-- ITS FALSE NEIGHBOUR: 'it returns false'. Refute it at one input. -/
def modelApartWrong : ChangeSpec := { name := "modelApart", fn := fun _ => fun
  | [d1, d2] => { results := [.lit (.bool false)], args := [d1, d2] }
  | _ => none }
def ModelApartWrongFalsely : Prop := modelApartRow.holds Try.pinned (OpenSpec.ofChange modelApartWrong)

/- THE SECOND FORM. 'bulk': how many values and letters a reading holds, each counted each time it is reached (what is shared counts as often as it is met; a slice's spare places count too). A statement '..UptoSaid' is the law's where the arguments, and the package variables that the reading takes, are together of bulk at most 1048576: NARROWER than '..Said'. Prove '..Said' where nothing that the law and all that it calls make is longer than what came in: it says more and counts as full. Else prove '..UptoSaid'. A law counts once. -/
mutual
def uptoBulk {H : Type} : DataW H → Nat
  | .lit (.string bytes) => bytes.length + 1
  | .lit _ => 1
  | .nil => 1
  | .ptr d => uptoBulk d + 1
  | .slice elems spare => uptoBulkAll elems + uptoBulkAll spare + 1
  | .agg parts => uptoBulkAll parts + 1
  | .iface _ d => uptoBulk d + 1
  | .map entries => uptoBulkEntries entries + 1
  | .held _ => 1
def uptoBulkAll {H : Type} : List (DataW H) → Nat
  | [] => 0
  | d :: r => uptoBulk d + uptoBulkAll r
def uptoBulkEntries {H : Type} : List (Lit × DataW H) → Nat
  | [] => 0
  | x :: r => uptoBulkEntry x + uptoBulkEntries r
def uptoBulkEntry {H : Type} : Lit × DataW H → Nat
  | (.string bytes, d) => bytes.length + uptoBulk d + 1
  | (_, d) => uptoBulk d + 1
 end
def uptoSmall : (H : Type) → List (DataW H) → Bool := fun _ ds => decide (uptoBulkAll ds ≤ 1048576)
def OpenSpec.upto (s : _root_.Go.ChangeSpec) : _root_.Go.OpenSpec := { _root_.Go.OpenSpec.ofChange s with cond := some uptoSmall }

/-- 'blazonlaw20.ModelSteps', WHERE WHAT IT READS IS OF BULK AT MOST 1048576: true; the input reads as it did. -/
def modelStepsUptoRow : OpenClaim := { program := "ytkifeeiafachpaa", sum := "99ab7fc044e46856b05291a19fa09313a252dd68b17ce8909becbcf59506acef", func := "blazon/blazonlaw20.ModelSteps", spec := "modelSteps", inPlace := ["internal/bytealg.abigen_runtime_cmpstring", "slices.overlaps[blazon/api.Binding]"], unfollowed := true, recurses := true, apart := false, narrowed := true }
def ModelStepsUptoSaid : Prop := modelStepsUptoRow.holds Try.pinned (OpenSpec.upto modelStepsSpec)

/-- 'blazonlaw20.ModelDoes', WHERE WHAT IT READS IS OF BULK AT MOST 1048576: true; the input reads as it did. -/
def modelDoesUptoRow : OpenClaim := { program := "ytkifeeiafachpaa", sum := "99ab7fc044e46856b05291a19fa09313a252dd68b17ce8909becbcf59506acef", func := "blazon/blazonlaw20.ModelDoes", spec := "modelDoes", inPlace := ["internal/bytealg.abigen_runtime_cmpstring", "slices.overlaps[blazon/api.Binding]"], unfollowed := true, recurses := true, apart := false, narrowed := true }
def ModelDoesUptoSaid : Prop := modelDoesUptoRow.holds Try.pinned (OpenSpec.upto modelDoesSpec)

/-- 'blazonlaw20.ModelStays', WHERE WHAT IT READS IS OF BULK AT MOST 1048576: true; the input reads as it did. -/
def modelStaysUptoRow : OpenClaim := { program := "ytkifeeiafachpaa", sum := "99ab7fc044e46856b05291a19fa09313a252dd68b17ce8909becbcf59506acef", func := "blazon/blazonlaw20.ModelStays", spec := "modelStays", inPlace := ["internal/bytealg.abigen_runtime_cmpstring", "slices.overlaps[blazon/api.Binding]"], unfollowed := true, recurses := true, apart := false, narrowed := true }
def ModelStaysUptoSaid : Prop := modelStaysUptoRow.holds Try.pinned (OpenSpec.upto modelStaysSpec)

/-- 'blazonlaw20.ModelNames', WHERE WHAT IT READS IS OF BULK AT MOST 1048576: true; the input reads as it did. -/
def modelNamesUptoRow : OpenClaim := { program := "ytkifeeiafachpaa", sum := "99ab7fc044e46856b05291a19fa09313a252dd68b17ce8909becbcf59506acef", func := "blazon/blazonlaw20.ModelNames", spec := "modelNames", inPlace := ["internal/bytealg.abigen_runtime_cmpstring", "slices.overlaps[blazon/api.Binding]"], unfollowed := true, recurses := true, apart := false, narrowed := true }
def ModelNamesUptoSaid : Prop := modelNamesUptoRow.holds Try.pinned (OpenSpec.upto modelNamesSpec)

/-- 'blazonlaw20.ModelPrunes', WHERE WHAT IT READS IS OF BULK AT MOST 1048576: true; the input reads as it did. -/
def modelPrunesUptoRow : OpenClaim := { program := "ytkifeeiafachpaa", sum := "99ab7fc044e46856b05291a19fa09313a252dd68b17ce8909becbcf59506acef", func := "blazon/blazonlaw20.ModelPrunes", spec := "modelPrunes", inPlace := ["internal/bytealg.abigen_runtime_cmpstring", "slices.overlaps[blazon/api.Binding]"], unfollowed := true, recurses := true, apart := false, narrowed := true }
def ModelPrunesUptoSaid : Prop := modelPrunesUptoRow.holds Try.pinned (OpenSpec.upto modelPrunesSpec)

/-- 'blazonlaw20.ModelApart', WHERE WHAT IT READS IS OF BULK AT MOST 1048576: true; the input reads as it did. -/
def modelApartUptoRow : OpenClaim := { program := "ytkifeeiafachpaa", sum := "99ab7fc044e46856b05291a19fa09313a252dd68b17ce8909becbcf59506acef", func := "blazon/blazonlaw20.ModelApart", spec := "modelApart", inPlace := ["internal/bytealg.abigen_runtime_cmpstring", "slices.overlaps[blazon/api.Binding]"], unfollowed := true, recurses := true, apart := false, narrowed := true }
def ModelApartUptoSaid : Prop := modelApartUptoRow.holds Try.pinned (OpenSpec.upto modelApartSpec)

end Rows
end Go.Proofs.Ytkifeeiafachpaa
