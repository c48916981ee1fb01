/-
  No cell of these rows narrows 'for every input' (looked for: loops, veiled, ifaces, maps, wideKeys, modest, calm, conditions, laid).
  DERIVED. THE GIVEN ROWS OF THIS SEAT. 4 by the template 'for every input the law returns true; each argument reads behind the call as it read before'; 0 by the template 'total and deterministic' (their statements: YtgdbcclammapnaaTotals.lean).
  GIVEN WITH THE SEED: the statements are not yours to turn. If you find one false, say at which input.
  Laid BY PROGRAM, IN A SANDBOX (cutbox-rows.mjs): the forced cells as the released guide's own fill.sh prints them over the translation c925de6c4c56678e… (all of the seat's roots in one cut). By AI agents, Wed Nov 11 2026. No macro, syntax, notation, axiom, sorry.
-/
import Derived.Test.YtgdbcclammapnaaChecked
import GoSem.Claim
import GoSem.ClaimJoined
import GoSem.ClaimMapViews
import Derived.JoinedTies
import Derived.KernelRfl
namespace Go.Proofs.Ytgdbcclammapnaa
/- THE CELL 'sum', in the pinned program and in every row, IS THE sha256 OF THE DUMP (.gsa) THAT YtgdbcclammapnaaProg.lean LOADS. Nothing in Lean hashes anything: it is a label: what it is worth is what the hold of that sum in a sandbox is worth. -/
noncomputable def Try.pinned : Pinned := { name := "ytgdbcclammapnaa", sum := "c925de6c4c56678e70c3f0f7b4a6aff4729e059c1da44950b45dc440ddf2b344", checked := Try.checked }
namespace Rows
def none {H : Type} : Left H := { results := [], args := [] }

/-- 'blazonlaw25.MailSteps': WHATEVER THE INPUT: true; the input reads as it did. -/
def mailStepsSpec : ChangeSpec := { name := "mailSteps", fn := fun _ => fun
  | [d1, d2, d3] => { results := [.lit (.bool true)], args := [d1, d2, d3] }
  | _ => none }
def mailStepsRow : OpenClaim := { program := "ytgdbcclammapnaa", sum := "c925de6c4c56678e70c3f0f7b4a6aff4729e059c1da44950b45dc440ddf2b344", func := "blazon/blazonlaw25.MailSteps", spec := "mailSteps", apart := false }
def MailStepsSaid : Prop := mailStepsRow.holds Try.pinned (OpenSpec.ofChange mailStepsSpec)

/-- ITS FALSE NEIGHBOUR: 'it returns false'. Refute it at one input. -/
def mailStepsWrong : ChangeSpec := { name := "mailSteps", fn := fun _ => fun
  | [d1, d2, d3] => { results := [.lit (.bool false)], args := [d1, d2, d3] }
  | _ => none }
def MailStepsWrongFalsely : Prop := mailStepsRow.holds Try.pinned (OpenSpec.ofChange mailStepsWrong)

/-- 'blazonlaw25.MailDoes': WHATEVER THE INPUT: true; the input reads as it did. -/
def mailDoesSpec : ChangeSpec := { name := "mailDoes", fn := fun _ => fun
  | [d1, d2] => { results := [.lit (.bool true)], args := [d1, d2] }
  | _ => none }
def mailDoesRow : OpenClaim := { program := "ytgdbcclammapnaa", sum := "c925de6c4c56678e70c3f0f7b4a6aff4729e059c1da44950b45dc440ddf2b344", func := "blazon/blazonlaw25.MailDoes", spec := "mailDoes", apart := false }
def MailDoesSaid : Prop := mailDoesRow.holds Try.pinned (OpenSpec.ofChange mailDoesSpec)

/-- ITS FALSE NEIGHBOUR: 'it returns false'. Refute it at one input. -/
def mailDoesWrong : ChangeSpec := { name := "mailDoes", fn := fun _ => fun
  | [d1, d2] => { results := [.lit (.bool false)], args := [d1, d2] }
  | _ => none }
def MailDoesWrongFalsely : Prop := mailDoesRow.holds Try.pinned (OpenSpec.ofChange mailDoesWrong)

/-- 'blazonlaw25.MailNothing': WHATEVER THE INPUT: true; the input reads as it did. -/
def mailNothingSpec : ChangeSpec := { name := "mailNothing", fn := fun _ => fun
  | [d] => { results := [.lit (.bool true)], args := [d] }
  | _ => none }
def mailNothingRow : OpenClaim := { program := "ytgdbcclammapnaa", sum := "c925de6c4c56678e70c3f0f7b4a6aff4729e059c1da44950b45dc440ddf2b344", func := "blazon/blazonlaw25.MailNothing", spec := "mailNothing", apart := false }
def MailNothingSaid : Prop := mailNothingRow.holds Try.pinned (OpenSpec.ofChange mailNothingSpec)

/-- ITS FALSE NEIGHBOUR: 'it returns false'. Refute it at one input. -/
def mailNothingWrong : ChangeSpec := { name := "mailNothing", fn := fun _ => fun
  | [d] => { results := [.lit (.bool false)], args := [d] }
  | _ => none }
def MailNothingWrongFalsely : Prop := mailNothingRow.holds Try.pinned (OpenSpec.ofChange mailNothingWrong)

/-- 'blazonlaw25.MailOwn': WHATEVER THE INPUT: true; the input reads as it did. -/
def mailOwnSpec : ChangeSpec := { name := "mailOwn", fn := fun _ => fun
  | [d1, d2] => { results := [.lit (.bool true)], args := [d1, d2] }
  | _ => none }
def mailOwnRow : OpenClaim := { program := "ytgdbcclammapnaa", sum := "c925de6c4c56678e70c3f0f7b4a6aff4729e059c1da44950b45dc440ddf2b344", func := "blazon/blazonlaw25.MailOwn", spec := "mailOwn", apart := false }
def MailOwnSaid : Prop := mailOwnRow.holds Try.pinned (OpenSpec.ofChange mailOwnSpec)

/-- ITS FALSE NEIGHBOUR: 'it returns false'. Refute it at one input. -/
def mailOwnWrong : ChangeSpec := { name := "mailOwn", fn := fun _ => fun
  | [d1, d2] => { results := [.lit (.bool false)], args := [d1, d2] }
  | _ => none }
def MailOwnWrongFalsely : Prop := mailOwnRow.holds Try.pinned (OpenSpec.ofChange mailOwnWrong)

/- THE SECOND FORM. 'bulk': how many values and letters a reading holds, each counted each time it is reached (what is shared counts as often as it is met; a slice's spare places count too). A statement '..UptoSaid' is the law's where the arguments, and the package variables that the reading takes, are together of bulk at most 1048576: NARROWER than '..Said'. Prove '..Said' where nothing that the law and all that it calls make is longer than what came in: it says more and counts as full. Else prove '..UptoSaid'. A law counts once. -/
mutual
def uptoBulk {H : Type} : DataW H → Nat
  | .lit (.string bytes) => bytes.length + 1
  | .lit _ => 1
  | .nil => 1
  | .ptr d => uptoBulk d + 1
  | .slice elems spare => uptoBulkAll elems + uptoBulkAll spare + 1
  | .agg parts => uptoBulkAll parts + 1
  | .iface _ d => uptoBulk d + 1
  | .map entries => uptoBulkEntries entries + 1
  | .held _ => 1
def uptoBulkAll {H : Type} : List (DataW H) → Nat
  | [] => 0
  | d :: r => uptoBulk d + uptoBulkAll r
def uptoBulkEntries {H : Type} : List (Lit × DataW H) → Nat
  | [] => 0
  | x :: r => uptoBulkEntry x + uptoBulkEntries r
def uptoBulkEntry {H : Type} : Lit × DataW H → Nat
  | (.string bytes, d) => bytes.length + uptoBulk d + 1
  | (_, d) => uptoBulk d + 1
 end
def uptoSmall : (H : Type) → List (DataW H) → Bool := fun _ ds => decide (uptoBulkAll ds ≤ 1048576)
def OpenSpec.upto (s : _root_.Go.ChangeSpec) : _root_.Go.OpenSpec := { _root_.Go.OpenSpec.ofChange s with cond := some uptoSmall }

/-- 'blazonlaw25.MailSteps', WHERE WHAT IT READS IS OF BULK AT MOST 1048576: true; the input reads as it did. -/
def mailStepsUptoRow : OpenClaim := { program := "ytgdbcclammapnaa", sum := "c925de6c4c56678e70c3f0f7b4a6aff4729e059c1da44950b45dc440ddf2b344", func := "blazon/blazonlaw25.MailSteps", spec := "mailSteps", apart := false, narrowed := true }
def MailStepsUptoSaid : Prop := mailStepsUptoRow.holds Try.pinned (OpenSpec.upto mailStepsSpec)

/-- 'blazonlaw25.MailDoes', WHERE WHAT IT READS IS OF BULK AT MOST 1048576: true; the input reads as it did. -/
def mailDoesUptoRow : OpenClaim := { program := "ytgdbcclammapnaa", sum := "c925de6c4c56678e70c3f0f7b4a6aff4729e059c1da44950b45dc440ddf2b344", func := "blazon/blazonlaw25.MailDoes", spec := "mailDoes", apart := false, narrowed := true }
def MailDoesUptoSaid : Prop := mailDoesUptoRow.holds Try.pinned (OpenSpec.upto mailDoesSpec)

/-- 'blazonlaw25.MailNothing', WHERE WHAT IT READS IS OF BULK AT MOST 1048576: true; the input reads as it did. -/
def mailNothingUptoRow : OpenClaim := { program := "ytgdbcclammapnaa", sum := "c925de6c4c56678e70c3f0f7b4a6aff4729e059c1da44950b45dc440ddf2b344", func := "blazon/blazonlaw25.MailNothing", spec := "mailNothing", apart := false, narrowed := true }
def MailNothingUptoSaid : Prop := mailNothingUptoRow.holds Try.pinned (OpenSpec.upto mailNothingSpec)

/-- 'blazonlaw25.MailOwn', WHERE WHAT IT READS IS OF BULK AT MOST 1048576: true; the input reads as it did. -/
def mailOwnUptoRow : OpenClaim := { program := "ytgdbcclammapnaa", sum := "c925de6c4c56678e70c3f0f7b4a6aff4729e059c1da44950b45dc440ddf2b344", func := "blazon/blazonlaw25.MailOwn", spec := "mailOwn", apart := false, narrowed := true }
def MailOwnUptoSaid : Prop := mailOwnUptoRow.holds Try.pinned (OpenSpec.upto mailOwnSpec)

end Rows
end Go.Proofs.Ytgdbcclammapnaa
