/-
  No cell of these rows narrows 'for every input' (looked for: loops, veiled, ifaces, maps, wideKeys, modest, calm, conditions, laid).
  DERIVED. THE GIVEN ROWS OF THIS SEAT. 5 by the template 'for every input the law returns true; each argument reads behind the call as it read before'; 0 by the template 'total and deterministic' (their statements: YtiiofagddljgdaaTotals.lean).
  GIVEN WITH THE SEED: the statements are not yours to turn. If you find one false, say at which input.
  Laid BY PROGRAM, IN A SANDBOX (cutbox-rows.mjs): the forced cells as the released guide's own fill.sh prints them over the translation 1d80b93049286f99… (all of the seat's roots in one cut). By AI agents, Wed Nov 11 2026. No macro, syntax, notation, axiom, sorry.
-/
import Derived.Test.YtiiofagddljgdaaChecked
import GoSem.Claim
import GoSem.ClaimJoined
import GoSem.ClaimMapViews
import Derived.JoinedTies
import Derived.KernelRfl
namespace Go.Proofs.Ytiiofagddljgdaa
/- THE CELL 'sum', in the pinned program and in every row, IS THE sha256 OF THE DUMP (.gsa) THAT YtiiofagddljgdaaProg.lean LOADS. Nothing in Lean hashes anything: it is a label: what it is worth is what the hold of that sum in a sandbox is worth. -/
noncomputable def Try.pinned : Pinned := { name := "ytiiofagddljgdaa", sum := "1d80b93049286f994e1c1add0d1ad7fbc8fbcbbd88903f6c66b52bb7d5595d15", checked := Try.checked }
namespace Rows
def none {H : Type} : Left H := { results := [], args := [] }

/-- 'blazonlaw19.PolicyDecides': WHATEVER THE INPUT: true; the input reads as it did. -/
def policyDecidesSpec : ChangeSpec := { name := "policyDecides", fn := fun _ => fun
  | [d1, d2, d3] => { results := [.lit (.bool true)], args := [d1, d2, d3] }
  | _ => none }
def policyDecidesRow : OpenClaim := { program := "ytiiofagddljgdaa", sum := "1d80b93049286f994e1c1add0d1ad7fbc8fbcbbd88903f6c66b52bb7d5595d15", func := "blazon/blazonlaw19.PolicyDecides", spec := "policyDecides", unfollowed := true, recurses := true, apart := false }
def PolicyDecidesSaid : Prop := policyDecidesRow.holds Try.pinned (OpenSpec.ofChange policyDecidesSpec)

/-- ITS FALSE NEIGHBOUR: 'it returns false'. Refute it at one input. -/
def policyDecidesWrong : ChangeSpec := { name := "policyDecides", fn := fun _ => fun
  | [d1, d2, d3] => { results := [.lit (.bool false)], args := [d1, d2, d3] }
  | _ => none }
def PolicyDecidesWrongFalsely : Prop := policyDecidesRow.holds Try.pinned (OpenSpec.ofChange policyDecidesWrong)

/-- 'blazonlaw19.PolicyAsks': WHATEVER THE INPUT: true; the input reads as it did. -/
def policyAsksSpec : ChangeSpec := { name := "policyAsks", fn := fun _ => fun
  | [d1, d2] => { results := [.lit (.bool true)], args := [d1, d2] }
  | _ => none }
def policyAsksRow : OpenClaim := { program := "ytiiofagddljgdaa", sum := "1d80b93049286f994e1c1add0d1ad7fbc8fbcbbd88903f6c66b52bb7d5595d15", func := "blazon/blazonlaw19.PolicyAsks", spec := "policyAsks", unfollowed := true, recurses := true, apart := false }
def PolicyAsksSaid : Prop := policyAsksRow.holds Try.pinned (OpenSpec.ofChange policyAsksSpec)

/-- ITS FALSE NEIGHBOUR: 'it returns false'. Refute it at one input. -/
def policyAsksWrong : ChangeSpec := { name := "policyAsks", fn := fun _ => fun
  | [d1, d2] => { results := [.lit (.bool false)], args := [d1, d2] }
  | _ => none }
def PolicyAsksWrongFalsely : Prop := policyAsksRow.holds Try.pinned (OpenSpec.ofChange policyAsksWrong)

/-- 'blazonlaw19.PolicyOthers': WHATEVER THE INPUT: true; the input reads as it did. -/
def policyOthersSpec : ChangeSpec := { name := "policyOthers", fn := fun _ => fun
  | [d1, d2, d3] => { results := [.lit (.bool true)], args := [d1, d2, d3] }
  | _ => none }
def policyOthersRow : OpenClaim := { program := "ytiiofagddljgdaa", sum := "1d80b93049286f994e1c1add0d1ad7fbc8fbcbbd88903f6c66b52bb7d5595d15", func := "blazon/blazonlaw19.PolicyOthers", spec := "policyOthers", unfollowed := true, recurses := true, apart := false }
def PolicyOthersSaid : Prop := policyOthersRow.holds Try.pinned (OpenSpec.ofChange policyOthersSpec)

/-- ITS FALSE NEIGHBOUR: 'it returns false'. Refute it at one input. -/
def policyOthersWrong : ChangeSpec := { name := "policyOthers", fn := fun _ => fun
  | [d1, d2, d3] => { results := [.lit (.bool false)], args := [d1, d2, d3] }
  | _ => none }
def PolicyOthersWrongFalsely : Prop := policyOthersRow.holds Try.pinned (OpenSpec.ofChange policyOthersWrong)

/-- 'blazonlaw19.PolicyOnce': WHATEVER THE INPUT: true; the input reads as it did. -/
def policyOnceSpec : ChangeSpec := { name := "policyOnce", fn := fun _ => fun
  | [d1, d2] => { results := [.lit (.bool true)], args := [d1, d2] }
  | _ => none }
def policyOnceRow : OpenClaim := { program := "ytiiofagddljgdaa", sum := "1d80b93049286f994e1c1add0d1ad7fbc8fbcbbd88903f6c66b52bb7d5595d15", func := "blazon/blazonlaw19.PolicyOnce", spec := "policyOnce", unfollowed := true, recurses := true, apart := false }
def PolicyOnceSaid : Prop := policyOnceRow.holds Try.pinned (OpenSpec.ofChange policyOnceSpec)

/-- ITS FALSE NEIGHBOUR: 'it returns false'. Refute it at one input. -/
def policyOnceWrong : ChangeSpec := { name := "policyOnce", fn := fun _ => fun
  | [d1, d2] => { results := [.lit (.bool false)], args := [d1, d2] }
  | _ => none }
def PolicyOnceWrongFalsely : Prop := policyOnceRow.holds Try.pinned (OpenSpec.ofChange policyOnceWrong)

/-- 'blazonlaw19.PolicyNames': WHATEVER THE INPUT: true; the input reads as it did. -/
def policyNamesSpec : ChangeSpec := { name := "policyNames", fn := fun _ => fun
  | [d1, d2, d3] => { results := [.lit (.bool true)], args := [d1, d2, d3] }
  | _ => none }
def policyNamesRow : OpenClaim := { program := "ytiiofagddljgdaa", sum := "1d80b93049286f994e1c1add0d1ad7fbc8fbcbbd88903f6c66b52bb7d5595d15", func := "blazon/blazonlaw19.PolicyNames", spec := "policyNames", unfollowed := true, recurses := true, apart := false }
def PolicyNamesSaid : Prop := policyNamesRow.holds Try.pinned (OpenSpec.ofChange policyNamesSpec)

/-- ITS FALSE NEIGHBOUR: 'it returns false'. Refute it at one input. -/
def policyNamesWrong : ChangeSpec := { name := "policyNames", fn := fun _ => fun
  | [d1, d2, d3] => { results := [.lit (.bool false)], args := [d1, d2, d3] }
  | _ => none }
def PolicyNamesWrongFalsely : Prop := policyNamesRow.holds Try.pinned (OpenSpec.ofChange policyNamesWrong)

/- THE SECOND FORM. 'bulk': how many values and letters a reading holds, each counted each time it is reached (what is shared counts as often as it is met; a slice's spare places count too). A statement '..UptoSaid' is the law's where the arguments, and the package variables that the reading takes, are together of bulk at most 1048576: NARROWER than '..Said'. Prove '..Said' where nothing that the law and all that it calls make is longer than what came in: it says more and counts as full. Else prove '..UptoSaid'. A law counts once. -/
mutual
def uptoBulk {H : Type} : DataW H → Nat
  | .lit (.string bytes) => bytes.length + 1
  | .lit _ => 1
  | .nil => 1
  | .ptr d => uptoBulk d + 1
  | .slice elems spare => uptoBulkAll elems + uptoBulkAll spare + 1
  | .agg parts => uptoBulkAll parts + 1
  | .iface _ d => uptoBulk d + 1
  | .map entries => uptoBulkEntries entries + 1
  | .held _ => 1
def uptoBulkAll {H : Type} : List (DataW H) → Nat
  | [] => 0
  | d :: r => uptoBulk d + uptoBulkAll r
def uptoBulkEntries {H : Type} : List (Lit × DataW H) → Nat
  | [] => 0
  | x :: r => uptoBulkEntry x + uptoBulkEntries r
def uptoBulkEntry {H : Type} : Lit × DataW H → Nat
  | (.string bytes, d) => bytes.length + uptoBulk d + 1
  | (_, d) => uptoBulk d + 1
 end
def uptoSmall : (H : Type) → List (DataW H) → Bool := fun _ ds => decide (uptoBulkAll ds ≤ 1048576)
def OpenSpec.upto (s : _root_.Go.ChangeSpec) : _root_.Go.OpenSpec := { _root_.Go.OpenSpec.ofChange s with cond := some uptoSmall }

/-- 'blazonlaw19.PolicyDecides', WHERE WHAT IT READS IS OF BULK AT MOST 1048576: true; the input reads as it did. -/
def policyDecidesUptoRow : OpenClaim := { program := "ytiiofagddljgdaa", sum := "1d80b93049286f994e1c1add0d1ad7fbc8fbcbbd88903f6c66b52bb7d5595d15", func := "blazon/blazonlaw19.PolicyDecides", spec := "policyDecides", unfollowed := true, recurses := true, apart := false, narrowed := true }
def PolicyDecidesUptoSaid : Prop := policyDecidesUptoRow.holds Try.pinned (OpenSpec.upto policyDecidesSpec)

/-- 'blazonlaw19.PolicyAsks', WHERE WHAT IT READS IS OF BULK AT MOST 1048576: true; the input reads as it did. -/
def policyAsksUptoRow : OpenClaim := { program := "ytiiofagddljgdaa", sum := "1d80b93049286f994e1c1add0d1ad7fbc8fbcbbd88903f6c66b52bb7d5595d15", func := "blazon/blazonlaw19.PolicyAsks", spec := "policyAsks", unfollowed := true, recurses := true, apart := false, narrowed := true }
def PolicyAsksUptoSaid : Prop := policyAsksUptoRow.holds Try.pinned (OpenSpec.upto policyAsksSpec)

/-- 'blazonlaw19.PolicyOthers', WHERE WHAT IT READS IS OF BULK AT MOST 1048576: true; the input reads as it did. -/
def policyOthersUptoRow : OpenClaim := { program := "ytiiofagddljgdaa", sum := "1d80b93049286f994e1c1add0d1ad7fbc8fbcbbd88903f6c66b52bb7d5595d15", func := "blazon/blazonlaw19.PolicyOthers", spec := "policyOthers", unfollowed := true, recurses := true, apart := false, narrowed := true }
def PolicyOthersUptoSaid : Prop := policyOthersUptoRow.holds Try.pinned (OpenSpec.upto policyOthersSpec)

/-- 'blazonlaw19.PolicyOnce', WHERE WHAT IT READS IS OF BULK AT MOST 1048576: true; the input reads as it did. -/
def policyOnceUptoRow : OpenClaim := { program := "ytiiofagddljgdaa", sum := "1d80b93049286f994e1c1add0d1ad7fbc8fbcbbd88903f6c66b52bb7d5595d15", func := "blazon/blazonlaw19.PolicyOnce", spec := "policyOnce", unfollowed := true, recurses := true, apart := false, narrowed := true }
def PolicyOnceUptoSaid : Prop := policyOnceUptoRow.holds Try.pinned (OpenSpec.upto policyOnceSpec)

/-- 'blazonlaw19.PolicyNames', WHERE WHAT IT READS IS OF BULK AT MOST 1048576: true; the input reads as it did. -/
def policyNamesUptoRow : OpenClaim := { program := "ytiiofagddljgdaa", sum := "1d80b93049286f994e1c1add0d1ad7fbc8fbcbbd88903f6c66b52bb7d5595d15", func := "blazon/blazonlaw19.PolicyNames", spec := "policyNames", unfollowed := true, recurses := true, apart := false, narrowed := true }
def PolicyNamesUptoSaid : Prop := policyNamesUptoRow.holds Try.pinned (OpenSpec.upto policyNamesSpec)

end Rows
end Go.Proofs.Ytiiofagddljgdaa
