import Derived.Test.YtgdbcclammapnaaO
namespace Go.Proofs.Ytgdbcclammapnaa
open Go Go.RowKit Go.Bz Go.ChangeShapes Go.WideShapes
theorem open_o1 {H : Type} {enc : TypeId × Value → H} {W : World} {R : Nat} {cs : Array Value} {x : DataW H × List MemPlace} (hw : ∀ k ∈ x.1.weights Try.prog 27, k ≤ R) (h : ∃ fuel, DataW.trod enc Try.prog W 0 (fun _ => true) true fuel 27 (Value.agg cs).cells.toList = some x) :
    ∃ o : Ov, cs.toList = ocell o ∧ SlR W o.2.2.1 (byts o.2.1.2.2) ∧ o.2.1.2.2.length ≤ R := by
  obtain ⟨fuel, hf⟩ := h
  obtain ⟨o, h1, h2, h3⟩ := open_oc hf
  exact ⟨o, h1, h2, h3 hw⟩
end Go.Proofs.Ytgdbcclammapnaa
