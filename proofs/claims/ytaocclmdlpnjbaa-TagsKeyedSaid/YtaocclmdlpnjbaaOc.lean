import Derived.Test.YtaocclmdlpnjbaaOb
import Derived.Test.YtaocclmdlpnjbaaM
set_option linter.unusedVariables false
set_option linter.unusedSimpArgs false
namespace Go.Proofs.Ytaocclmdlpnjbaa
open Go Go.RowKit Go.Bz Go.ChangeShapes Go.WideShapes
section
variable {H : Type} {enc : TypeId × Value → H} {W : World} {R : Nat}
def twz (z : Sh.B × Sh.B) : List Value := two z.1 z.2
theorem tr_d32 {v : Array Value} {x : DataW H × List MemPlace} (h : ∃ fuel, DataW.trod enc Try.prog W 0 (fun _ => true) true fuel 32 (Value.agg v).cells.toList = some x) : ∃ z : Sh.B × Sh.B, v.toList = twz z ∧ z.1.length = 32 ∧ z.2.length = 32 := by
  obtain ⟨f, hf⟩ := h
  obtain ⟨xs, m, _, _, hl, hn, hx⟩ := DataW.trod_array Try.underlying32 hf
  rw [cells32] at hl
  rw [cells24] at hx
  have h0 := hx 0 (by omega)
  have h1 := hx 1 (by omega)
  rw [List.getElem?_eq_getElem (show 0 < xs.length by omega)] at h0
  rw [List.getElem?_eq_getElem (show 1 < xs.length by omega)] at h1
  obtain ⟨a, e0, ha⟩ := open_d24 h0
  obtain ⟨b, e1, hb⟩ := open_d24 h1
  refine ⟨(a, b), ?_, ha, hb⟩
  unfold twz two
  have hv : v.toList.length = 64 := hl
  have e2 : (Value.agg v).cells.toList = v.toList := rfl
  rw [e2] at e0 e1
  rw [← e0, ← e1, Nat.zero_mul, List.drop_zero, Nat.one_mul, List.take_of_length_le (l := v.toList.drop 32) (by rw [List.length_drop]; omega), List.take_append_drop]
end
end Go.Proofs.Ytaocclmdlpnjbaa
