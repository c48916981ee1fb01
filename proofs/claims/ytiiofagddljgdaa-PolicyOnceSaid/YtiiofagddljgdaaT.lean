import Derived.Test.YtiiofagddljgdaaS
set_option linter.unusedVariables false
set_option linter.unusedSimpArgs false
namespace Go.Proofs.Ytiiofagddljgdaa
open Go Go.RowKit Go.Bz

theorem u8_of {z : Int} (h : (Lit.int .u8 z).wf = true) : Value.int .u8 z = v8 (UInt8.ofNat z.toNat) := by
  have hm : IntKind.u8.min = 0 := by decide
  have hM : IntKind.u8.max = 255 := by decide
  have h0 : 0 ≤ z ∧ z ≤ 255 := by simpa [Lit.wf, hm, hM] using h
  show Value.int .u8 z = .int .u8 ((UInt8.ofNat z.toNat).toNat : Int)
  rw [UInt8.toNat_ofNat', Nat.mod_eq_of_lt (by omega)]
  congr 1; omega
end Go.Proofs.Ytiiofagddljgdaa
