import Derived.Test.YtiiofagddljgdaaOb
set_option linter.unusedVariables false
set_option linter.unusedSimpArgs false
namespace Go.Proofs.Ytiiofagddljgdaa
open Go Go.RowKit Go.Bz Go.ChangeShapes Go.WideShapes
section
variable {H : Type} {enc : TypeId × Value → H} {W : World} {R : Nat}
theorem open_bind2 {fuel : Nat} {cs : List Value} {x : DataW H × List MemPlace} (hw : ∀ k ∈ x.1.weights Try.prog 25, k ≤ R) (hf : DataW.trod enc Try.prog W 0 (fun _ => true) true fuel 25 cs = some x) : ∃ z : BindZ, cs = bzc z ∧ SlR W z.2.2.1.1 (byts z.2.1) ∧ z.2.1.length ≤ R ∧ z.2.1.length ≤ z.2.2.1.2 ∧ z.1.size ≤ R := by
  obtain ⟨y0, y1, y2, n', hx, hlen, t0, t1, t2⟩ := Go.Deep.trod_struct3 Try.underlying25 hf
  have h25 : Try.prog.cellsOf 25 = 3 := by kernel_rfl
  have h9 : Try.prog.cellsOf 9 = 1 := by kernel_rfl
  have h22 : Try.prog.cellsOf 22 = 1 := by kernel_rfl
  rw [h25] at hlen
  match cs, hlen with
  | [u0, u1, u2], _ =>
    rw [h9] at t0
    rw [h22] at t1
    rw [cells22] at t2
    obtain ⟨s, e0, e0'⟩ := DataW.trod_string Try.underlying9 t0
    obtain ⟨a, c, b, e1, hs, hcap, hwb⟩ := open_u8s (R := R) t1
    obtain ⟨n, e2⟩ := open_u64 Try.underlying23 t2
    simp at e0 e1 e2
    subst e0 e1 e2
    refine ⟨(s, b, (a, c), n), rfl, hs, hwb fun k hk => hw k ?_, hcap, hw _ ?_⟩
    · rw [hx]; unfold DataW.weights; rw [Try.underlying25]
      exact DataW.weights_mem_each (j := 1) rfl rfl k hk
    · rw [hx]; unfold DataW.weights; rw [Try.underlying25]
      refine DataW.weights_mem_each (j := 0) rfl rfl _ ?_
      rw [e0'.1]; exact List.mem_singleton.2 rfl
theorem tr_bind2 {v : Array Value} {x : DataW H × List MemPlace} (hw : ∀ k ∈ x.1.weights Try.prog 25, k ≤ R) (h : ∃ fuel, DataW.trod enc Try.prog W 0 (fun _ => true) true fuel 25 (Value.agg v).cells.toList = some x) : ∃ z : BindZ, v.toList = bzc z ∧ SlR W z.2.2.1.1 (byts z.2.1) ∧ z.2.1.length ≤ R ∧ z.2.1.length ≤ z.2.2.1.2 ∧ z.1.size ≤ R := by obtain ⟨f, hf⟩ := h; exact open_bind2 hw hf
theorem tr_bs2 {a : Option Addr} {len cap : Nat} {x : DataW H × List MemPlace} (hw : ∀ k ∈ x.1.weights Try.prog 22, k ≤ R) (h : ∃ fuel, DataW.trod enc Try.prog W 0 (fun _ => true) true fuel 22 (Value.slice a len cap).cells.toList = some x) : ∃ b : Sh.B, SlR W a (byts b) ∧ len = b.length ∧ b.length ≤ cap ∧ len ≤ R := by
  obtain ⟨b, h1, h2, h3, h4⟩ := tr_bs hw h
  exact ⟨b, h1, h2.symm, by omega, h4⟩
end
end Go.Proofs.Ytiiofagddljgdaa
