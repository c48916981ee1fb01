import Derived.Test.YtaocclmdlpnjbaaOpn
import Derived.Test.YtaocclmdlpnjbaaJ
set_option linter.unusedVariables false
set_option linter.unusedSimpArgs false
namespace Go.Proofs.Ytaocclmdlpnjbaa
open Go Go.RowKit Go.Bz Go.ChangeShapes Go.WideShapes
section
variable {H : Type} {enc : TypeId × Value → H} {W : World} {R : Nat}
abbrev RootZ := UInt64 × Sh.B × Sh.B × Sh.B
def rzc (z : RootZ) : List Value := rcell z.1 z.2.1 z.2.2.1 z.2.2.2
abbrev BindZ := ByteArray × Sh.B × (Option Addr × Nat) × UInt64
def bzc (z : BindZ) : List Value := bcell z.1 z.2.1 z.2.2.1.1 z.2.2.1.2 z.2.2.2
theorem open_d24 {fuel : Nat} {cs : List Value} {x : DataW H × List MemPlace} (hf : DataW.trod enc Try.prog W 0 (fun _ => true) true fuel 24 cs = some x) : ∃ l : Sh.B, cs = ws8 l ∧ l.length = 32 :=
  open_u8a Try.underlying24 Try.underlying5 cells24 cells5 hf
theorem open_root {fuel : Nat} {cs : List Value} {x : DataW H × List MemPlace} (hf : DataW.trod enc Try.prog W 0 (fun _ => true) true fuel 26 cs = some x) : ∃ z : RootZ, cs = rzc z ∧ z.2.1.length = 32 ∧ z.2.2.1.length = 32 ∧ z.2.2.2.length = 32 := by
  obtain ⟨y0, y1, y2, y3, n', _, hlen, t0, t1, t2, t3⟩ := Go.Joins.trod_struct4 Try.underlying26 hf
  rw [cells26] at hlen
  rw [cells22] at t0
  rw [cells24] at t1 t2 t3
  obtain ⟨e, e0⟩ := open_u64 Try.underlying22 t0
  obtain ⟨p, e1, hp⟩ := open_d24 t1
  obtain ⟨t, e2, ht⟩ := open_d24 t2
  obtain ⟨q, e3, hq⟩ := open_d24 t3
  refine ⟨(e, p, t, q), ?_, hp, ht, hq⟩
  unfold rzc rcell
  have s1 : cs = cs.take 1 ++ ((cs.drop 1).take 32 ++ ((cs.drop 33).take 32 ++ (cs.drop 65).take 32)) := by
    have a1 : cs = cs.take 1 ++ cs.drop 1 := (List.take_append_drop 1 cs).symm
    have a2 : cs.drop 1 = (cs.drop 1).take 32 ++ cs.drop 33 := by rw [← List.drop_drop (i := 32) (j := 1)]; exact (List.take_append_drop 32 _).symm
    have a3 : cs.drop 33 = (cs.drop 33).take 32 ++ cs.drop 65 := by rw [← List.drop_drop (i := 32) (j := 33)]; exact (List.take_append_drop 32 _).symm
    have a4 : cs.drop 65 = (cs.drop 65).take 32 := by rw [List.take_of_length_le]; rw [List.length_drop]; omega
    rw [← a4, ← a3, ← a2, ← a1]
  rw [s1]
  simp only [List.drop_zero] at e0
  rw [e0, e1, e2, e3]
  rfl
theorem open_bind {fuel : Nat} {cs : List Value} {x : DataW H × List MemPlace} (hw : ∀ k ∈ x.1.weights Try.prog 34, k ≤ R) (hf : DataW.trod enc Try.prog W 0 (fun _ => true) true fuel 34 cs = some x) : ∃ z : BindZ, cs = bzc z ∧ SlR W z.2.2.1.1 (byts z.2.1) ∧ z.2.1.length ≤ R ∧ z.2.1.length ≤ z.2.2.1.2 := by
  obtain ⟨y0, y1, y2, n', hx, hlen, t0, t1, t2⟩ := Go.Deep.trod_struct3 Try.underlying34 hf
  have h34 : Try.prog.cellsOf 34 = 3 := by kernel_rfl
  have h9 : Try.prog.cellsOf 9 = 1 := by kernel_rfl
  have h28 : Try.prog.cellsOf 28 = 1 := by kernel_rfl
  rw [h34] at hlen
  match cs, hlen with
  | [u0, u1, u2], _ =>
    rw [h9] at t0
    rw [h28] at t1
    rw [cells22] at t2
    obtain ⟨s, e0, _⟩ := DataW.trod_string Try.underlying9 t0
    obtain ⟨a, c, b, e1, hs, hcap, hwb⟩ := open_u8s (R := R) t1
    obtain ⟨n, e2⟩ := open_u64 Try.underlying22 t2
    simp at e0 e1 e2
    subst e0 e1 e2
    refine ⟨(s, b, (a, c), n), rfl, hs, hwb fun k hk => hw k ?_, hcap⟩
    rw [hx]; unfold DataW.weights; rw [Try.underlying34]
    exact DataW.weights_mem_each (j := 1) rfl rfl k hk
theorem tr_d24 {v : Array Value} {x : DataW H × List MemPlace} (h : ∃ fuel, DataW.trod enc Try.prog W 0 (fun _ => true) true fuel 24 (Value.agg v).cells.toList = some x) : ∃ l : Sh.B, v.toList = ws8 l ∧ l.length = 32 := by obtain ⟨f, hf⟩ := h; exact open_d24 hf
theorem tr_root {v : Array Value} {x : DataW H × List MemPlace} (h : ∃ fuel, DataW.trod enc Try.prog W 0 (fun _ => true) true fuel 26 (Value.agg v).cells.toList = some x) : ∃ z : RootZ, v.toList = rzc z ∧ z.2.1.length = 32 ∧ z.2.2.1.length = 32 ∧ z.2.2.2.length = 32 := by obtain ⟨f, hf⟩ := h; exact open_root hf
theorem tr_bind {v : Array Value} {x : DataW H × List MemPlace} (hw : ∀ k ∈ x.1.weights Try.prog 34, k ≤ R) (h : ∃ fuel, DataW.trod enc Try.prog W 0 (fun _ => true) true fuel 34 (Value.agg v).cells.toList = some x) : ∃ z : BindZ, v.toList = bzc z ∧ SlR W z.2.2.1.1 (byts z.2.1) ∧ z.2.1.length ≤ R ∧ z.2.1.length ≤ z.2.2.1.2 := by obtain ⟨f, hf⟩ := h; exact open_bind hw hf
theorem tr_bs {a : Option Addr} {len cap : Nat} {x : DataW H × List MemPlace} (hw : ∀ k ∈ x.1.weights Try.prog 28, k ≤ R) (h : ∃ fuel, DataW.trod enc Try.prog W 0 (fun _ => true) true fuel 28 (Value.slice a len cap).cells.toList = some x) : ∃ b : Sh.B, SlR W a (byts b) ∧ b.length = len ∧ len ≤ cap ∧ len ≤ R := by
  obtain ⟨f, hf⟩ := h
  obtain ⟨a', c', b, e, h1, h2, h3⟩ := open_u8s (R := R) hf
  simp [Value.cells] at e
  obtain ⟨rfl, rfl, rfl⟩ := e
  exact ⟨b, h1, rfl, h2, h3 hw⟩
end
end Go.Proofs.Ytaocclmdlpnjbaa
