import Derived.Test.YtiiofagddljgdaaOpn
import Derived.Test.YtiiofagddljgdaaVf
set_option linter.unusedVariables false
set_option linter.unusedSimpArgs false
namespace Go.Proofs.Ytiiofagddljgdaa
open Go Go.RowKit Go.Bz Go.ChangeShapes Go.WideShapes
section
variable {H : Type} {enc : TypeId × Value → H} {W : World} {R : Nat}
abbrev BindZ := ByteArray × Sh.B × (Option Addr × Nat) × UInt64
def bzc (z : BindZ) : List Value := bcell z.1 z.2.1 z.2.2.1.1 z.2.2.1.2 z.2.2.2
abbrev ReqZ := Int × ByteArray × Sh.B × (Option Addr × Nat) × Sh.B
def qzc (z : ReqZ) : List Value := qcell z.1 z.2.1 z.2.2.1 z.2.2.2.1.1 z.2.2.2.1.2 z.2.2.2.2
theorem open_d24 {fuel : Nat} {cs : List Value} {x : DataW H × List MemPlace} (hf : DataW.trod enc Try.prog W 0 (fun _ => true) true fuel 27 cs = some x) : ∃ l : Sh.B, cs = ws8 l ∧ l.length = 32 :=
  open_u8a Try.underlying27 Try.underlying5 cells24 cells5 hf
theorem open_bind {fuel : Nat} {cs : List Value} {x : DataW H × List MemPlace} (hw : ∀ k ∈ x.1.weights Try.prog 25, k ≤ R) (hf : DataW.trod enc Try.prog W 0 (fun _ => true) true fuel 25 cs = some x) : ∃ z : BindZ, cs = bzc z ∧ SlR W z.2.2.1.1 (byts z.2.1) ∧ z.2.1.length ≤ R ∧ z.2.1.length ≤ z.2.2.1.2 := by
  obtain ⟨y0, y1, y2, n', hx, hlen, t0, t1, t2⟩ := Go.Deep.trod_struct3 Try.underlying25 hf
  have h25 : Try.prog.cellsOf 25 = 3 := by kernel_rfl
  have h9 : Try.prog.cellsOf 9 = 1 := by kernel_rfl
  have h22 : Try.prog.cellsOf 22 = 1 := by kernel_rfl
  rw [h25] at hlen
  match cs, hlen with
  | [u0, u1, u2], _ =>
    rw [h9] at t0
    rw [h22] at t1
    rw [cells22] at t2
    obtain ⟨s, e0, _⟩ := DataW.trod_string Try.underlying9 t0
    obtain ⟨a, c, b, e1, hs, hcap, hwb⟩ := open_u8s (R := R) t1
    obtain ⟨n, e2⟩ := open_u64 Try.underlying23 t2
    simp at e0 e1 e2
    subst e0 e1 e2
    refine ⟨(s, b, (a, c), n), rfl, hs, hwb fun k hk => hw k ?_, hcap⟩
    rw [hx]; unfold DataW.weights; rw [Try.underlying25]
    exact DataW.weights_mem_each (j := 1) rfl rfl k hk
theorem open_req {fuel : Nat} {cs : List Value} {x : DataW H × List MemPlace} (hw : ∀ k ∈ x.1.weights Try.prog 29, k ≤ R) (hf : DataW.trod enc Try.prog W 0 (fun _ => true) true fuel 29 cs = some x) : ∃ z : ReqZ, cs = qzc z ∧ SlR W z.2.2.2.1.1 (byts z.2.2.1) ∧ z.2.2.1.length ≤ R ∧ z.2.2.1.length ≤ z.2.2.2.1.2 ∧ z.2.2.2.2.length = 32 ∧ z.2.1.size ≤ R := by
  obtain ⟨y0, y1, y2, y3, n', hx, hlen, t0, t1, t2, t3⟩ := Go.Joins.trod_struct4 Try.underlying29 hf
  have h29 : Try.prog.cellsOf 29 = 35 := by kernel_rfl
  have h3 : Try.prog.cellsOf 3 = 1 := by kernel_rfl
  have h9 : Try.prog.cellsOf 9 = 1 := by kernel_rfl
  have h22 : Try.prog.cellsOf 22 = 1 := by kernel_rfl
  rw [h29] at hlen
  match cs, hlen with
  | u0 :: u1 :: u2 :: r, hl =>
    rw [h3] at t0
    rw [h9] at t1
    rw [h22] at t2
    rw [cells24] at t3
    obtain ⟨i, e0, _⟩ := DataW.trod_int Try.underlying3 t0
    obtain ⟨s, e1, e1'⟩ := DataW.trod_string Try.underlying9 t1
    obtain ⟨a, c, b, e2, hs, hcap, hwb⟩ := open_u8s (R := R) t2
    obtain ⟨d, e3, hd⟩ := open_d24 t3
    have hr : r.length = 32 := by simpa using hl
    simp at e0 e1 e2
    subst e0 e1 e2
    have e4 : r = ws8 d := by rw [← e3]; exact (List.take_of_length_le (by omega)).symm
    subst e4
    refine ⟨(i, s, b, (a, c), d), rfl, hs, hwb fun k hk => hw k ?_, hcap, hd, hw _ ?_⟩
    · rw [hx]; unfold DataW.weights; rw [Try.underlying29]
      exact DataW.weights_mem_each (j := 2) rfl rfl k hk
    · rw [hx]; unfold DataW.weights; rw [Try.underlying29]
      refine DataW.weights_mem_each (j := 1) rfl rfl _ ?_
      rw [e1'.1]; exact List.mem_singleton.2 rfl
theorem tr_bind {v : Array Value} {x : DataW H × List MemPlace} (hw : ∀ k ∈ x.1.weights Try.prog 25, k ≤ R) (h : ∃ fuel, DataW.trod enc Try.prog W 0 (fun _ => true) true fuel 25 (Value.agg v).cells.toList = some x) : ∃ z : BindZ, v.toList = bzc z ∧ SlR W z.2.2.1.1 (byts z.2.1) ∧ z.2.1.length ≤ R ∧ z.2.1.length ≤ z.2.2.1.2 := by obtain ⟨f, hf⟩ := h; exact open_bind hw hf
theorem tr_req {v : Array Value} {x : DataW H × List MemPlace} (hw : ∀ k ∈ x.1.weights Try.prog 29, k ≤ R) (h : ∃ fuel, DataW.trod enc Try.prog W 0 (fun _ => true) true fuel 29 (Value.agg v).cells.toList = some x) : ∃ z : ReqZ, v.toList = qzc z ∧ SlR W z.2.2.2.1.1 (byts z.2.2.1) ∧ z.2.2.1.length ≤ R ∧ z.2.2.1.length ≤ z.2.2.2.1.2 ∧ z.2.2.2.2.length = 32 ∧ z.2.1.size ≤ R := by obtain ⟨f, hf⟩ := h; exact open_req hw hf
theorem tr_bs {a : Option Addr} {len cap : Nat} {x : DataW H × List MemPlace} (hw : ∀ k ∈ x.1.weights Try.prog 22, k ≤ R) (h : ∃ fuel, DataW.trod enc Try.prog W 0 (fun _ => true) true fuel 22 (Value.slice a len cap).cells.toList = some x) : ∃ b : Sh.B, SlR W a (byts b) ∧ b.length = len ∧ len ≤ cap ∧ len ≤ R := by
  obtain ⟨f, hf⟩ := h
  obtain ⟨a', c', b, e, h1, h2, h3⟩ := open_u8s (R := R) hf
  simp [Value.cells] at e
  obtain ⟨rfl, rfl, rfl⟩ := e
  exact ⟨b, h1, rfl, h2, h3 hw⟩
end
end Go.Proofs.Ytiiofagddljgdaa
