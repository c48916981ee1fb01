import Derived.Test.YtjbnblkefhpibaaG
import Derived.Deep.Slices
import Derived.Deep.Strs
set_option linter.unusedVariables false
set_option linter.unusedSimpArgs false
namespace Go.Proofs.Ytjbnblkefhpibaa
open Go Go.RowKit Go.Bz
theorem ops_open {H : Type} {enc : TypeId × Value → H} {W : World} {a : Option Addr} {len cap : Nat} {x : DataW H × List MemPlace} (h : ∃ fuel, DataW.trod enc Try.prog W 0 (fun _ => true) true fuel 22 (Value.slice a len cap).cells.toList = some x) :
    ∃ ol : List Bc.Op, SlR W a (opc ol) ∧ ol.length = len := by
  obtain ⟨fuel, hf⟩ := h
  rcases Go.Deep.open_slice Try.underlying22 hf with ⟨hcs, _⟩ | ⟨a', l, c, m, n, D, Pl, hcs, _, hl, _, hm, _, hx⟩
  · simp [Value.cells] at hcs
    obtain ⟨rfl, rfl, rfl⟩ := hcs
    exact ⟨[], .inl rfl, rfl⟩
  · simp [Value.cells] at hcs
    obtain ⟨rfl, rfl, rfl⟩ := hcs
    have hm' : m = cap := by simpa using hm
    subst hm'
    have hce : Try.prog.cellsOf 35 = 3 := by kernel_rfl
    have hce3 : Try.prog.cellsOf 3 = 1 := by kernel_rfl
    have hce9 : Try.prog.cellsOf 9 = 1 := by kernel_rfl
    rw [hce] at hx
    obtain ⟨f, hf⟩ : ∃ f : Nat → Bc.Op, ∀ i, i < m → W.cells? 0 (a'.add (i * 3)) 3 = some [.int .i64 (f i).1, .string (f i).2.1, .int .i64 (f i).2.2] := by
      refine Go.Deep.choose_lt (α := Bc.Op) (p := fun i v => W.cells? 0 (a'.add (i * 3)) 3 = some [.int .i64 v.1, .string v.2.1, .int .i64 v.2.2]) fun i hi => ?_
      obtain ⟨cs, h1, h2⟩ := hx i hi
      obtain ⟨y0, y1, y2, n', _, hlen, t0, t1, t2⟩ := Go.Deep.trod_struct3 Try.underlying35 h2
      rw [hce] at hlen
      match cs, hlen with
      | [u0, u1, u2], _ =>
        rw [hce3] at t0 t2
        rw [hce9] at t1
        obtain ⟨i0, e0, _⟩ := DataW.trod_int Try.underlying3 t0
        obtain ⟨i1, e1, _⟩ := DataW.trod_string Try.underlying9 t1
        obtain ⟨i2, e2, _⟩ := DataW.trod_int Try.underlying3 t2
        simp at e0 e1 e2
        subst e0 e1 e2
        exact ⟨(i0, i1, i2), h1⟩
    refine ⟨(List.range len).map f, ?_, by simp⟩
    by_cases h0 : len = 0
    · subst h0; exact .inl rfl
    have hsp : a'.spot = none := by
      have h1 := (World.cells?_some (hf 0 (by omega))).2.2 0 (by omega)
      have h2 := World.cell?_spot h1
      simpa [Addr.add] using h2
    obtain ⟨b, o, s⟩ := a'
    dsimp only at hsp
    subst hsp
    refine .inr ⟨b, o, rfl, fun k u hk => ?_⟩
    have hlt := (List.getElem?_eq_some_iff.1 hk).1
    rw [opc_len] at hlt
    simp only [List.length_map, List.length_range] at hlt
    have hq : k / 3 < len := by omega
    have hr : k % 3 < 3 := Nat.mod_lt _ (by omega)
    have e := opc_get ((List.range len).map f) (k / 3) (by simpa using hq) (k % 3) hr
    have hd := Nat.div_add_mod k 3
    rw [show k / 3 * 3 + k % 3 = k by omega, hk] at e
    have h1 := (World.cells?_some (hf (k / 3) (by omega))).2.2 (k % 3) hr
    rw [addr_add, addr_add, show o + k / 3 * 3 + k % 3 = o + k by omega] at h1
    rw [h1, e]
    simp
theorem u8_le {z : Int} (h : (Lit.int .u8 z).wf = true) : 0 ≤ z ∧ z ≤ 255 := by
  simp [Lit.wf] at h
  have h1 : IntKind.u8.min = 0 := by decide
  have h2 : IntKind.u8.max = 255 := by decide
  omega
end Go.Proofs.Ytjbnblkefhpibaa
