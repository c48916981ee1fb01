import Derived.Test.YtkifeeiafachpaaOpn
import Derived.Test.YtkifeeiafachpaaKa
set_option linter.unusedVariables false
set_option linter.unusedSimpArgs false
namespace Go.Proofs.Ytkifeeiafachpaa
open Go Go.RowKit Go.Bz Go.ChangeShapes Go.WideShapes
section
variable {H : Type} {enc : TypeId × Value → H} {W : World} {R : Nat}
theorem open_len {t e fuel n c : Nat} {a : Option Addr} {x : DataW H × List MemPlace} (hu : Try.prog.underlying t = some (.slice e)) (hb : 1 ≤ Try.prog.bytesOf e) (h : DataW.trod enc Try.prog W 0 (fun _ => true) true fuel t [.slice a n c] = some x) :
    n ≤ c ∧ ((∀ k ∈ x.1.weights Try.prog t, k ≤ R) → n ≤ R) := by
  rcases Go.Deep.open_slice hu h with ⟨hcs, _⟩ | ⟨a', l, c', m, n', D, Pl, hcs, _, hl, _, hm, hx, hxx⟩
  · simp at hcs
    obtain ⟨rfl, rfl, rfl⟩ := hcs
    exact ⟨Nat.le_refl _, fun _ => Nat.zero_le _⟩
  · simp at hcs
    obtain ⟨rfl, rfl, rfl⟩ := hcs
    refine ⟨hl, fun hw => ?_⟩
    have hmem : (((List.range n).map D).length + ((List.range (m - n)).map fun j => D (n + j)).length) * Try.prog.bytesOf e ∈ x.1.weights Try.prog t := by
      rw [hx]; unfold DataW.weights; rw [hu]; exact List.mem_cons_self ..
    have := hw _ hmem
    simp only [List.length_map, List.length_range] at this
    have h2 : n ≤ (n + (m - n)) * Try.prog.bytesOf e := Nat.le_trans (Nat.le_add_right _ _) (Nat.le_mul_of_pos_right _ hb)
    omega
theorem open_d29 {fuel : Nat} {cs : List Value} {x : DataW H × List MemPlace} (hf : DataW.trod enc Try.prog W 0 (fun _ => true) true fuel 29 cs = some x) : ∃ l : Sh.B, cs = ws8 l ∧ l.length = 32 :=
  open_u8a Try.underlying29 Try.underlying5 cells24 cells5 hf
set_option maxRecDepth 100000 in
theorem open_bind {fuel : Nat} {cs : List Value} {x : DataW H × List MemPlace} (hf : DataW.trod enc Try.prog W 0 (fun _ => true) true fuel 49 cs = some x) : ∃ z : BindZ, cs = bzc z ∧ (SlR W z.2.2.1.1 (byts z.2.1) ∧ z.2.1.length ≤ z.2.2.1.2) ∧ ((∀ k ∈ x.1.weights Try.prog 49, k ≤ R) → z.1.size ≤ R) := by
  obtain ⟨y0, y1, y2, n', hx, hlen, t0, t1, t2⟩ := Go.Deep.trod_struct3 Try.underlying49 hf
  have h49 : Try.prog.cellsOf 49 = 3 := by kernel_rfl
  have h9 : Try.prog.cellsOf 9 = 1 := by kernel_rfl
  have h27 : Try.prog.cellsOf 27 = 1 := by kernel_rfl
  have h24 : Try.prog.cellsOf 24 = 1 := by kernel_rfl
  rw [h49] at hlen
  match cs, hlen with
  | [u0, u1, u2], _ =>
    rw [h9] at t0
    rw [h27] at t1
    rw [h24] at t2
    obtain ⟨s, e0, e0'⟩ := DataW.trod_string Try.underlying9 t0
    obtain ⟨a, c, b, e1, hs, hcap, hwb⟩ := open_u8s (R := R) t1
    obtain ⟨n, e2⟩ := open_u64 Try.underlying24 t2
    simp at e0 e1 e2
    subst e0 e1 e2
    refine ⟨(s, b, (a, c), n), rfl, ⟨hs, hcap⟩, fun hw => hw _ ?_⟩
    rw [hx]; unfold DataW.weights; rw [Try.underlying49]
    refine DataW.weights_mem_each (j := 0) rfl rfl _ ?_
    rw [e0'.1]; exact List.mem_singleton.2 rfl
set_option maxRecDepth 100000 in
theorem open_req {fuel : Nat} {cs : List Value} {x : DataW H × List MemPlace} (hf : DataW.trod enc Try.prog W 0 (fun _ => true) true fuel 31 cs = some x) : ∃ z : ReqZ, cs = qzc z ∧ (SlR W z.2.2.2.1.1 (byts z.2.2.1) ∧ z.2.2.1.length ≤ z.2.2.2.1.2 ∧ z.2.2.2.2.length = 32) ∧ ((∀ k ∈ x.1.weights Try.prog 31, k ≤ R) → z.2.1.size ≤ R) := by
  obtain ⟨y0, y1, y2, y3, n', hx, hlen, t0, t1, t2, t3⟩ := Go.Joins.trod_struct4 Try.underlying31 hf
  have h31 : Try.prog.cellsOf 31 = 35 := by kernel_rfl
  have h3 : Try.prog.cellsOf 3 = 1 := by kernel_rfl
  have h9 : Try.prog.cellsOf 9 = 1 := by kernel_rfl
  have h27 : Try.prog.cellsOf 27 = 1 := by kernel_rfl
  rw [h31] at hlen
  match cs, hlen with
  | u0 :: u1 :: u2 :: r, hl =>
    rw [h3] at t0
    rw [h9] at t1
    rw [h27] at t2
    rw [cells24] at t3
    obtain ⟨i, e0, _⟩ := DataW.trod_int Try.underlying3 t0
    obtain ⟨s, e1, e1'⟩ := DataW.trod_string Try.underlying9 t1
    obtain ⟨a, c, b, e2, hs, hcap, hwb⟩ := open_u8s (R := R) t2
    obtain ⟨d, e3, hd⟩ := open_d29 t3
    have hr : r.length = 32 := by simpa using hl
    simp at e0 e1 e2
    subst e0 e1 e2
    have e4 : r = ws8 d := by rw [← e3]; exact (List.take_of_length_le (by omega)).symm
    subst e4
    refine ⟨(i, s, b, (a, c), d), rfl, ⟨hs, hcap, hd⟩, fun hw => hw _ ?_⟩
    rw [hx]; unfold DataW.weights; rw [Try.underlying31]
    refine DataW.weights_mem_each (j := 1) rfl rfl _ ?_
    rw [e1'.1]; exact List.mem_singleton.2 rfl
instance : Inhabited BindZ := ⟨bz0⟩
instance : Inhabited EpZ := ⟨((none, 0), [])⟩
abbrev ReqS := {q : ReqZ // q.2.2.2.2.length = 32}
instance : Inhabited ReqS := ⟨⟨(0, ByteArray.empty, [], (none, 0), zdg), zdg_len⟩⟩
abbrev OpS := {o : OpZ // oOk0 o}
instance : Inhabited OpS := ⟨⟨(0, (0, ByteArray.empty, [], (none, 0), zdg), ByteArray.empty, 0, 0), zdg_len⟩⟩
theorem fcat_sub {α : Type} {p : α → Prop} (f : α → List Value) : ∀ l : List {x : α // p x}, l.flatMap (fun s => f s.1) = fcat f (l.map (·.1))
  | [] => rfl
  | x :: l => by rw [List.flatMap_cons, List.map_cons, fcat_cons, fcat_sub f l]
theorem open_ep {fuel : Nat} {cs : List Value} {x : DataW H × List MemPlace} (hf : DataW.trod enc Try.prog W 0 (fun _ => true) true fuel 46 cs = some x) :
    ∃ e : EpZ, cs = ecell e ∧ (Has W (efx e) ∧ (∀ b ∈ e.2, b.2.1.length ≤ b.2.2.1.2) ∧ e.2.length ≤ e.1.2) ∧ ((∀ k ∈ x.1.weights Try.prog 46, k ≤ R) → (∀ b ∈ e.2, b.1.size ≤ R) ∧ e.2.length ≤ R) := by
  obtain ⟨a, n, c, rfl⟩ : ∃ a n c, cs = [.slice a n c] := by
    rcases Go.Deep.open_slice Try.underlying46 hf with ⟨hcs, _⟩ | ⟨a', l, c', m, n', D, Pl, hcs, _⟩
    · exact ⟨_, _, _, hcs⟩
    · exact ⟨_, _, _, hcs⟩
  obtain ⟨hnc, hnR⟩ := open_len (R := R) Try.underlying46 (of_decide_eq_true (by kernel_rfl)) hf
  obtain ⟨bs, h1, h2, h3⟩ := open_list bzc (fun b d => (SlR W b.2.2.1.1 (byts b.2.1) ∧ b.2.1.length ≤ b.2.2.1.2) ∧ ((∀ k ∈ d.weights Try.prog 49, k ≤ R) → b.1.size ≤ R)) Try.underlying46 (sz := 3) (by kernel_rfl) (by omega) (fun _ => rfl) (fun fuel cs y h => open_bind h) hf
  subst h1
  refine ⟨((a, c), bs), rfl, ⟨fun f hf => ?_, fun b hb => (h3 b hb).elim fun d h => h.1.1.2, hnc⟩, fun hw => ⟨fun b hb => (h3 b hb).elim fun d h => h.1.2 fun k hk => hw k (h.2 k hk), hnR hw⟩⟩
  rcases List.mem_cons.1 hf with rfl | hf
  · exact h2
  · obtain ⟨b, hb, rfl⟩ := List.mem_map.1 hf
    exact (h3 b hb).elim fun d h => h.1.1.1
set_option maxRecDepth 100000 in
theorem open_dir {fuel : Nat} {cs : List Value} {x : DataW H × List MemPlace} (hf : DataW.trod enc Try.prog W 0 (fun _ => true) true fuel 26 cs = some x) (hw : ∀ k ∈ x.1.weights Try.prog 26, k ≤ 140737488351232) : ∃ d : DirZ, cs = dcell d ∧ Has W (dfx d) ∧ dOk1 d := by
  obtain ⟨y0, y1, y2, n', hx, hlen, t0, t1, t2⟩ := Go.Deep.trod_struct3 Try.underlying26 hf
  have h26 : Try.prog.cellsOf 26 = 3 := by kernel_rfl
  have h22 : Try.prog.cellsOf 22 = 1 := by kernel_rfl
  have h23 : Try.prog.cellsOf 23 = 1 := by kernel_rfl
  have h24 : Try.prog.cellsOf 24 = 1 := by kernel_rfl
  rw [h26] at hlen
  match cs, hlen with
  | [u0, u1, u2], _ =>
    rw [h22] at t0
    rw [h23] at t1
    rw [h24] at t2
    have w0 : ∀ k ∈ y0.1.weights Try.prog 22, k ≤ 140737488351232 := fun k hk => hw k (by rw [hx]; unfold DataW.weights; rw [Try.underlying26]; exact DataW.weights_mem_each (j := 0) rfl rfl k hk)
    have w1 : ∀ k ∈ y1.1.weights Try.prog 23, k ≤ 140737488351232 := fun k hk => hw k (by rw [hx]; unfold DataW.weights; rw [Try.underlying26]; exact DataW.weights_mem_each (j := 1) rfl rfl k hk)
    obtain ⟨a0, n0, c0, e0⟩ : ∃ a n c, u0 = .slice a n c := by
      rcases Go.Deep.open_slice Try.underlying22 t0 with ⟨hcs, _⟩ | ⟨a', l, c', m, n', D, Pl, hcs, _⟩
      · simp at hcs; exact ⟨_, _, _, hcs⟩
      · simp at hcs; exact ⟨_, _, _, hcs⟩
    obtain ⟨a1, n1, c1, e1⟩ : ∃ a n c, u1 = .slice a n c := by
      rcases Go.Deep.open_slice Try.underlying23 t1 with ⟨hcs, _⟩ | ⟨a', l, c', m, n', D, Pl, hcs, _⟩
      · simp at hcs; exact ⟨_, _, _, hcs⟩
      · simp at hcs; exact ⟨_, _, _, hcs⟩
    obtain ⟨n, e2⟩ := open_u64 Try.underlying24 t2
    simp at e2
    subst e0 e1 e2
    have t0 : DataW.trod enc Try.prog W 0 (fun _ => true) true n' 22 [.slice a0 n0 c0] = some y0 := t0
    have t1 : DataW.trod enc Try.prog W 0 (fun _ => true) true n' 23 [.slice a1 n1 c1] = some y1 := t1
    obtain ⟨_, hr0⟩ := open_len (R := 140737488351232) Try.underlying22 (of_decide_eq_true (by kernel_rfl)) t0
    obtain ⟨_, hr1⟩ := open_len (R := 140737488351232) Try.underlying23 (of_decide_eq_true (by kernel_rfl)) t1
    obtain ⟨es, l0, s0, g0⟩ := open_list ecell (fun e d => (Has W (efx e) ∧ (∀ b ∈ e.2, b.2.1.length ≤ b.2.2.1.2) ∧ e.2.length ≤ e.1.2) ∧ ((∀ k ∈ d.weights Try.prog 46, k ≤ 140737488351232) → (∀ b ∈ e.2, b.1.size ≤ 140737488351232) ∧ e.2.length ≤ 140737488351232)) Try.underlying22 (sz := 1) (by kernel_rfl) (by omega) (fun _ => rfl) (fun fuel cs y h => open_ep h) t0
    obtain ⟨qs, l1, s1, g1⟩ := open_list (α := ReqS) (fun s => qzc s.1) (fun s d => (SlR W s.1.2.2.2.1.1 (byts s.1.2.2.1) ∧ s.1.2.2.1.length ≤ s.1.2.2.2.1.2) ∧ ((∀ k ∈ d.weights Try.prog 31, k ≤ 140737488351232) → s.1.2.1.size ≤ 140737488351232)) Try.underlying23 (sz := 35) (by kernel_rfl) (by omega) (fun s => qc_len s.2) (fun fuel cs y h => by
      obtain ⟨z, ez, ⟨z1, z2, z3⟩, z4⟩ := open_req h
      exact ⟨⟨z, z3⟩, ez, ⟨z1, z2⟩, z4⟩) t1
    rw [fcat_sub] at s1
    subst l0 l1
    refine ⟨(((a0, c0), es), ((a1, c1), qs.map (·.1)), n), by unfold dcell; dsimp only; rw [List.length_map], fun f hf => ?_, ?_, ?_, ?_, ?_⟩
    · unfold dfx at hf
      rcases List.mem_cons.1 hf with rfl | hf
      · exact s0
      rcases List.mem_cons.1 hf with rfl | hf
      · exact s1
      rcases List.mem_append.1 hf with hf | hf
      · obtain ⟨e, he, h⟩ := List.mem_flatMap.1 hf
        exact (g0 e he).elim fun d k => k.1.1.1 f h
      · obtain ⟨q, hq, rfl⟩ := List.mem_map.1 hf
        obtain ⟨s, hs, rfl⟩ := List.mem_map.1 hq
        exact (g1 s hs).elim fun d k => k.1.1.1
    · intro e he
      obtain ⟨d, ⟨⟨k1, k2, k3⟩, k4⟩, k5⟩ := g0 e he
      obtain ⟨m1, m2⟩ := k4 fun k hk => w0 k (k5 k hk)
      exact ⟨fun b hb => ⟨by have := m1 b hb; omega, k2 b hb⟩, k3, by omega⟩
    · intro q hq
      obtain ⟨s, hs, rfl⟩ := List.mem_map.1 hq
      obtain ⟨d, ⟨⟨k1, k2⟩, k4⟩, k5⟩ := g1 s hs
      exact ⟨by have := k4 fun k hk => w1 k (k5 k hk); omega, k2, s.2⟩
    · have := hr0 w0; dsimp only; omega
    · have := hr1 w1; dsimp only; rw [List.length_map]; omega
theorem trod_struct5 {P : Program} {w : World} {base : Nat} {spare : Nat → Bool} {held : Bool} {t : TypeId} {f0 f1 f2 f3 f4 : Field} {fuel : Nat} {cs : List Value} {x : DataW H × List MemPlace} (ht : P.underlying t = some (.struct #[f0, f1, f2, f3, f4])) (h : DataW.trod enc P w base spare held fuel t cs = some x) :
    ∃ y0 y1 y2 y3 y4 n, x.1 = .agg [y0.1, y1.1, y2.1, y3.1, y4.1] ∧ cs.length = P.cellsOf t ∧ DataW.trod enc P w base spare held n f0.type ((cs.drop f0.offset).take (P.cellsOf f0.type)) = some y0 ∧
      DataW.trod enc P w base spare held n f1.type ((cs.drop f1.offset).take (P.cellsOf f1.type)) = some y1 ∧ DataW.trod enc P w base spare held n f2.type ((cs.drop f2.offset).take (P.cellsOf f2.type)) = some y2 ∧
      DataW.trod enc P w base spare held n f3.type ((cs.drop f3.offset).take (P.cellsOf f3.type)) = some y3 ∧ DataW.trod enc P w base spare held n f4.type ((cs.drop f4.offset).take (P.cellsOf f4.type)) = some y4 := by
  obtain ⟨xs, n, _, rfl, hl, hlen, hf⟩ := DataW.trod_struct ht h
  match xs, hlen with
  | [y0, y1, y2, y3, y4], _ => exact ⟨y0, y1, y2, y3, y4, n, by simp, hl, by simpa using hf 0 f0 rfl, by simpa using hf 1 f1 rfl, by simpa using hf 2 f2 rfl, by simpa using hf 3 f3 rfl, by simpa using hf 4 f4 rfl⟩
theorem op_cells {cs q : List Value} {u0 : Value} {s : ByteArray} {n m : UInt64} (hl : cs.length = 39) (hq : q.length = 35) (e0 : cs.take 1 = [u0]) (e1 : (cs.drop 1).take 35 = q) (e2 : (cs.drop 36).take 1 = [.string s]) (e3 : (cs.drop 37).take 1 = [v64 n]) (e4 : (cs.drop 38).take 1 = [v64 m]) : cs = u0 :: (q ++ [.string s, v64 n, v64 m]) := by
  have a1 : cs = cs.take 1 ++ cs.drop 1 := (List.take_append_drop 1 cs).symm
  have a2 : cs.drop 1 = (cs.drop 1).take 35 ++ cs.drop 36 := by rw [← List.drop_drop (i := 35) (j := 1)]; exact (List.take_append_drop 35 _).symm
  have a3 : cs.drop 36 = (cs.drop 36).take 1 ++ cs.drop 37 := by rw [← List.drop_drop (i := 1) (j := 36)]; exact (List.take_append_drop 1 _).symm
  have a4 : cs.drop 37 = (cs.drop 37).take 1 ++ cs.drop 38 := by rw [← List.drop_drop (i := 1) (j := 37)]; exact (List.take_append_drop 1 _).symm
  have a5 : cs.drop 38 = (cs.drop 38).take 1 := by rw [List.take_of_length_le]; rw [List.length_drop]; omega
  rw [a1, e0, a2, e1, a3, e2, a4, e3, a5, e4]; rfl
set_option maxRecDepth 100000 in
theorem open_op {fuel : Nat} {cs : List Value} {x : DataW H × List MemPlace} (hf : DataW.trod enc Try.prog W 0 (fun _ => true) true fuel 33 cs = some x) : ∃ o : OpZ, cs = ozc o ∧ (SlR W o.2.1.2.2.2.1.1 (byts o.2.1.2.2.1) ∧ o.2.1.2.2.1.length ≤ o.2.1.2.2.2.1.2 ∧ oOk0 o) ∧ ((∀ k ∈ x.1.weights Try.prog 33, k ≤ R) → o.2.1.2.1.size ≤ R ∧ o.2.2.1.size ≤ R) := by
  obtain ⟨y0, y1, y2, y3, y4, n', hx, hlen, t0, t1, t2, t3, t4⟩ := trod_struct5 Try.underlying33 hf
  have h33 : Try.prog.cellsOf 33 = 39 := by kernel_rfl
  have h3 : Try.prog.cellsOf 3 = 1 := by kernel_rfl
  have h9 : Try.prog.cellsOf 9 = 1 := by kernel_rfl
  have h31 : Try.prog.cellsOf 31 = 35 := by kernel_rfl
  have h24 : Try.prog.cellsOf 24 = 1 := by kernel_rfl
  rw [h33] at hlen
  rw [h3] at t0
  rw [h31] at t1
  rw [h9] at t2
  rw [h24] at t3 t4
  obtain ⟨i, e0, _⟩ := DataW.trod_int Try.underlying3 t0
  obtain ⟨q, e1, ⟨q1, q2, q3⟩, q4⟩ := open_req (R := R) t1
  obtain ⟨s, e2, e2'⟩ := DataW.trod_string Try.underlying9 t2
  obtain ⟨n, e3⟩ := open_u64 Try.underlying24 t3
  obtain ⟨m, e4⟩ := open_u64 Try.underlying24 t4
  refine ⟨(i, q, s, n, m), op_cells hlen (qc_len q3) e0 e1 e2 e3 e4, ⟨q1, q2, q3⟩, fun hw => ⟨q4 fun k hk => hw k ?_, hw _ ?_⟩⟩
  · rw [hx]; unfold DataW.weights; rw [Try.underlying33]
    exact DataW.weights_mem_each (j := 1) rfl rfl k hk
  · rw [hx]; unfold DataW.weights; rw [Try.underlying33]
    refine DataW.weights_mem_each (j := 2) rfl rfl _ ?_
    rw [e2'.1]; exact List.mem_singleton.2 rfl
theorem tr_dir {v : Array Value} {x : DataW H × List MemPlace} (hw : ∀ k ∈ x.1.weights Try.prog 26, k ≤ 140737488351232) (h : ∃ fuel, DataW.trod enc Try.prog W 0 (fun _ => true) true fuel 26 (Value.agg v).cells.toList = some x) : ∃ d : DirZ, v.toList = dcell d ∧ Has W (dfx d) ∧ dOk1 d := by obtain ⟨f, hf⟩ := h; exact open_dir hf hw
theorem tr_op {v : Array Value} {x : DataW H × List MemPlace} (hw : ∀ k ∈ x.1.weights Try.prog 33, k ≤ 140737488351232) (h : ∃ fuel, DataW.trod enc Try.prog W 0 (fun _ => true) true fuel 33 (Value.agg v).cells.toList = some x) : ∃ o : OpZ, v.toList = ozc o ∧ Has W [rfx o.2.1] ∧ oOk1 o := by
  obtain ⟨f, hf⟩ := h
  obtain ⟨o, e, ⟨h1, h2, h3⟩, h4⟩ := open_op (R := 140737488351232) hf
  obtain ⟨m1, m2⟩ := h4 hw
  exact ⟨o, e, fun f hf => by obtain rfl := List.mem_singleton.1 hf; exact h1, by omega, h2, h3, by omega⟩
theorem tr_ops {a : Option Addr} {len cap : Nat} {x : DataW H × List MemPlace} (hw : ∀ k ∈ x.1.weights Try.prog 36, k ≤ 140737488351232) (h : ∃ fuel, DataW.trod enc Try.prog W 0 (fun _ => true) true fuel 36 (Value.slice a len cap).cells.toList = some x) :
    ∃ os : List OpZ, SlR W a (fcat ozc os) ∧ Has W (os.map ofx) ∧ (∀ o ∈ os, oOk1 o) ∧ os.length = len := by
  obtain ⟨fuel, hf⟩ := h
  obtain ⟨os, h1, h2, h3⟩ := open_list (α := OpS) (fun s => ozc s.1) (fun s d => (SlR W s.1.2.1.2.2.2.1.1 (byts s.1.2.1.2.2.1) ∧ s.1.2.1.2.2.1.length ≤ s.1.2.1.2.2.2.1.2) ∧ ((∀ k ∈ d.weights Try.prog 33, k ≤ 140737488351232) → s.1.2.1.2.1.size ≤ 140737488351232 ∧ s.1.2.2.1.size ≤ 140737488351232)) Try.underlying36 (sz := 39) (by kernel_rfl) (by omega)
    (fun s => oz_len (l := [s.1]) (fun x hx => by obtain rfl := List.mem_singleton.1 hx; exact s.2) s.1 (List.mem_singleton.2 rfl)) (fun fuel cs y h => by
      obtain ⟨z, ez, ⟨z1, z2, z3⟩, z4⟩ := open_op h
      exact ⟨⟨z, z3⟩, ez, ⟨z1, z2⟩, z4⟩) hf
  rw [fcat_sub] at h2
  refine ⟨os.map (·.1), h2, fun f hf => ?_, fun o ho => ?_, by rw [List.length_map]; exact h1⟩
  · obtain ⟨o, ho, rfl⟩ := List.mem_map.1 hf
    obtain ⟨s, hs, rfl⟩ := List.mem_map.1 ho
    exact (h3 s hs).elim fun d k => k.1.1.1
  · obtain ⟨s, hs, rfl⟩ := List.mem_map.1 ho
    obtain ⟨d, ⟨⟨k1, k2⟩, k4⟩, k5⟩ := h3 s hs
    obtain ⟨m1, m2⟩ := k4 fun k hk => hw k (k5 k hk)
    exact ⟨by omega, k2, s.2, by omega⟩
theorem u64_v {z : Int} (h : (Lit.int .u64 z).wf = true) : Value.int .u64 z = v64 (UInt64.ofNat z.toNat) := by
  have h1 : IntKind.u64.min = 0 := by decide
  have h2 : IntKind.u64.max = 18446744073709551615 := by decide
  simp [Lit.wf] at h
  unfold v64
  rw [ofNat_toNat64 (by omega)]
  congr 1; omega
end
end Go.Proofs.Ytkifeeiafachpaa
