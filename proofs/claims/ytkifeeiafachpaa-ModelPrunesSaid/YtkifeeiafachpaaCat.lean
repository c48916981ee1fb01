/- Rows of structs that are read; strings' order; functions without a body. Nothing of the program stands here. -/
import Derived.Test.YtkifeeiafachpaaAr
import Derived.Lib.Bytealg
import Derived.Lib.Overlaps
import Derived.Lib.AppendZerosOnto
import Derived.Laws.Externs
set_option linter.unusedVariables false
set_option linter.unusedSimpArgs false
namespace Go.Bz
open Go Go.RowKit

variable {X : Cx} {ops : Array Oper} {rest : List Oper} {Q Q' : Exit → Act → World → Prop} {L L' : List (Nat × Value)} {Fs Fs' : List Pc}
variable {K : Nat → Prop} {w0 w w' wb : World} {C : List (Nat × Value) → List Pc → Prop} {g : Option (Nat × Bool)} {P : Program} {n : Nat}

/-! ### rows of things of sz cells each -/
def fcat {α : Type} (f : α → List Value) (l : List α) : List Value := l.flatMap f
theorem fcat_nil {α : Type} (f : α → List Value) : fcat f [] = [] := rfl
theorem fcat_cons {α : Type} (f : α → List Value) (x : α) (l : List α) : fcat f (x :: l) = f x ++ fcat f l := by simp [fcat]
theorem fcat_app {α : Type} (f : α → List Value) (a b : List α) : fcat f (a ++ b) = fcat f a ++ fcat f b := by simp [fcat]
theorem fcat_one {α : Type} (f : α → List Value) (x : α) : fcat f [x] = f x := by simp [fcat]
theorem fcat_len {α : Type} {f : α → List Value} {sz : Nat} : ∀ {l : List α}, (∀ x ∈ l, (f x).length = sz) → (fcat f l).length = l.length * sz
  | [], _ => by simp [fcat]
  | x :: l, h => by
    rw [fcat_cons, List.length_append, h x (List.mem_cons_self ..), fcat_len fun y hy => h y (List.mem_cons_of_mem _ hy), List.length_cons, Nat.succ_mul, Nat.add_comm]
theorem fcat_drop {α : Type} {f : α → List Value} {sz : Nat} : ∀ {l : List α}, (∀ x ∈ l, (f x).length = sz) → ∀ i, (fcat f l).drop (i * sz) = fcat f (l.drop i)
  | [], _, i => by simp [fcat]
  | x :: l, h, 0 => by simp
  | x :: l, h, i + 1 => by
    rw [fcat_cons, List.drop_succ_cons, ← fcat_drop (fun y hy => h y (List.mem_cons_of_mem _ hy)) i, Nat.succ_mul, Nat.add_comm, ← List.drop_drop, List.drop_left' (h x (List.mem_cons_self ..))]
theorem fcat_take {α : Type} {f : α → List Value} {sz : Nat} : ∀ {l : List α}, (∀ x ∈ l, (f x).length = sz) → ∀ i, (fcat f l).take (i * sz) = fcat f (l.take i)
  | [], _, i => by simp [fcat]
  | x :: l, h, 0 => by simp [fcat]
  | x :: l, h, i + 1 => by
    have hx := h x (List.mem_cons_self ..)
    rw [fcat_cons, List.take_succ_cons, fcat_cons, ← fcat_take (fun y hy => h y (List.mem_cons_of_mem _ hy)) i, Nat.succ_mul, Nat.add_comm, List.take_append, hx, List.take_of_length_le (by omega), show sz + i * sz - sz = i * sz by omega]
theorem fcat_at {α : Type} {f : α → List Value} {sz : Nat} {l : List α} (h : ∀ x ∈ l, (f x).length = sz) (i : Nat) (hi : i < l.length) : ((fcat f l).drop (i * sz)).take sz = f l[i] := by
  rw [fcat_drop h i, List.drop_eq_getElem_cons hi, fcat_cons, List.take_left' (h _ (List.getElem_mem _))]
theorem fcat_get {α : Type} {f : α → List Value} {sz : Nat} {l : List α} (h : ∀ x ∈ l, (f x).length = sz) (i : Nat) (hi : i < l.length) (k : Nat) (hk : k < sz) : (fcat f l)[i * sz + k]? = (f l[i])[k]? := by
  rw [← fcat_at h i hi, List.getElem?_take, if_pos hk, List.getElem?_drop]
theorem fcat_one' {α : Type} {f : α → List Value} {l : List α} (h : ∀ x ∈ l, (f x).all Value.oneCell' = true) : (fcat f l).all Value.oneCell' = true := by
  induction l with
  | nil => rfl
  | cons x l ih => rw [fcat_cons, List.all_append, h x (List.mem_cons_self ..), ih fun y hy => h y (List.mem_cons_of_mem _ hy)]; rfl
theorem fcat_set {α : Type} {f : α → List Value} {sz : Nat} {l : List α} (h : ∀ x ∈ l, (f x).length = sz) (i : Nat) (hi : i < l.length) (y : α) : fcat f (l.set i y) = (fcat f l).take (i * sz) ++ (f y ++ (fcat f l).drop (i * sz + sz)) := by
  rw [List.set_eq_take_append_cons_drop, if_pos hi, fcat_app, fcat_cons, fcat_take h, show i * sz + sz = (i + 1) * sz by rw [Nat.succ_mul], fcat_drop h]
theorem Cells.fcat {α : Type} {f : α → List Value} {sz b o : Nat} {l : List α} (hC : Cells w b o (fcat f l)) (h : ∀ x ∈ l, (f x).length = sz) (i : Nat) (hi : i < l.length) : Cells w b (o + i * sz) (f l[i]) := fun k u hk => by
  have hl : k < sz := by have := (List.getElem?_eq_some_iff.1 hk).1; rw [h _ (List.getElem_mem hi)] at this; exact this
  have := hC (i * sz + k) u (by rw [fcat_get h i hi k hl]; exact hk)
  rwa [← Nat.add_assoc] at this
theorem Cells.sub {b o : Nat} {us : List Value} (hC : Cells w b o us) (q : Nat) (vs : List Value) (h : ∀ k u, vs[k]? = some u → us[q + k]? = some u) : Cells w b (o + q) vs := fun k u hk => by
  have := hC (q + k) u (h k u hk)
  rwa [← Nat.add_assoc] at this
theorem slr_some {A : Option Addr} {us : List Value} (h : SlR w A us) (hn : us ≠ []) : ∃ b o, A = some ⟨b, o, none⟩ ∧ Cells w b o us := h.resolve_left hn
theorem fcat_ne {α : Type} {f : α → List Value} {sz : Nat} {l : List α} (h : ∀ x ∈ l, (f x).length = sz) (hz : 0 < sz) {i : Nat} (hi : i < l.length) : Bz.fcat f l ≠ [] := fun e => by
  have h1 := fcat_len h
  rw [e, List.length_nil] at h1
  rcases Nat.mul_eq_zero.1 h1.symm with h2 | h2 <;> omega

/-! ### facts -/
def Has (w : World) (l : List Fact) : Prop := ∀ f ∈ l, SlR w f.1 f.2
theorem Has.lift {l : List Fact} (h : Has w0 l) (hh : Hd noB w0 w Fs) : Has w l := fun f hf => hh.rd0n (h f hf)
/-- known: it lay there when the call began, or lies in the frozen piece -/
theorem Hd.kn {k : Nat} {F : List Fact} (h : Hd noB w0 w Fs) (e : Fs[k]? = some (Bz.frzN F)) {I l : List Fact} (hI : Has w0 I) (hs : ∀ f ∈ l, f ∈ F ∨ f ∈ I) : Has w l := fun f hf =>
  (hs f hf).elim (fun hf => h.frzN e f hf) (fun hf => h.rd0n (hI f hf))
theorem Hd.rdE {hw0 : World} {b o : Nat} {us : List Value} (hC : Cells w0 b o us) (w : World) (h : Hd noB w0 w Fs) : Cells w b o us := Hd.cells0 hC (fun x => x) w h

/-! ### strings' order -/
def nlt (a b : ByteArray) : Prop := a.data.toList < b.data.toList
instance (a b : ByteArray) : Decidable (nlt a b) := inferInstanceAs (Decidable (a.data.toList < b.data.toList))
theorem bl_eq : ∀ (x y : List UInt8), Op.bytesLess x y = decide (x < y)
  | x, [] => by cases x <;> simp [Op.bytesLess]
  | [], b :: y => by simp [Op.bytesLess]
  | a :: x, b :: y => by
    simp only [Op.bytesLess, bl_eq x y, List.cons_lt_cons_iff]
    by_cases h1 : a < b <;> by_cases h2 : a = b <;> simp [h1, h2]
theorem nlt_irrefl (a : ByteArray) : ¬ nlt a a := List.lt_irrefl _
theorem nlt_trans {a b c : ByteArray} (h : nlt a b) (k : nlt b c) : nlt a c := List.lt_trans h k
theorem nlt_total {a b : ByteArray} (h : ¬ nlt a b) (k : ¬ nlt b a) : a = b := by
  have e : a.data.toList = b.data.toList := List.le_antisymm (List.not_lt.1 k) (List.not_lt.1 h)
  cases a; cases b; simpa [Array.toList_inj] using e
theorem nlt_asymm {a b : ByteArray} (h : nlt a b) : ¬ nlt b a := fun k => nlt_irrefl a (nlt_trans h k)
theorem nlt_ne {a b : ByteArray} (h : nlt a b) : a ≠ b := fun e => by subst e; exact nlt_irrefl _ h
theorem rv_geqS {t t' ty : TypeId} {x y : Operand} {a b : ByteArray} (ex : ev L x = some (.string a)) (ey : ev L y = some (.string b)) : RV P K w0 n L Fs (.binOp .geq t x y t') ty (.bool (decide (¬ nlt a b))) :=
  rv_bin ex ey fun w => by
    have : (!Op.bytesLess a.toList b.toList) = decide (¬ nlt a b) := by
      rw [Lib.toList_data, Lib.toList_data, bl_eq]; by_cases h : nlt a b
      · rw [decide_eq_true (show a.data.toList < b.data.toList from h)]; simp [h]
      · rw [decide_eq_false (show ¬ a.data.toList < b.data.toList from h)]; simp [h]
    simp [eqGuard, binOp, Op.stringOp, this, go_sem]
theorem rv_leqS {t t' ty : TypeId} {x y : Operand} {a b : ByteArray} (ex : ev L x = some (.string a)) (ey : ev L y = some (.string b)) : RV P K w0 n L Fs (.binOp .leq t x y t') ty (.bool (decide (¬ nlt b a))) :=
  rv_bin ex ey fun w => by
    have : (Op.bytesLess a.toList b.toList || a.toList == b.toList) = decide (¬ nlt b a) := by
      rw [Lib.toList_data, Lib.toList_data, bl_eq]; by_cases h : nlt b a
      · have h1 : ¬ a.data.toList < b.data.toList := fun k => nlt_asymm h k
        have h2 : a.data.toList ≠ b.data.toList := fun e => by unfold nlt at h; rw [e] at h; exact List.lt_irrefl _ h
        have h3 : (a.data.toList == b.data.toList) = false := by simpa using h2
        rw [h3]; simp [h, h1]
      · by_cases h1 : a.data.toList < b.data.toList
        · simp [h, h1]
        · have h2 : a.data.toList = b.data.toList := by rw [nlt_total (a := a) (b := b) h1 h]
          simp [h, h2]
    simp [eqGuard, binOp, Op.stringOp, this, go_sem]
theorem cmp_lt : ∀ (a b : List UInt8), Lib.compareBytes a b < 0 ↔ a < b
  | [], [] => by simp [Lib.compareBytes]
  | [], _ :: _ => by simp [Lib.compareBytes]
  | _ :: _, [] => by simp [Lib.compareBytes]
  | a :: x, b :: y => by
    unfold Lib.compareBytes
    rw [List.cons_lt_cons_iff]
    by_cases h1 : a < b
    · simp [h1]
    · by_cases h2 : b < a
      · have : a ≠ b := fun e => by subst e; exact h1 h2
        simp [h1, h2, this]
      · have e : a = b := UInt8.le_antisymm (UInt8.not_lt.1 h2) (UInt8.not_lt.1 h1)
        simp [h1, h2, e, cmp_lt x y]
theorem cmp_eq0 : ∀ (a b : List UInt8), Lib.compareBytes a b = 0 ↔ a = b
  | [], [] => by simp [Lib.compareBytes]
  | [], _ :: _ => by simp [Lib.compareBytes]
  | _ :: _, [] => by simp [Lib.compareBytes]
  | a :: x, b :: y => by
    unfold Lib.compareBytes
    by_cases h1 : a < b
    · have : a ≠ b := fun e => by subst e; exact UInt8.lt_irrefl _ h1
      simp [h1, this]
    · by_cases h2 : b < a
      · have : a ≠ b := fun e => by subst e; exact h1 h2
        simp [h1, h2, this]
      · have e : a = b := UInt8.le_antisymm (UInt8.not_lt.1 h2) (UInt8.not_lt.1 h1)
        simp [h1, h2, e, cmp_eq0 x y]
def ncmp (a b : ByteArray) : Int := Lib.compareBytes a.data.toList b.data.toList
theorem ncmp_lt {a b : ByteArray} : ncmp a b < 0 ↔ nlt a b := cmp_lt _ _
theorem ncmp_eq {a b : ByteArray} : ncmp a b = 0 ↔ a = b := by
  unfold ncmp
  rw [cmp_eq0]
  constructor
  · intro e; cases a; cases b; simpa [Array.toList_inj] using e
  · intro e; rw [e]

/-! ### functions without a body; room -/
/-- a call of a function without a body, that leaves the world as it was -/
theorem rv_ext {f : Nat} {ty : TypeId} {xs : List Operand} {vs : List Value} {ats : Array TypeId} {v : Value} (e : evs L xs = some vs) (hr : ∀ w, Hd K w0 w Fs → (callFunc f vs.toArray).run P w = .ok (.value v) w) :
    RV P K w0 n L Fs (.call { callee := .value (.func f), args := xs.toArray, argTypes := ats }) ty v := fun w a hs hf d pos af g => by
  have hx := evs_eval hf e
  simp only [execOp, resolve, List.map_toArray, hx]
  have he : a.eval (.func f) = .func (.func f) #[] #[] := rfl
  rw [he]
  simp only [Deferred.ofValue, invoke, Sem.run_bind, Sem.run_pure, Result.andThen_ok, Array.empty_append, Array.append_empty, hr w hs]
theorem rv_cap {t E : TypeId} {ty : TypeId} {x : Operand} (hu : P.underlying t = some (.slice E)) {A : Option Addr} {l c : Nat} (ex : ev L x = some (.slice A l c)) : RV P K w0 n L Fs (.call { callee := .builtin .cap, args := #[x], argTypes := #[t] }) ty (.int .i64 c) := fun w a hs hf d pos af g => by
  simp only [execOp, resolve, List.map_toArray, List.map_cons, List.map_nil, hf.ev ex]; simp [invoke, builtin, Builtin.cap_, run_underlying hu, go_sem]
/-- a row's block, with the spare room behind it -/
theorem St.rowCl {k b n' E sz c : Nat} {xs : List Value} (h : St K w0 w Fs) (e : Fs[k]? = some (Pc.row (some ⟨b, 0, none⟩) c E sz n' xs)) :
    ∃ rest, (xs ++ rest).length = c * sz ∧ xs.length = n' * sz ∧ n' ≤ c ∧ c ≤ maxLen ∧ St K w0 w (Fs.set k (Pc.cl b (xs ++ rest) E)) := by
  obtain ⟨S, hA, hb⟩ := h.get e
  rcases hA.2.2 with ⟨h1, _⟩ | ⟨g, cap, cur, h1, _, h2, h3, h4, h5, h6⟩
  · simp at h1
  · simp only [Value.slice.injEq, Option.some.injEq, Addr.mk.injEq] at h1
    obtain ⟨⟨rfl, _, _⟩, _, rfl⟩ := h1
    have e1 : xs ++ cur.toList.drop (n' * sz) = cur.toList := by rw [← h6]; exact List.take_append_drop _ _
    refine ⟨cur.toList.drop (n' * sz), by rw [e1]; simpa using h5, hA.2.1, h3, h4, ?_⟩
    refine h.weak e fun S' hA' hb' => ⟨S', ⟨fun x => by rw [hA'.1 x]; simp [Value.ownBlock]; exact ⟨fun h => h.symm, fun h => h.symm⟩, ?_⟩, fun _ h => h⟩
    rcases hA'.2.2 with ⟨q1, _⟩ | ⟨g', cap', cur', q1, _, q2, _⟩
    · simp at q1
    · simp only [Value.slice.injEq, Option.some.injEq, Addr.mk.injEq] at q1
      obtain ⟨⟨rfl, _, _⟩, _, _⟩ := q1
      rw [q2] at h2 ⊢
      simp only [Option.some.injEq, Obj.cells.injEq] at h2
      rw [e1, h2.1]
theorem GC.rowCl {X : Cx} {c : Code} {k b n' E sz cc : Nat} {xs : List Value} (e : Fs[k]? = some (Pc.row (some ⟨b, 0, none⟩) cc E sz n' xs))
    (h : ∀ rest, (xs ++ rest).length = cc * sz → xs.length = n' * sz → n' ≤ cc → cc ≤ maxLen → GC X c Q L (Fs.set k (Pc.cl b (xs ++ rest) E))) : GC X c Q L Fs := fun w a hs hf => by
  obtain ⟨rest, h1, h2, h3, h4, h5⟩ := hs.rowCl e
  exact h rest h1 h2 h3 h4 w a h5 hf
/-- a block of cells as a row of n' things, with spare room behind them -/
theorem St.clRowC {k b E sz n' c : Nat} {cs xs : List Value} (h : St K w0 w Fs) (e : Fs[k]? = some (Pc.cl b cs E)) (hl : cs.length = c * sz) (hn : n' ≤ c) (hm : c ≤ maxLen) (hx : cs.take (n' * sz) = xs) : St K w0 w (Fs.set k (Pc.row (some ⟨b, 0, none⟩) c E sz n' xs)) :=
  h.weak e fun S hA hb => ⟨S, ⟨fun x => by rw [hA.1 x]; simp [Value.ownBlock]; exact ⟨fun h => h.symm, fun h => h.symm⟩, by
      rw [← hx, List.length_take, hl]; exact Nat.min_eq_left (Nat.mul_le_mul_right _ hn), .inr ⟨b, c, cs.toArray, rfl, Nat.zero_le _, hA.2, hn, hm, by simp [hl], by simpa using hx⟩⟩, fun _ h => h⟩
/-- append(s[:i], make([]E, k)...) where there is no room: a block of its own -/
theorem ot_appendZ {d t tn E sz by_ i c k : Nat} {kn kq : IntKind} {x y : Operand} {ty : TypeId} {pos : String} {af : Array Edge} {A : Option Addr} {olds : List Value} (hE : elemInfo X.P t = some (E, sz, by_)) (htn : X.P.underlying tn = some (.int kn))
    (ex : ev L x = some (.slice A i c)) (ey : ev L y = some (.int kq (k : Int))) (hr : ∀ w, Hd X.K X.w0 w Fs → SlR w A olds) (ho : olds.length = i * sz) (h0 : 0 < k) (hg : c < i + k) (hb : (i + k) * by_ ≤ 140737488355328) (hby : 0 < by_) (hd : Nat.ble (d + 1) X.n = true)
    (h : ∀ b c' rest, (olds ++ rest).length = c' * sz → i + k ≤ c' → c' ≤ maxLen → C ((d, .slice (some ⟨b, 0, none⟩) (i + k) c') :: L) (Pc.cl b (olds ++ rest) E :: Fs)) :
    OT X ⟨some d, .call { callee := .builtin .append, args := #[x, y], argTypes := #[t, tn] }, ty, pos, af, g⟩ L Fs C :=
  ot_eff (γ := Nat × Nat × List Value) (Φ := fun g => (olds ++ g.2.2).length = g.2.1 * sz ∧ i + k ≤ g.2.1 ∧ g.2.1 ≤ maxLen) (v := fun g => .slice (some ⟨g.1, 0, none⟩) (i + k) g.2.1) (H := fun g => Pc.cl g.1 (olds ++ g.2.2) E :: Fs) (fun w a hs hf => by
    obtain ⟨inf, z, hu, hi, hz, hsz, hby', hzs, hpos⟩ := elemInfo_spec hE
    subst hsz hby'
    have hmax : i + k ≤ maxLen := by
      have : i + k ≤ (i + k) * inf.bytes := Nat.le_mul_of_pos_right _ hby
      unfold maxLen; omega
    have hk48 : k * inf.bytes ≤ 281474976710656 := by
      have : k * inf.bytes ≤ (i + k) * inf.bytes := Nat.mul_le_mul_right _ (by omega)
      omega
    have hold : (Builtin.firstCells inf.size i (.slice A i c)).run X.P w.drew = .ok olds.toArray w.drew := by
      rcases (hr w hs.hd) with h0' | ⟨b', o', rfl, hcl⟩
      · subst h0'
        have hm0 : i * inf.size = 0 := by simpa using ho.symm
        cases A <;> simp [Builtin.firstCells, hm0, loadCells, loadCellsFrom, go_sem]
      · have := run_loadCells_list (P := X.P) w.drew ⟨b', o', none⟩ olds (fun j v hv => by rw [addr_add]; exact hcl j v hv)
        rw [ho] at this
        simpa [Builtin.firstCells] using this
    have hrun := Lib.run_append_grow_zeros w t tn ty E inf z kq kn hu htn hi hz A i c olds hold k h0 hpos hg (by unfold maxLen at hmax; omega) hk48 (growslice_fits hg hb)
    have hge := grownCap_ge w (i + k) c E
    have hle := grownCap_le_maxLen w (i + k) c E hmax
    generalize grownCap w (i + k) c E = c' at hrun hge hle
    have ecells : olds.toArray ++ Builtin.zeroCells z.cells k ++ Builtin.zeroCells z.cells (c' - (i + k)) = (olds ++ ((Builtin.zeroCells z.cells k).toList ++ (Builtin.zeroCells z.cells (c' - (i + k))).toList)).toArray := by
      apply Array.toList_inj.1; simp
    rw [ecells] at hrun
    refine ⟨(w.heap.size, c', (Builtin.zeroCells z.cells k).toList ++ (Builtin.zeroCells z.cells (c' - (i + k))).toList), w.drew.alloc (.cells (olds ++ ((Builtin.zeroCells z.cells k).toList ++ (Builtin.zeroCells z.cells (c' - (i + k))).toList)).toArray E), ?_, ?_, ?_, hge, hle⟩
    · simp only [execOp, resolve, List.map_toArray, List.map_cons, List.map_nil, hf.ev ex, hf.ev ey, invoke, builtin, Sem.run_bind, Sem.run_pure, Result.andThen_ok, hrun]
    · exact (hs.grow (Upd.drew w)).alloc _ _
    · simp only [List.length_append, Array.length_toList, size_zeroCells, hzs, ho]
      rw [← Nat.add_mul, ← Nat.add_mul]; congr 1; omega) hd fun g hg => h g.1 g.2.1 g.2.2 hg.1 hg.2.1 hg.2.2
/-- a struct into a row -/
theorem ot_storeRowA {k b o T E sz n' cap : Nat} {x y : Operand} {ty : TypeId} {pos : String} {af : Array Edge} {v : Value} {xs vs xs' : List Value} (ex : ev L x = some (.pointer (some ⟨b, o, none⟩))) (ey : ev L y = some v)
    (hk : Fs[k]? = some (Pc.row (some ⟨b, 0, none⟩) cap E sz n' xs)) (hv : v.cells = vs.toArray) (hz : (X.P.info? T).map (·.size) = some vs.length) (h1 : vs.all Value.oneCell' = true) (hl : o + vs.length ≤ xs.length) (hcs : xs.take o ++ vs ++ xs.drop (o + vs.length) = xs')
    (h : C L (Fs.set k (Pc.row (some ⟨b, 0, none⟩) cap E sz n' xs'))) : OT X ⟨none, .store T x y, ty, pos, af, g⟩ L Fs C :=
  ot_eff0 (fun w a hs hf => by
    obtain ⟨w', hr, hs'⟩ := row_store (P := X.P) (o := o) (vs := vs) hs hk h1 hl
    rw [hcs] at hs'
    refine ⟨w', ?_, hs'⟩
    obtain ⟨inf, hi, hh⟩ := Option.map_eq_some_iff.1 hz
    simp only [execOp, hf.ev ex, hf.ev ey, Instr.storeAt, Instr.sureAddr, Sem.run_bind, Sem.run_pure, Result.andThen_ok]
    unfold storeVar
    rw [Sem.run_bind, run_sizeOf hi]
    simp only [Result.andThen_ok, hv, hh, List.size_toArray, ne_eq, not_true_eq_false, if_false]
    simp [hr, Sem.run_bind, Sem.run_pure, Result.andThen_ok]) h
/-- the same where the guard's own operation was left out -/
theorem GD.skipU {Kp : List Pc} {k fuel i d : Nat} {listed : Array Bool} {op : Op} {ty : TypeId} {pos : String} {af : Array Edge} {gd : Option (Nat × Bool)} (hi : ops[i]? = some ⟨some d, op, ty, pos, af, gd⟩) (hg : gskip ops L gd = true)
    (hc : (Region.noSelect ops && Region.free .any ops listed i && (Region.ready .any ops listed).contains i && !(Nat.beq i k) && Nat.ble (d + 1) X.n) = true) (hQ : noPanicPut Q)
    (h : GD X ops Q k Kp fuel (listed.setIfInBounds i true) ((d, undef) :: L) Fs) : GD X ops Q k Kp (fuel + 1) listed L Fs := fun w a hs hf hΦ => by
  simp only [Bool.and_eq_true, Bool.not_eq_true'] at hc
  obtain ⟨⟨⟨⟨c1, c2⟩, c3⟩, c5⟩, c7⟩ := hc
  have hik : i ≠ k := fun e => by subst e; simp at c5
  refine wpAnyS_firstP (oi := ⟨some d, op, ty, pos, af, gd⟩) (v := undef) hi (Region.noSelect_spec c1) (fun c a w => hQ c a _ undef w) hik fuel listed a w (Region.free_spec hi c2) (by simpa using c3) (.inr ⟨wanted_gskip hf (o := ⟨some d, op, ty, pos, af, gd⟩) hg, rfl⟩) hΦ ?_
  exact h w _ hs (hf.put (Nat.le_of_ble_eq_true c7) undef) (by rw [getD_set_ne false hik]; exact hΦ)
/-- the same, with what is alike at every use as a default -/
theorem GD.pure1 {Kp : List Pc} {k fuel : Nat} {listed : Array Bool} {i d : Nat} {op : Op} {ty : TypeId} {pos : String} {af : Array Edge} {v : Value} (hi : ops[i]? = some ⟨some d, op, ty, pos, af, none⟩) (hv : ∀ K w0, RV X.P K w0 X.n L [] op ty v)
    (h : GD X ops Q k Kp fuel (listed.setIfInBounds i true) ((d, v) :: L) Fs)
    (hc : (Region.noSelect ops && Region.free .any ops listed i && (Region.ready .any ops listed).contains i && !(Nat.beq i k) && Nat.ble (d + 1) X.n) = true := by kernel_rfl) (hQ : noPanicPut Q := by repeat (first | exact noPanicPut_body | exact noPanicPut_cut | exact noPanicPut_cutE | refine noPanicPut_then ?_ | refine noPanicPut_blk ?_)) : GD X ops Q k Kp (fuel + 1) listed L Fs := GD.pure hi hv hc hQ h
theorem GD.read1 {Kp : List Pc} {k fuel : Nat} {listed : Array Bool} {i d : Nat} {op : Op} {ty : TypeId} {pos : String} {af : Array Edge} {v : Value} (hi : ops[i]? = some ⟨some d, op, ty, pos, af, none⟩) (hv : RV X.P X.K X.w0 X.n L Kp op ty v)
    (h : GD X ops Q k Kp fuel (listed.setIfInBounds i true) ((d, v) :: L) Fs)
    (hc : (Region.noSelect ops && Region.free .any ops listed i && (Region.ready .any ops listed).contains i && !(listed.getD k false) && !(Nat.beq i k) && waits ops k i && Nat.ble (d + 1) X.n) = true := by kernel_rfl) (hQ : noPanicPut Q := by repeat (first | exact noPanicPut_body | exact noPanicPut_cut | exact noPanicPut_cutE | refine noPanicPut_then ?_ | refine noPanicPut_blk ?_)) : GD X ops Q k Kp (fuel + 1) listed L Fs := GD.read hi hv hc hQ h
theorem GD.pureG1 {Kp : List Pc} {k fuel : Nat} {listed : Array Bool} {i d : Nat} {op : Op} {ty : TypeId} {pos : String} {af : Array Edge} {gd : Option (Nat × Bool)} {v : Value} (hi : ops[i]? = some ⟨some d, op, ty, pos, af, gd⟩) (hg : gval ops L gd = some true) (hv : ∀ K w0, RV X.P K w0 X.n L [] op ty v)
    (h : GD X ops Q k Kp fuel (listed.setIfInBounds i true) ((d, v) :: L) Fs)
    (hc : (Region.noSelect ops && Region.free .any ops listed i && (Region.ready .any ops listed).contains i && !(Nat.beq i k) && Nat.ble (d + 1) X.n) = true := by kernel_rfl) (hQ : noPanicPut Q := by repeat (first | exact noPanicPut_body | exact noPanicPut_cut | exact noPanicPut_cutE | refine noPanicPut_then ?_ | refine noPanicPut_blk ?_)) : GD X ops Q k Kp (fuel + 1) listed L Fs := GD.pureG hi hg hv hc hQ h
theorem GD.readG1 {Kp : List Pc} {k fuel : Nat} {listed : Array Bool} {i d : Nat} {op : Op} {ty : TypeId} {pos : String} {af : Array Edge} {gd : Option (Nat × Bool)} {v : Value} (hi : ops[i]? = some ⟨some d, op, ty, pos, af, gd⟩) (hg : gval ops L gd = some true) (hv : RV X.P X.K X.w0 X.n L Kp op ty v)
    (h : GD X ops Q k Kp fuel (listed.setIfInBounds i true) ((d, v) :: L) Fs)
    (hc : (Region.noSelect ops && Region.free .any ops listed i && (Region.ready .any ops listed).contains i && !(listed.getD k false) && !(Nat.beq i k) && waits ops k i && Nat.ble (d + 1) X.n) = true := by kernel_rfl) (hQ : noPanicPut Q := by repeat (first | exact noPanicPut_body | exact noPanicPut_cut | exact noPanicPut_cutE | refine noPanicPut_then ?_ | refine noPanicPut_blk ?_)) : GD X ops Q k Kp (fuel + 1) listed L Fs := GD.readG hi hg hv hc hQ h
theorem GD.skipG1 {Kp : List Pc} {k fuel i d : Nat} {listed : Array Bool} {op : Op} {ty : TypeId} {pos : String} {af : Array Edge} {gd : Option (Nat × Bool)} (hi : ops[i]? = some ⟨some d, op, ty, pos, af, gd⟩) (hg : gval ops L gd = some false)
    (h : GD X ops Q k Kp fuel (listed.setIfInBounds i true) ((d, undef) :: L) Fs)
    (hc : (Region.noSelect ops && Region.free .any ops listed i && (Region.ready .any ops listed).contains i && !(Nat.beq i k) && Nat.ble (d + 1) X.n) = true := by kernel_rfl) (hQ : noPanicPut Q := by repeat (first | exact noPanicPut_body | exact noPanicPut_cut | exact noPanicPut_cutE | refine noPanicPut_then ?_ | refine noPanicPut_blk ?_)) : GD X ops Q k Kp (fuel + 1) listed L Fs := GD.skipG hi hg hc hQ h
theorem GD.skipU1 {Kp : List Pc} {k fuel i d : Nat} {listed : Array Bool} {op : Op} {ty : TypeId} {pos : String} {af : Array Edge} {gd : Option (Nat × Bool)} (hi : ops[i]? = some ⟨some d, op, ty, pos, af, gd⟩) (hg : gskip ops L gd = true)
    (h : GD X ops Q k Kp fuel (listed.setIfInBounds i true) ((d, undef) :: L) Fs)
    (hc : (Region.noSelect ops && Region.free .any ops listed i && (Region.ready .any ops listed).contains i && !(Nat.beq i k) && Nat.ble (d + 1) X.n) = true := by kernel_rfl) (hQ : noPanicPut Q := by repeat (first | exact noPanicPut_body | exact noPanicPut_cut | exact noPanicPut_cutE | refine noPanicPut_then ?_ | refine noPanicPut_blk ?_)) : GD X ops Q k Kp (fuel + 1) listed L Fs := GD.skipU hi hg hc hQ h
end Go.Bz
