/- What each operation yields, said of a frame and of separate pieces of memory. Nothing of the program stands here. -/
import Derived.Test.YtkifeeiafachpaaKit
set_option linter.unusedVariables false
set_option linter.unusedSimpArgs false
namespace Go.Bz
open Go Go.RowKit

variable {P : Program} {K : Nat → Prop} {w0 w w' : World} {n : Nat} {L : List (Nat × Value)} {Fs : List Pc}

def RV (P : Program) (K : Nat → Prop) (w0 : World) (n : Nat) (L : List (Nat × Value)) (Fs : List Pc) (op : Op) (ty : TypeId) (v : Value) : Prop :=
  ∀ w a, Hd K w0 w Fs → Fr n L a → ∀ d pos af g, (execOp a.eval ⟨d, op, ty, pos, af, g⟩).run P w = .ok (.value v) w

section
variable {ty : TypeId} {x y i : Operand} {v : Value}

theorem rv_move (e : ev L x = some v) : RV P K w0 n L Fs (.move x) ty v := fun w a hs hf d pos af g => by
  simp only [execOp, hf.ev e]; rfl
theorem rv_assign (e : ev L x = some v) : RV P K w0 n L Fs (.assign x) ty v := fun w a hs hf d pos af g => by
  simp only [execOp, hf.ev e]; rfl
theorem rv_nil {ad : Addr} (e : ev L x = some (.pointer (some ad))) : RV P K w0 n L Fs (.nilCheck x) ty (.pointer (some ad)) := fun w a hs hf d pos af g => by
  simp only [execOp, hf.ev e]; rfl

def fieldOff (P : Program) (s f : Nat) : Option Nat :=
  match P.underlying s with
  | some (.struct fields) => match fields[f]? with
    | some fd => match P.info? fd.type with
      | some i => if i.size = 0 then none else some fd.offset
      | none => none
    | none => none
  | _ => none
theorem rv_field {s f k b o o' : Nat} (hk : fieldOff P s f = some k) (e : ev L x = some (.pointer (some ⟨b, o, none⟩))) (ho : o + k = o') : RV P K w0 n L Fs (.fieldAddr s x f) ty (.pointer (some ⟨b, o', none⟩)) := fun w a hs hf d pos af g => by
  unfold fieldOff at hk
  split at hk <;> try contradiction
  rename_i fields hu
  split at hk <;> try contradiction
  rename_i fd hfd
  split at hk <;> try contradiction
  rename_i inf hi
  split at hk <;> try contradiction
  rename_i hz
  simp only [Option.some.injEq] at hk
  subst hk ho
  have ha : (⟨b, o, none⟩ : Addr).add fd.offset = ⟨b, o + fd.offset, none⟩ := by unfold Addr.add; split <;> simp_all
  simp only [execOp, hf.ev e]; simp [Instr.fieldAt, run_underlying hu, hfd, Instr.sureAddr, fieldPlace, sizeOf, typeInfo, hi, hz, ha, go_sem]

/-- how many cells an element of a slice takes -/
def elemSz (P : Program) (t : TypeId) : Option Nat :=
  match P.underlying t with
  | some (.slice e) => (P.info? e).map (·.size)
  | _ => none
theorem rv_elem {t b o len cap sz : Nat} {kk : IntKind} {iv : Int} (hz : elemSz P t = some sz) (e : ev L x = some (.slice (some ⟨b, o, none⟩) len cap)) (ei : ev L i = some (.int kk iv))
    (h0 : 0 ≤ iv) (h1 : iv < len) : RV P K w0 n L Fs (.indexAddr t x i) ty (.pointer (some ⟨b, o + iv.toNat * sz, none⟩)) := fun w a hs hf d pos af g => by
  unfold elemSz at hz
  split at hz <;> try contradiction
  rename_i E hu
  obtain ⟨inf, hi, rfl⟩ := Option.map_eq_some_iff.1 hz
  have ha : (⟨b, o, none⟩ : Addr).add (iv.toNat * inf.size) = ⟨b, o + iv.toNat * inf.size, none⟩ := by unfold Addr.add; split <;> simp_all
  simp only [execOp, hf.ev e, hf.ev ei]; simp [Instr.indexAt, run_underlying hu, sizeOf, typeInfo, hi, ha, h0, h1, go_sem]
def arrSz (P : Program) (t : TypeId) : Option (Nat × Nat) :=
  match P.underlying t with
  | some (.array m e) => (P.info? e).map fun q => (m, q.size)
  | _ => none
theorem rv_elemA {t b o m sz : Nat} {kk : IntKind} {iv : Int} (hz : arrSz P t = some (m, sz)) (e : ev L x = some (.pointer (some ⟨b, o, none⟩))) (ei : ev L i = some (.int kk iv))
    (h0 : 0 ≤ iv) (h1 : iv < m) : RV P K w0 n L Fs (.indexAddr t x i) ty (.pointer (some ⟨b, o + iv.toNat * sz, none⟩)) := fun w a hs hf d pos af g => by
  unfold arrSz at hz
  split at hz <;> try contradiction
  rename_i m' E hu
  obtain ⟨inf, hi, hh⟩ := Option.map_eq_some_iff.1 hz
  simp only [Prod.mk.injEq] at hh
  obtain ⟨rfl, rfl⟩ := hh
  have ha : (⟨b, o, none⟩ : Addr).add (iv.toNat * inf.size) = ⟨b, o + iv.toNat * inf.size, none⟩ := by unfold Addr.add; split <;> simp_all
  simp only [execOp, hf.ev e, hf.ev ei]; simp [Instr.indexAt, run_underlying hu, sizeOf, typeInfo, hi, ha, h0, h1, go_sem, Instr.sureAddr]

/-! loads -/
def aggB (P : Program) (t : TypeId) : Option Bool := (P.underlying t).map fun | .struct _ | .array _ _ => true | _ => false
theorem run_isAgg {t : TypeId} {b : Bool} (h : aggB P t = some b) (w : World) : (isAgg t).run P w = .ok b w := by
  unfold aggB at h
  obtain ⟨d, hu, hd⟩ := Option.map_eq_some_iff.1 h
  unfold isAgg
  rw [Sem.run_bind, run_underlying hu]
  subst hd
  cases d <;> rfl
theorem rv_load {t : TypeId} {ad : Addr} {u : Value} (ht : aggB P t = some false) (e : ev L x = some (.pointer (some ad))) (hc : ∀ w, Hd K w0 w Fs → w.cell? ad = some u) : RV P K w0 n L Fs (.load t x) ty u := fun w a hs hf d pos af g => by
  simp only [execOp, hf.ev e]; simp [Instr.loadAt, Instr.sureAddr, loadVar, run_isAgg ht, run_load, hc w hs, go_sem]
def Cells (w : World) (b o : Nat) (cs : List Value) : Prop := ∀ j u, cs[j]? = some u → w.cell? ⟨b, o + j, none⟩ = some u
theorem addr_add (b o j : Nat) : (⟨b, o, none⟩ : Addr).add j = ⟨b, o + j, none⟩ := by unfold Addr.add; split <;> simp_all
theorem run_sizeOf {t : TypeId} {inf : TypeInfo} (hi : P.info? t = some inf) (w : World) : (sizeOf t).run P w = .ok inf.size w := by simp [sizeOf, typeInfo, hi, go_sem]
theorem run_loadVar_cells {t : TypeId} {b o : Nat} {cs : List Value} (ht : aggB P t = some true) (hz : (P.info? t).map (·.size) = some cs.length) (hc : Cells w b o cs) : (loadVar t ⟨b, o, none⟩).run P w = .ok (.agg cs.toArray) w := by
  obtain ⟨inf, hi, hh⟩ := Option.map_eq_some_iff.1 hz
  have := run_loadCells_list (P := P) w ⟨b, o, none⟩ cs (fun j v hv => by rw [addr_add]; exact hc j v hv)
  unfold loadVar
  simp only [Sem.run_bind, run_isAgg ht, Result.andThen_ok, if_true, run_sizeOf hi, hh, this]
  rfl
theorem rv_loadA {t : TypeId} {b o : Nat} {cs : List Value} (ht : aggB P t = some true) (e : ev L x = some (.pointer (some ⟨b, o, none⟩)))
    (hc : ∀ w, Hd K w0 w Fs → Cells w b o cs) (hz : (P.info? t).map (·.size) = some cs.length) : RV P K w0 n L Fs (.load t x) ty (.agg cs.toArray) := fun w a hs hf d pos af g => by
  simp only [execOp, hf.ev e, Instr.loadAt, Instr.sureAddr, Sem.run_bind, Sem.run_pure, Result.andThen_ok, run_loadVar_cells ht hz (hc w hs)]

/-! arithmetic -/
theorem rv_bin {op : BinOp} {t t' : TypeId} {u v r : Value} (ex : ev L x = some u) (ey : ev L y = some v)
    (h : ∀ w, (do eqGuard op t x y u v; binOp op t u v : Sem Value).run P w = .ok r w) : RV P K w0 n L Fs (.binOp op t x y t') ty r := fun w a hs hf d pos af g => by
  simp only [execOp, hf.ev ex, hf.ev ey]
  rw [Sem.run_bind, h w]
  rfl
theorem i64_small {z : Int} (h : -9223372036854775808 ≤ z) (h' : z ≤ 9223372036854775807) : IntKind.i64.wrap z = z := IntWalk.i64_in z ⟨h, h'⟩

theorem rv_add {t t' : TypeId} {a b : Int} (ex : ev L x = some (.int .i64 a)) (ey : ev L y = some (.int .i64 b)) (h : -9223372036854775808 ≤ a + b) (h' : a + b ≤ 9223372036854775807) : RV P K w0 n L Fs (.binOp .add t x y t') ty (.int .i64 (a + b)) :=
  rv_bin ex ey fun w => by simp [eqGuard, binOp, Op.intArith, i64_small h h', go_sem]
theorem rv_sub {t t' : TypeId} {a b : Int} (ex : ev L x = some (.int .i64 a)) (ey : ev L y = some (.int .i64 b)) (h : -9223372036854775808 ≤ a - b) (h' : a - b ≤ 9223372036854775807) : RV P K w0 n L Fs (.binOp .sub t x y t') ty (.int .i64 (a - b)) :=
  rv_bin ex ey fun w => by simp [eqGuard, binOp, Op.intArith, i64_small h h', go_sem]
theorem rv_arith {op : BinOp} {k : IntKind} {t t' : TypeId} {a b : Int} {r : Value} (ex : ev L x = some (.int k a)) (ey : ev L y = some (.int k b)) (hop : (op == .eql || op == .neq || op == .shl || op == .shr) = false)
    (h : ∀ w, (binOp op t (.int k a) (.int k b)).run P w = .ok r w) : RV P K w0 n L Fs (.binOp op t x y t') ty r :=
  rv_bin ex ey fun w => by
    have : (eqGuard op t x y (.int k a) (.int k b)).run P w = .ok () w := by cases op <;> simp_all [eqGuard] <;> rfl
    rw [Sem.run_bind, this]; exact h w
theorem rv_lss {k : IntKind} {t t' : TypeId} {a b : Int} (ex : ev L x = some (.int k a)) (ey : ev L y = some (.int k b)) : RV P K w0 n L Fs (.binOp .lss t x y t') ty (.bool (decide (a < b))) :=
  rv_bin ex ey fun w => by simp [eqGuard, binOp, Op.intCmp, go_sem]
theorem rv_leq {k : IntKind} {t t' : TypeId} {a b : Int} (ex : ev L x = some (.int k a)) (ey : ev L y = some (.int k b)) : RV P K w0 n L Fs (.binOp .leq t x y t') ty (.bool (decide (a ≤ b))) :=
  rv_bin ex ey fun w => by simp [eqGuard, binOp, Op.intCmp, go_sem]
theorem rv_gtr {k : IntKind} {t t' : TypeId} {a b : Int} (ex : ev L x = some (.int k a)) (ey : ev L y = some (.int k b)) : RV P K w0 n L Fs (.binOp .gtr t x y t') ty (.bool (decide (b < a))) :=
  rv_bin ex ey fun w => by simp [eqGuard, binOp, Op.intCmp, go_sem]
theorem rv_geq {k : IntKind} {t t' : TypeId} {a b : Int} (ex : ev L x = some (.int k a)) (ey : ev L y = some (.int k b)) : RV P K w0 n L Fs (.binOp .geq t x y t') ty (.bool (decide (b ≤ a))) :=
  rv_bin ex ey fun w => by simp [eqGuard, binOp, Op.intCmp, go_sem]
theorem rv_eqI {k : IntKind} {t t' : TypeId} {a b : Int} (ex : ev L x = some (.int k a)) (ey : ev L y = some (.int k b)) : RV P K w0 n L Fs (.binOp .eql t x y t') ty (.bool (decide (a = b))) :=
  rv_bin ex ey fun w => by
    have : (a == b) = decide (a = b) := by by_cases h : a = b <;> simp [h]
    simp [eqGuard, binOp, Op.intCmp, this, go_sem]
theorem rv_neI {k : IntKind} {t t' : TypeId} {a b : Int} (ex : ev L x = some (.int k a)) (ey : ev L y = some (.int k b)) : RV P K w0 n L Fs (.binOp .neq t x y t') ty (.bool (decide (a ≠ b))) :=
  rv_bin ex ey fun w => by
    have : (a != b) = decide (a ≠ b) := by by_cases h : a = b <;> simp [h]
    simp [eqGuard, binOp, Op.intCmp, this, go_sem]

theorem bytes_toList_inj {a b : ByteArray} : a.toList = b.toList ↔ a = b := by
  constructor
  · intro h
    have h1 : a.data.toList = b.data.toList := by simpa [ByteArray.toList_eq] using h
    cases a; cases b; simp_all
  · rintro rfl; rfl
theorem bytes_beq (a b : ByteArray) : (a.toList == b.toList) = decide (a = b) := by
  by_cases h : a = b
  · subst h; simp
  · have : a.toList ≠ b.toList := fun e => h (bytes_toList_inj.1 e)
    simp [h, this]
theorem rv_eqS {t t' : TypeId} {a b : ByteArray} (ex : ev L x = some (.string a)) (ey : ev L y = some (.string b)) : RV P K w0 n L Fs (.binOp .eql t x y t') ty (.bool (decide (a = b))) :=
  rv_bin ex ey fun w => by simp [eqGuard, binOp, Op.stringOp, bytes_beq, go_sem]
theorem rv_neS {t t' : TypeId} {a b : ByteArray} (ex : ev L x = some (.string a)) (ey : ev L y = some (.string b)) : RV P K w0 n L Fs (.binOp .neq t x y t') ty (.bool (decide (a ≠ b))) :=
  rv_bin ex ey fun w => by simp [eqGuard, binOp, Op.stringOp, bytes_beq, go_sem]
theorem rv_eqB {t t' : TypeId} {a b : Bool} (ex : ev L x = some (.bool a)) (ey : ev L y = some (.bool b)) (h : ∀ w, (Op.equal t (.bool a) (.bool b)).run P w = .ok (decide (a = b)) w) : RV P K w0 n L Fs (.binOp .eql t x y t') ty (.bool (decide (a = b))) :=
  rv_bin ex ey fun w => by
    have e1 : (eqGuard .eql t x y (.bool a) (.bool b)).run P w = .ok () w := rfl
    have e2 : binOp .eql t (.bool a) (.bool b) = (do pure (.bool (← Op.equal t (.bool a) (.bool b)))) := rfl
    rw [Sem.run_bind, e1, Result.andThen_ok, e2, Sem.run_bind, h w]; rfl
theorem rv_not {t : TypeId} {b : Bool} (ex : ev L x = some (.bool b)) : RV P K w0 n L Fs (.unOp .not t x) ty (.bool (!b)) := fun w a hs hf d pos af g => by
  simp only [execOp, hf.ev ex]; simp [Op.unary, go_sem]

/-! builtins -/
theorem rv_lenSl {t E : TypeId} (hu : P.underlying t = some (.slice E)) {A : Option Addr} {l c : Nat} (ex : ev L x = some (.slice A l c)) : RV P K w0 n L Fs (.call { callee := .builtin .len, args := #[x], argTypes := #[t] }) ty (.int .i64 l) := fun w a hs hf d pos af g => by
  simp only [execOp, resolve, List.map_toArray, List.map_cons, List.map_nil, hf.ev ex]; simp [invoke, builtin, Builtin.len_, run_underlying hu, go_sem]
theorem rv_lenS {t : TypeId} (hu : P.underlying t = some .string) {s : ByteArray} (ex : ev L x = some (.string s)) : RV P K w0 n L Fs (.call { callee := .builtin .len, args := #[x], argTypes := #[t] }) ty (.int .i64 s.size) := fun w a hs hf d pos af g => by
  simp only [execOp, resolve, List.map_toArray, List.map_cons, List.map_nil, hf.ev ex]; simp [invoke, builtin, Builtin.len_, run_underlying hu, go_sem]
theorem rv_extract {vs : Array Value} {k : Nat} {u : Value} (ex : ev L x = some (.tuple vs)) (h : vs[k]? = some u) : RV P K w0 n L Fs (.extract x k) ty u := fun w a hs hf d pos af g => by
  simp only [execOp, hf.ev ex]; simp [Instr.extract, h, go_sem]
def evp (L : List (Nat × Value)) : List (Nat × Operand) → Option (List (Nat × Value))
  | [] => some []
  | (i, x) :: r => match ev L x, evp L r with
    | some v, some vs => some ((i, v) :: vs)
    | _, _ => none
theorem parts_eval {a : Act} (hf : Fr n L a) {parts : List (Nat × Operand)} {ps : List (Nat × Value)} (e : evp L parts = some ps) : (parts.toArray.map fun (i, x) => (i, a.eval x)) = ps.toArray := by
  have key : ∀ (l : List (Nat × Operand)) (m : List (Nat × Value)), evp L l = some m → (l.map fun (i, x) => (i, a.eval x)) = m := by
    intro l
    induction l with
    | nil => intro m hm; simp [evp] at hm; subst hm; rfl
    | cons q l ih =>
      intro m hm
      unfold evp at hm
      split at hm <;> try contradiction
      rename_i v vs h1 h2
      simp only [Option.some.injEq] at hm
      subst hm
      simp [hf.ev h1, ih vs h2]
  rw [← key parts ps e]; simp
theorem rv_build {t : TypeId} {parts : List (Nat × Operand)} {ps : List (Nat × Value)} {r : Value} (e : evp L parts = some ps)
    (h : ∀ w, (Instr.build t ps.toArray).run P w = .ok r w) : RV P K w0 n L Fs (.build t parts.toArray) ty r := fun w a hs hf d pos af g => by
  simp only [execOp]
  rw [parts_eval hf e, Sem.run_bind, h w]
  rfl
end
end Go.Bz
