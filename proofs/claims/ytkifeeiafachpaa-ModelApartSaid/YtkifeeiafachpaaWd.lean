/- Words of 8, 32 and 64 bits. Nothing of the program stands here. -/
import Derived.Test.YtkifeeiafachpaaAr
set_option linter.unusedVariables false
set_option linter.unusedSimpArgs false
namespace Go.Bz
open Go Go.RowKit

variable {K : Nat → Prop} {w0 w : World} {L : List (Nat × Value)} {Fs : List Pc} {P : Program} {n : Nat} {ty : TypeId} {x y : Operand} {t t' : TypeId}

abbrev v8 (a : UInt8) : Value := .int .u8 (a.toNat : Int)
theorem wrap8 (z : Int) : IntKind.wrap .u8 z = z % 256 := by
  have : (2 : Int) ^ 8 = 256 := by decide
  simp [IntKind.wrap, IntKind.bits, IntKind.signed, this]
theorem lt8 (a : UInt8) : a.toNat < 256 := a.toNat_lt
theorem rv_add8 {a b : UInt8} (ex : ev L x = some (v8 a)) (ey : ev L y = some (v8 b)) : RV P K w0 n L Fs (.binOp .add t x y t') ty (v8 (a + b)) :=
  rv_bin ex ey fun w => by
    have e : IntKind.wrap .u8 ((a.toNat : Int) + (b.toNat : Int)) = ((a + b).toNat : Int) := by rw [wrap8, UInt8.toNat_add]; omega
    simp [eqGuard, binOp, Op.intArith, e, go_sem]
theorem rv_sub8 {a b : UInt8} (ex : ev L x = some (v8 a)) (ey : ev L y = some (v8 b)) : RV P K w0 n L Fs (.binOp .sub t x y t') ty (v8 (a - b)) :=
  rv_bin ex ey fun w => by
    have e : IntKind.wrap .u8 ((a.toNat : Int) - (b.toNat : Int)) = ((a - b).toNat : Int) := by
      have h1 := lt8 a; have h2 := lt8 b
      rw [wrap8, UInt8.toNat_sub]; omega
    simp [eqGuard, binOp, Op.intArith, e, go_sem]
theorem rv_mul8 {a b : UInt8} (ex : ev L x = some (v8 a)) (ey : ev L y = some (v8 b)) : RV P K w0 n L Fs (.binOp .mul t x y t') ty (v8 (a * b)) :=
  rv_bin ex ey fun w => by
    have e : IntKind.wrap .u8 ((a.toNat : Int) * (b.toNat : Int)) = ((a * b).toNat : Int) := by rw [wrap8, UInt8.toNat_mul, ← Int.natCast_mul]; omega
    simp [eqGuard, binOp, Op.intArith, e, go_sem]
theorem rv_and8 {a b : UInt8} (ex : ev L x = some (v8 a)) (ey : ev L y = some (v8 b)) : RV P K w0 n L Fs (.binOp .and t x y t') ty (v8 (a &&& b)) :=
  rv_bin ex ey fun w => by
    have e : IntKind.wrap .u8 (((BitVec.ofInt 8 (a.toNat : Int) &&& BitVec.ofInt 8 (b.toNat : Int)).toNat : Nat) : Int) = ((a &&& b).toNat : Int) := by
      have h1 := lt8 a; have h2 := lt8 b; have h3 := lt8 (a &&& b)
      have e1 : (BitVec.ofInt 8 (a.toNat : Int) &&& BitVec.ofInt 8 (b.toNat : Int)).toNat = (a &&& b).toNat := by
        rw [UInt8.toNat_and, BitVec.toNat_and]
        simp [BitVec.ofInt_natCast, Nat.mod_eq_of_lt h1, Nat.mod_eq_of_lt h2]
      rw [e1, wrap8]; omega
    have e2 : (eqGuard .and t x y (v8 a) (v8 b)).run P w = .ok () w := rfl
    rw [Sem.run_bind, e2, Result.andThen_ok]
    show (Op.intBits .and .u8 (a.toNat : Int) (b.toNat : Int)).run P w = _
    show Result.ok (Value.int .u8 (IntKind.wrap .u8 (((BitVec.ofInt 8 (a.toNat : Int) &&& BitVec.ofInt 8 (b.toNat : Int)).toNat : Nat) : Int))) w = _
    rw [e]
theorem rv_or8 {a b : UInt8} (ex : ev L x = some (v8 a)) (ey : ev L y = some (v8 b)) : RV P K w0 n L Fs (.binOp .or t x y t') ty (v8 (a ||| b)) :=
  rv_bin ex ey fun w => by
    have e : IntKind.wrap .u8 (((BitVec.ofInt 8 (a.toNat : Int) ||| BitVec.ofInt 8 (b.toNat : Int)).toNat : Nat) : Int) = ((a ||| b).toNat : Int) := by
      have h1 := lt8 a; have h2 := lt8 b; have h3 := lt8 (a ||| b)
      have e1 : (BitVec.ofInt 8 (a.toNat : Int) ||| BitVec.ofInt 8 (b.toNat : Int)).toNat = (a ||| b).toNat := by
        rw [UInt8.toNat_or, BitVec.toNat_or]
        simp [BitVec.ofInt_natCast, Nat.mod_eq_of_lt h1, Nat.mod_eq_of_lt h2]
      rw [e1, wrap8]; omega
    have e2 : (eqGuard .or t x y (v8 a) (v8 b)).run P w = .ok () w := rfl
    rw [Sem.run_bind, e2, Result.andThen_ok]
    show (Op.intBits .or .u8 (a.toNat : Int) (b.toNat : Int)).run P w = _
    show Result.ok (Value.int .u8 (IntKind.wrap .u8 (((BitVec.ofInt 8 (a.toNat : Int) ||| BitVec.ofInt 8 (b.toNat : Int)).toNat : Nat) : Int))) w = _
    rw [e]
theorem rv_xor8 {a b : UInt8} (ex : ev L x = some (v8 a)) (ey : ev L y = some (v8 b)) : RV P K w0 n L Fs (.binOp .xor t x y t') ty (v8 (a ^^^ b)) :=
  rv_bin ex ey fun w => by
    have e : IntKind.wrap .u8 (((BitVec.ofInt 8 (a.toNat : Int) ^^^ BitVec.ofInt 8 (b.toNat : Int)).toNat : Nat) : Int) = ((a ^^^ b).toNat : Int) := by
      have h1 := lt8 a; have h2 := lt8 b; have h3 := lt8 (a ^^^ b)
      have e1 : (BitVec.ofInt 8 (a.toNat : Int) ^^^ BitVec.ofInt 8 (b.toNat : Int)).toNat = (a ^^^ b).toNat := by
        rw [UInt8.toNat_xor, BitVec.toNat_xor]
        simp [BitVec.ofInt_natCast, Nat.mod_eq_of_lt h1, Nat.mod_eq_of_lt h2]
      rw [e1, wrap8]; omega
    have e2 : (eqGuard .xor t x y (v8 a) (v8 b)).run P w = .ok () w := rfl
    rw [Sem.run_bind, e2, Result.andThen_ok]
    show (Op.intBits .xor .u8 (a.toNat : Int) (b.toNat : Int)).run P w = _
    show Result.ok (Value.int .u8 (IntKind.wrap .u8 (((BitVec.ofInt 8 (a.toNat : Int) ^^^ BitVec.ofInt 8 (b.toNat : Int)).toNat : Nat) : Int))) w = _
    rw [e]
theorem rv_not8 {a : UInt8} (ex : ev L x = some (v8 a)) : RV P K w0 n L Fs (.unOp .xor t x) ty (v8 (~~~ a)) := fun w ac hs hf d pos af g => by
  have e : IntKind.wrap .u8 (((BitVec.ofInt 8 (IntKind.max .u8) ^^^ BitVec.ofInt 8 (a.toNat : Int)).toNat : Nat) : Int) = ((~~~ a).toNat : Int) := by
    have h1 := lt8 a; have h3 := lt8 (~~~ a)
    have e0 : BitVec.ofInt 8 (IntKind.max .u8) = BitVec.allOnes 8 := by decide
    have e1 : (BitVec.ofInt 8 (IntKind.max .u8) ^^^ BitVec.ofInt 8 (a.toNat : Int)).toNat = (~~~ a).toNat := by
      rw [e0, BitVec.allOnes_xor, BitVec.ofInt_natCast]
      have : BitVec.ofNat 8 a.toNat = a.toBitVec := by apply BitVec.eq_of_toNat_eq; simp
      rw [this]; rfl
    rw [e1, wrap8]; omega
  simp only [execOp, hf.ev ex]
  show Result.ok (Next.value (Value.int .u8 (IntKind.wrap .u8 (((BitVec.ofInt 8 (IntKind.max .u8) ^^^ BitVec.ofInt 8 (a.toNat : Int)).toNat : Nat) : Int)))) w = _
  rw [e]
theorem rv_shl8 {a : UInt8} {yk : IntKind} {z : Int} (m : Nat) (ex : ev L x = some (v8 a)) (ey : ev L y = some (.int yk z)) (hz : z = (m : Int)) (hm : m < 8) : RV P K w0 n L Fs (.binOp .shl t x y t') ty (v8 (a <<< UInt8.ofNat m)) := by
  subst hz
  refine rv_bin ex ey fun w => ?_
  have e : IntKind.wrap .u8 ((a.toNat : Int) * 2 ^ m) = ((a <<< UInt8.ofNat m).toNat : Int) := by
    have h0 : (UInt8.ofNat m).toNat = m := by rw [UInt8.toNat_ofNat']; exact Nat.mod_eq_of_lt (by omega)
    rw [wrap8, UInt8.toNat_shiftLeft, h0, Nat.mod_eq_of_lt hm, Nat.shiftLeft_eq]
    have : ((a.toNat : Int) * 2 ^ m) = ((a.toNat * 2 ^ m : Nat) : Int) := by rw [Int.natCast_mul, Int.natCast_pow]; rfl
    rw [this]; omega
  have hn : min (m : Int).toNat (IntKind.bits .u8) = m := by simp [IntKind.bits]; omega
  have hneg : ¬ ((m : Int) < 0) := by omega
  have e2 : (eqGuard .shl t x y (v8 a) (.int yk (m : Int))).run P w = .ok () w := rfl
  rw [Sem.run_bind, e2, Result.andThen_ok]
  show (Op.shift .shl .u8 (a.toNat : Int) yk (m : Int)).run P w = _
  unfold Op.shift
  rw [if_neg hneg, hn]
  show Result.ok (Value.int .u8 (IntKind.wrap .u8 ((a.toNat : Int) * 2 ^ m))) w = _
  rw [e]
theorem rv_shr8 {a : UInt8} {yk : IntKind} {z : Int} (m : Nat) (ex : ev L x = some (v8 a)) (ey : ev L y = some (.int yk z)) (hz : z = (m : Int)) (hm : m < 8) : RV P K w0 n L Fs (.binOp .shr t x y t') ty (v8 (a >>> UInt8.ofNat m)) := by
  subst hz
  refine rv_bin ex ey fun w => ?_
  have e : (a.toNat : Int).fdiv (2 ^ m) = ((a >>> UInt8.ofNat m).toNat : Int) := by
    have h0 : (UInt8.ofNat m).toNat = m := by rw [UInt8.toNat_ofNat']; exact Nat.mod_eq_of_lt (by omega)
    rw [UInt8.toNat_shiftRight, h0, Nat.mod_eq_of_lt hm, Nat.shiftRight_eq_div_pow, Int.natCast_ediv, Int.natCast_pow]
    rw [Int.fdiv_eq_ediv_of_nonneg _ (Int.le_of_lt (Int.pow_pos (by decide)))]; rfl
  have hneg : ¬ ((m : Int) < 0) := by omega
  have hn : min (m : Int).toNat (IntKind.bits .u8) = m := by simp [IntKind.bits]; omega
  have e2 : (eqGuard .shr t x y (v8 a) (.int yk (m : Int))).run P w = .ok () w := rfl
  rw [Sem.run_bind, e2, Result.andThen_ok]
  show (Op.shift .shr .u8 (a.toNat : Int) yk (m : Int)).run P w = _
  unfold Op.shift
  rw [if_neg hneg, hn]
  show Result.ok (Value.int .u8 ((a.toNat : Int).fdiv (2 ^ m))) w = _
  rw [e]
theorem rv_rem8 {a b : UInt8} (ex : ev L x = some (v8 a)) (ey : ev L y = some (v8 b)) (h0 : b ≠ 0) : RV P K w0 n L Fs (.binOp .rem t x y t') ty (v8 (a % b)) :=
  rv_bin ex ey fun w => by
    have hb : (b.toNat : Int) ≠ 0 := fun h => h0 (by apply UInt8.toNat_inj.1; simpa using h)
    have hb' : ¬ b.toNat = 0 := by omega
    have e : ((a.toNat : Int)).tmod (b.toNat : Int) = ((a % b).toNat : Int) := by rw [UInt8.toNat_mod]; rfl
    simp [eqGuard, binOp, Op.intDiv, hb', e, go_sem]
theorem rv_quo8 {a b : UInt8} (ex : ev L x = some (v8 a)) (ey : ev L y = some (v8 b)) (h0 : b ≠ 0) : RV P K w0 n L Fs (.binOp .quo t x y t') ty (v8 (a / b)) :=
  rv_bin ex ey fun w => by
    have hb' : ¬ b.toNat = 0 := fun h => h0 (by apply UInt8.toNat_inj.1; simpa using h)
    have e : IntKind.wrap .u8 (((a.toNat : Int)).tdiv (b.toNat : Int)) = ((a / b).toNat : Int) := by
      have h1 := lt8 (a / b)
      have e1 : (a.toNat : Int).tdiv (b.toNat : Int) = ((a / b).toNat : Int) := by rw [UInt8.toNat_div]; rfl
      rw [e1, wrap8]; omega
    have hb : ¬ ((b.toNat : Int) = 0) := by omega
    have e2 : (eqGuard .quo t x y (v8 a) (v8 b)).run P w = .ok () w := rfl
    rw [Sem.run_bind, e2, Result.andThen_ok]
    show (Op.intDiv .quo .u8 (a.toNat : Int) (b.toNat : Int)).run P w = _
    unfold Op.intDiv
    rw [if_neg hb]
    show Result.ok (Value.int .u8 (IntKind.wrap .u8 ((a.toNat : Int).tdiv (b.toNat : Int)))) w = _
    rw [e]
theorem rv_eq8 {a b : UInt8} (ex : ev L x = some (v8 a)) (ey : ev L y = some (v8 b)) : RV P K w0 n L Fs (.binOp .eql t x y t') ty (.bool (decide (a = b))) :=
  rv_to (rv_eqI ex ey) (by congr 1; rw [decide_eq_decide]; exact ⟨fun h => UInt8.toNat_inj.1 (by omega), fun h => by rw [h]⟩)
theorem rv_ne8 {a b : UInt8} (ex : ev L x = some (v8 a)) (ey : ev L y = some (v8 b)) : RV P K w0 n L Fs (.binOp .neq t x y t') ty (.bool (decide (a ≠ b))) :=
  rv_to (rv_neI ex ey) (by congr 1; rw [decide_eq_decide]; exact ⟨fun h e => h (by rw [e]), fun h e => h (UInt8.toNat_inj.1 (by omega))⟩)
theorem rv_conv8I {src dst : TypeId} {z : Int} {k : IntKind} (m : Nat) (hs : P.underlying src = some (.int k)) (hd : P.underlying dst = some (.int .u8)) (e : ev L x = some (.int k z)) (hz : z = (m : Int)) :
    RV P K w0 n L Fs (.convert src dst x) ty (v8 (UInt8.ofNat m)) := by
  subst hz
  exact rv_to (rv_convI hs hd e) (by congr 1 <;> rw [wrap8, UInt8.toNat_ofNat'])
/-- words as they lie -/
def ws8 (l : List UInt8) : List Value := l.map v8
theorem ws8_len (l : List UInt8) : (ws8 l).length = l.length := by simp [ws8]
theorem ws8_one (l : List UInt8) : (ws8 l).all Value.oneCell' = true := by simp [ws8, Value.oneCell']
theorem ws8_get {l : List UInt8} {j : Nat} (h : j < l.length) : (ws8 l)[j]? = some (v8 (l.getD j 0)) := by
  simp [ws8, List.getElem?_map, List.getElem?_eq_getElem h]
theorem ws8_set (l : List UInt8) (j : Nat) (a : UInt8) : (ws8 l).set j (v8 a) = ws8 (l.set j a) := by simp [ws8, List.map_set]
theorem ws8_app (l r : List UInt8) : ws8 (l ++ r) = ws8 l ++ ws8 r := by simp [ws8]
theorem ws8_take (l : List UInt8) (k : Nat) : (ws8 l).take k = ws8 (l.take k) := by simp [ws8]
theorem ws8_drop (l : List UInt8) (k : Nat) : (ws8 l).drop k = ws8 (l.drop k) := by simp [ws8]

abbrev v32 (a : UInt32) : Value := .int .u32 (a.toNat : Int)
theorem wrap32 (z : Int) : IntKind.wrap .u32 z = z % 4294967296 := by
  have : (2 : Int) ^ 32 = 4294967296 := by decide
  simp [IntKind.wrap, IntKind.bits, IntKind.signed, this]
theorem lt32 (a : UInt32) : a.toNat < 4294967296 := a.toNat_lt
theorem rv_add32 {a b : UInt32} (ex : ev L x = some (v32 a)) (ey : ev L y = some (v32 b)) : RV P K w0 n L Fs (.binOp .add t x y t') ty (v32 (a + b)) :=
  rv_bin ex ey fun w => by
    have e : IntKind.wrap .u32 ((a.toNat : Int) + (b.toNat : Int)) = ((a + b).toNat : Int) := by rw [wrap32, UInt32.toNat_add]; omega
    simp [eqGuard, binOp, Op.intArith, e, go_sem]
theorem rv_sub32 {a b : UInt32} (ex : ev L x = some (v32 a)) (ey : ev L y = some (v32 b)) : RV P K w0 n L Fs (.binOp .sub t x y t') ty (v32 (a - b)) :=
  rv_bin ex ey fun w => by
    have e : IntKind.wrap .u32 ((a.toNat : Int) - (b.toNat : Int)) = ((a - b).toNat : Int) := by
      have h1 := lt32 a; have h2 := lt32 b
      rw [wrap32, UInt32.toNat_sub]; omega
    simp [eqGuard, binOp, Op.intArith, e, go_sem]
theorem rv_mul32 {a b : UInt32} (ex : ev L x = some (v32 a)) (ey : ev L y = some (v32 b)) : RV P K w0 n L Fs (.binOp .mul t x y t') ty (v32 (a * b)) :=
  rv_bin ex ey fun w => by
    have e : IntKind.wrap .u32 ((a.toNat : Int) * (b.toNat : Int)) = ((a * b).toNat : Int) := by rw [wrap32, UInt32.toNat_mul, ← Int.natCast_mul]; omega
    simp [eqGuard, binOp, Op.intArith, e, go_sem]
theorem rv_and32 {a b : UInt32} (ex : ev L x = some (v32 a)) (ey : ev L y = some (v32 b)) : RV P K w0 n L Fs (.binOp .and t x y t') ty (v32 (a &&& b)) :=
  rv_bin ex ey fun w => by
    have e : IntKind.wrap .u32 (((BitVec.ofInt 32 (a.toNat : Int) &&& BitVec.ofInt 32 (b.toNat : Int)).toNat : Nat) : Int) = ((a &&& b).toNat : Int) := by
      have h1 := lt32 a; have h2 := lt32 b; have h3 := lt32 (a &&& b)
      have e1 : (BitVec.ofInt 32 (a.toNat : Int) &&& BitVec.ofInt 32 (b.toNat : Int)).toNat = (a &&& b).toNat := by
        rw [UInt32.toNat_and, BitVec.toNat_and]
        simp [BitVec.ofInt_natCast, Nat.mod_eq_of_lt h1, Nat.mod_eq_of_lt h2]
      rw [e1, wrap32]; omega
    have e2 : (eqGuard .and t x y (v32 a) (v32 b)).run P w = .ok () w := rfl
    rw [Sem.run_bind, e2, Result.andThen_ok]
    show (Op.intBits .and .u32 (a.toNat : Int) (b.toNat : Int)).run P w = _
    show Result.ok (Value.int .u32 (IntKind.wrap .u32 (((BitVec.ofInt 32 (a.toNat : Int) &&& BitVec.ofInt 32 (b.toNat : Int)).toNat : Nat) : Int))) w = _
    rw [e]
theorem rv_or32 {a b : UInt32} (ex : ev L x = some (v32 a)) (ey : ev L y = some (v32 b)) : RV P K w0 n L Fs (.binOp .or t x y t') ty (v32 (a ||| b)) :=
  rv_bin ex ey fun w => by
    have e : IntKind.wrap .u32 (((BitVec.ofInt 32 (a.toNat : Int) ||| BitVec.ofInt 32 (b.toNat : Int)).toNat : Nat) : Int) = ((a ||| b).toNat : Int) := by
      have h1 := lt32 a; have h2 := lt32 b; have h3 := lt32 (a ||| b)
      have e1 : (BitVec.ofInt 32 (a.toNat : Int) ||| BitVec.ofInt 32 (b.toNat : Int)).toNat = (a ||| b).toNat := by
        rw [UInt32.toNat_or, BitVec.toNat_or]
        simp [BitVec.ofInt_natCast, Nat.mod_eq_of_lt h1, Nat.mod_eq_of_lt h2]
      rw [e1, wrap32]; omega
    have e2 : (eqGuard .or t x y (v32 a) (v32 b)).run P w = .ok () w := rfl
    rw [Sem.run_bind, e2, Result.andThen_ok]
    show (Op.intBits .or .u32 (a.toNat : Int) (b.toNat : Int)).run P w = _
    show Result.ok (Value.int .u32 (IntKind.wrap .u32 (((BitVec.ofInt 32 (a.toNat : Int) ||| BitVec.ofInt 32 (b.toNat : Int)).toNat : Nat) : Int))) w = _
    rw [e]
theorem rv_xor32 {a b : UInt32} (ex : ev L x = some (v32 a)) (ey : ev L y = some (v32 b)) : RV P K w0 n L Fs (.binOp .xor t x y t') ty (v32 (a ^^^ b)) :=
  rv_bin ex ey fun w => by
    have e : IntKind.wrap .u32 (((BitVec.ofInt 32 (a.toNat : Int) ^^^ BitVec.ofInt 32 (b.toNat : Int)).toNat : Nat) : Int) = ((a ^^^ b).toNat : Int) := by
      have h1 := lt32 a; have h2 := lt32 b; have h3 := lt32 (a ^^^ b)
      have e1 : (BitVec.ofInt 32 (a.toNat : Int) ^^^ BitVec.ofInt 32 (b.toNat : Int)).toNat = (a ^^^ b).toNat := by
        rw [UInt32.toNat_xor, BitVec.toNat_xor]
        simp [BitVec.ofInt_natCast, Nat.mod_eq_of_lt h1, Nat.mod_eq_of_lt h2]
      rw [e1, wrap32]; omega
    have e2 : (eqGuard .xor t x y (v32 a) (v32 b)).run P w = .ok () w := rfl
    rw [Sem.run_bind, e2, Result.andThen_ok]
    show (Op.intBits .xor .u32 (a.toNat : Int) (b.toNat : Int)).run P w = _
    show Result.ok (Value.int .u32 (IntKind.wrap .u32 (((BitVec.ofInt 32 (a.toNat : Int) ^^^ BitVec.ofInt 32 (b.toNat : Int)).toNat : Nat) : Int))) w = _
    rw [e]
theorem rv_not32 {a : UInt32} (ex : ev L x = some (v32 a)) : RV P K w0 n L Fs (.unOp .xor t x) ty (v32 (~~~ a)) := fun w ac hs hf d pos af g => by
  have e : IntKind.wrap .u32 (((BitVec.ofInt 32 (IntKind.max .u32) ^^^ BitVec.ofInt 32 (a.toNat : Int)).toNat : Nat) : Int) = ((~~~ a).toNat : Int) := by
    have h1 := lt32 a; have h3 := lt32 (~~~ a)
    have e0 : BitVec.ofInt 32 (IntKind.max .u32) = BitVec.allOnes 32 := by decide
    have e1 : (BitVec.ofInt 32 (IntKind.max .u32) ^^^ BitVec.ofInt 32 (a.toNat : Int)).toNat = (~~~ a).toNat := by
      rw [e0, BitVec.allOnes_xor, BitVec.ofInt_natCast]
      have : BitVec.ofNat 32 a.toNat = a.toBitVec := by apply BitVec.eq_of_toNat_eq; simp
      rw [this]; rfl
    rw [e1, wrap32]; omega
  simp only [execOp, hf.ev ex]
  show Result.ok (Next.value (Value.int .u32 (IntKind.wrap .u32 (((BitVec.ofInt 32 (IntKind.max .u32) ^^^ BitVec.ofInt 32 (a.toNat : Int)).toNat : Nat) : Int)))) w = _
  rw [e]
theorem rv_shl32 {a : UInt32} {yk : IntKind} {z : Int} (m : Nat) (ex : ev L x = some (v32 a)) (ey : ev L y = some (.int yk z)) (hz : z = (m : Int)) (hm : m < 32) : RV P K w0 n L Fs (.binOp .shl t x y t') ty (v32 (a <<< UInt32.ofNat m)) := by
  subst hz
  refine rv_bin ex ey fun w => ?_
  have e : IntKind.wrap .u32 ((a.toNat : Int) * 2 ^ m) = ((a <<< UInt32.ofNat m).toNat : Int) := by
    have h0 : (UInt32.ofNat m).toNat = m := by rw [UInt32.toNat_ofNat']; exact Nat.mod_eq_of_lt (by omega)
    rw [wrap32, UInt32.toNat_shiftLeft, h0, Nat.mod_eq_of_lt hm, Nat.shiftLeft_eq]
    have : ((a.toNat : Int) * 2 ^ m) = ((a.toNat * 2 ^ m : Nat) : Int) := by rw [Int.natCast_mul, Int.natCast_pow]; rfl
    rw [this]; omega
  have hn : min (m : Int).toNat (IntKind.bits .u32) = m := by simp [IntKind.bits]; omega
  have hneg : ¬ ((m : Int) < 0) := by omega
  have e2 : (eqGuard .shl t x y (v32 a) (.int yk (m : Int))).run P w = .ok () w := rfl
  rw [Sem.run_bind, e2, Result.andThen_ok]
  show (Op.shift .shl .u32 (a.toNat : Int) yk (m : Int)).run P w = _
  unfold Op.shift
  rw [if_neg hneg, hn]
  show Result.ok (Value.int .u32 (IntKind.wrap .u32 ((a.toNat : Int) * 2 ^ m))) w = _
  rw [e]
theorem rv_shr32 {a : UInt32} {yk : IntKind} {z : Int} (m : Nat) (ex : ev L x = some (v32 a)) (ey : ev L y = some (.int yk z)) (hz : z = (m : Int)) (hm : m < 32) : RV P K w0 n L Fs (.binOp .shr t x y t') ty (v32 (a >>> UInt32.ofNat m)) := by
  subst hz
  refine rv_bin ex ey fun w => ?_
  have e : (a.toNat : Int).fdiv (2 ^ m) = ((a >>> UInt32.ofNat m).toNat : Int) := by
    have h0 : (UInt32.ofNat m).toNat = m := by rw [UInt32.toNat_ofNat']; exact Nat.mod_eq_of_lt (by omega)
    rw [UInt32.toNat_shiftRight, h0, Nat.mod_eq_of_lt hm, Nat.shiftRight_eq_div_pow, Int.natCast_ediv, Int.natCast_pow]
    rw [Int.fdiv_eq_ediv_of_nonneg _ (Int.le_of_lt (Int.pow_pos (by decide)))]; rfl
  have hneg : ¬ ((m : Int) < 0) := by omega
  have hn : min (m : Int).toNat (IntKind.bits .u32) = m := by simp [IntKind.bits]; omega
  have e2 : (eqGuard .shr t x y (v32 a) (.int yk (m : Int))).run P w = .ok () w := rfl
  rw [Sem.run_bind, e2, Result.andThen_ok]
  show (Op.shift .shr .u32 (a.toNat : Int) yk (m : Int)).run P w = _
  unfold Op.shift
  rw [if_neg hneg, hn]
  show Result.ok (Value.int .u32 ((a.toNat : Int).fdiv (2 ^ m))) w = _
  rw [e]
theorem rv_rem32 {a b : UInt32} (ex : ev L x = some (v32 a)) (ey : ev L y = some (v32 b)) (h0 : b ≠ 0) : RV P K w0 n L Fs (.binOp .rem t x y t') ty (v32 (a % b)) :=
  rv_bin ex ey fun w => by
    have hb : (b.toNat : Int) ≠ 0 := fun h => h0 (by apply UInt32.toNat_inj.1; simpa using h)
    have hb' : ¬ b.toNat = 0 := by omega
    have e : ((a.toNat : Int)).tmod (b.toNat : Int) = ((a % b).toNat : Int) := by rw [UInt32.toNat_mod]; rfl
    simp [eqGuard, binOp, Op.intDiv, hb', e, go_sem]
theorem rv_quo32 {a b : UInt32} (ex : ev L x = some (v32 a)) (ey : ev L y = some (v32 b)) (h0 : b ≠ 0) : RV P K w0 n L Fs (.binOp .quo t x y t') ty (v32 (a / b)) :=
  rv_bin ex ey fun w => by
    have hb' : ¬ b.toNat = 0 := fun h => h0 (by apply UInt32.toNat_inj.1; simpa using h)
    have e : IntKind.wrap .u32 (((a.toNat : Int)).tdiv (b.toNat : Int)) = ((a / b).toNat : Int) := by
      have h1 := lt32 (a / b)
      have e1 : (a.toNat : Int).tdiv (b.toNat : Int) = ((a / b).toNat : Int) := by rw [UInt32.toNat_div]; rfl
      rw [e1, wrap32]; omega
    have hb : ¬ ((b.toNat : Int) = 0) := by omega
    have e2 : (eqGuard .quo t x y (v32 a) (v32 b)).run P w = .ok () w := rfl
    rw [Sem.run_bind, e2, Result.andThen_ok]
    show (Op.intDiv .quo .u32 (a.toNat : Int) (b.toNat : Int)).run P w = _
    unfold Op.intDiv
    rw [if_neg hb]
    show Result.ok (Value.int .u32 (IntKind.wrap .u32 ((a.toNat : Int).tdiv (b.toNat : Int)))) w = _
    rw [e]
theorem rv_eq32 {a b : UInt32} (ex : ev L x = some (v32 a)) (ey : ev L y = some (v32 b)) : RV P K w0 n L Fs (.binOp .eql t x y t') ty (.bool (decide (a = b))) :=
  rv_to (rv_eqI ex ey) (by congr 1; rw [decide_eq_decide]; exact ⟨fun h => UInt32.toNat_inj.1 (by omega), fun h => by rw [h]⟩)
theorem rv_ne32 {a b : UInt32} (ex : ev L x = some (v32 a)) (ey : ev L y = some (v32 b)) : RV P K w0 n L Fs (.binOp .neq t x y t') ty (.bool (decide (a ≠ b))) :=
  rv_to (rv_neI ex ey) (by congr 1; rw [decide_eq_decide]; exact ⟨fun h e => h (by rw [e]), fun h e => h (UInt32.toNat_inj.1 (by omega))⟩)
theorem rv_conv32I {src dst : TypeId} {z : Int} {k : IntKind} (m : Nat) (hs : P.underlying src = some (.int k)) (hd : P.underlying dst = some (.int .u32)) (e : ev L x = some (.int k z)) (hz : z = (m : Int)) :
    RV P K w0 n L Fs (.convert src dst x) ty (v32 (UInt32.ofNat m)) := by
  subst hz
  exact rv_to (rv_convI hs hd e) (by congr 1 <;> rw [wrap32, UInt32.toNat_ofNat'])
/-- words as they lie -/
def ws32 (l : List UInt32) : List Value := l.map v32
theorem ws32_len (l : List UInt32) : (ws32 l).length = l.length := by simp [ws32]
theorem ws32_one (l : List UInt32) : (ws32 l).all Value.oneCell' = true := by simp [ws32, Value.oneCell']
theorem ws32_get {l : List UInt32} {j : Nat} (h : j < l.length) : (ws32 l)[j]? = some (v32 (l.getD j 0)) := by
  simp [ws32, List.getElem?_map, List.getElem?_eq_getElem h]
theorem ws32_set (l : List UInt32) (j : Nat) (a : UInt32) : (ws32 l).set j (v32 a) = ws32 (l.set j a) := by simp [ws32, List.map_set]
theorem ws32_app (l r : List UInt32) : ws32 (l ++ r) = ws32 l ++ ws32 r := by simp [ws32]
theorem ws32_take (l : List UInt32) (k : Nat) : (ws32 l).take k = ws32 (l.take k) := by simp [ws32]
theorem ws32_drop (l : List UInt32) (k : Nat) : (ws32 l).drop k = ws32 (l.drop k) := by simp [ws32]

abbrev v64 (a : UInt64) : Value := .int .u64 (a.toNat : Int)
theorem wrap64 (z : Int) : IntKind.wrap .u64 z = z % 18446744073709551616 := by
  have : (2 : Int) ^ 64 = 18446744073709551616 := by decide
  simp [IntKind.wrap, IntKind.bits, IntKind.signed, this]
theorem lt64 (a : UInt64) : a.toNat < 18446744073709551616 := a.toNat_lt
theorem rv_add64 {a b : UInt64} (ex : ev L x = some (v64 a)) (ey : ev L y = some (v64 b)) : RV P K w0 n L Fs (.binOp .add t x y t') ty (v64 (a + b)) :=
  rv_bin ex ey fun w => by
    have e : IntKind.wrap .u64 ((a.toNat : Int) + (b.toNat : Int)) = ((a + b).toNat : Int) := by rw [wrap64, UInt64.toNat_add]; omega
    simp [eqGuard, binOp, Op.intArith, e, go_sem]
theorem rv_sub64 {a b : UInt64} (ex : ev L x = some (v64 a)) (ey : ev L y = some (v64 b)) : RV P K w0 n L Fs (.binOp .sub t x y t') ty (v64 (a - b)) :=
  rv_bin ex ey fun w => by
    have e : IntKind.wrap .u64 ((a.toNat : Int) - (b.toNat : Int)) = ((a - b).toNat : Int) := by
      have h1 := lt64 a; have h2 := lt64 b
      rw [wrap64, UInt64.toNat_sub]; omega
    simp [eqGuard, binOp, Op.intArith, e, go_sem]
theorem rv_mul64 {a b : UInt64} (ex : ev L x = some (v64 a)) (ey : ev L y = some (v64 b)) : RV P K w0 n L Fs (.binOp .mul t x y t') ty (v64 (a * b)) :=
  rv_bin ex ey fun w => by
    have e : IntKind.wrap .u64 ((a.toNat : Int) * (b.toNat : Int)) = ((a * b).toNat : Int) := by rw [wrap64, UInt64.toNat_mul, ← Int.natCast_mul]; omega
    simp [eqGuard, binOp, Op.intArith, e, go_sem]
theorem rv_and64 {a b : UInt64} (ex : ev L x = some (v64 a)) (ey : ev L y = some (v64 b)) : RV P K w0 n L Fs (.binOp .and t x y t') ty (v64 (a &&& b)) :=
  rv_bin ex ey fun w => by
    have e : IntKind.wrap .u64 (((BitVec.ofInt 64 (a.toNat : Int) &&& BitVec.ofInt 64 (b.toNat : Int)).toNat : Nat) : Int) = ((a &&& b).toNat : Int) := by
      have h1 := lt64 a; have h2 := lt64 b; have h3 := lt64 (a &&& b)
      have e1 : (BitVec.ofInt 64 (a.toNat : Int) &&& BitVec.ofInt 64 (b.toNat : Int)).toNat = (a &&& b).toNat := by
        rw [UInt64.toNat_and, BitVec.toNat_and]
        simp [BitVec.ofInt_natCast, Nat.mod_eq_of_lt h1, Nat.mod_eq_of_lt h2]
      rw [e1, wrap64]; omega
    have e2 : (eqGuard .and t x y (v64 a) (v64 b)).run P w = .ok () w := rfl
    rw [Sem.run_bind, e2, Result.andThen_ok]
    show (Op.intBits .and .u64 (a.toNat : Int) (b.toNat : Int)).run P w = _
    show Result.ok (Value.int .u64 (IntKind.wrap .u64 (((BitVec.ofInt 64 (a.toNat : Int) &&& BitVec.ofInt 64 (b.toNat : Int)).toNat : Nat) : Int))) w = _
    rw [e]
theorem rv_or64 {a b : UInt64} (ex : ev L x = some (v64 a)) (ey : ev L y = some (v64 b)) : RV P K w0 n L Fs (.binOp .or t x y t') ty (v64 (a ||| b)) :=
  rv_bin ex ey fun w => by
    have e : IntKind.wrap .u64 (((BitVec.ofInt 64 (a.toNat : Int) ||| BitVec.ofInt 64 (b.toNat : Int)).toNat : Nat) : Int) = ((a ||| b).toNat : Int) := by
      have h1 := lt64 a; have h2 := lt64 b; have h3 := lt64 (a ||| b)
      have e1 : (BitVec.ofInt 64 (a.toNat : Int) ||| BitVec.ofInt 64 (b.toNat : Int)).toNat = (a ||| b).toNat := by
        rw [UInt64.toNat_or, BitVec.toNat_or]
        simp [BitVec.ofInt_natCast, Nat.mod_eq_of_lt h1, Nat.mod_eq_of_lt h2]
      rw [e1, wrap64]; omega
    have e2 : (eqGuard .or t x y (v64 a) (v64 b)).run P w = .ok () w := rfl
    rw [Sem.run_bind, e2, Result.andThen_ok]
    show (Op.intBits .or .u64 (a.toNat : Int) (b.toNat : Int)).run P w = _
    show Result.ok (Value.int .u64 (IntKind.wrap .u64 (((BitVec.ofInt 64 (a.toNat : Int) ||| BitVec.ofInt 64 (b.toNat : Int)).toNat : Nat) : Int))) w = _
    rw [e]
theorem rv_xor64 {a b : UInt64} (ex : ev L x = some (v64 a)) (ey : ev L y = some (v64 b)) : RV P K w0 n L Fs (.binOp .xor t x y t') ty (v64 (a ^^^ b)) :=
  rv_bin ex ey fun w => by
    have e : IntKind.wrap .u64 (((BitVec.ofInt 64 (a.toNat : Int) ^^^ BitVec.ofInt 64 (b.toNat : Int)).toNat : Nat) : Int) = ((a ^^^ b).toNat : Int) := by
      have h1 := lt64 a; have h2 := lt64 b; have h3 := lt64 (a ^^^ b)
      have e1 : (BitVec.ofInt 64 (a.toNat : Int) ^^^ BitVec.ofInt 64 (b.toNat : Int)).toNat = (a ^^^ b).toNat := by
        rw [UInt64.toNat_xor, BitVec.toNat_xor]
        simp [BitVec.ofInt_natCast, Nat.mod_eq_of_lt h1, Nat.mod_eq_of_lt h2]
      rw [e1, wrap64]; omega
    have e2 : (eqGuard .xor t x y (v64 a) (v64 b)).run P w = .ok () w := rfl
    rw [Sem.run_bind, e2, Result.andThen_ok]
    show (Op.intBits .xor .u64 (a.toNat : Int) (b.toNat : Int)).run P w = _
    show Result.ok (Value.int .u64 (IntKind.wrap .u64 (((BitVec.ofInt 64 (a.toNat : Int) ^^^ BitVec.ofInt 64 (b.toNat : Int)).toNat : Nat) : Int))) w = _
    rw [e]
theorem rv_not64 {a : UInt64} (ex : ev L x = some (v64 a)) : RV P K w0 n L Fs (.unOp .xor t x) ty (v64 (~~~ a)) := fun w ac hs hf d pos af g => by
  have e : IntKind.wrap .u64 (((BitVec.ofInt 64 (IntKind.max .u64) ^^^ BitVec.ofInt 64 (a.toNat : Int)).toNat : Nat) : Int) = ((~~~ a).toNat : Int) := by
    have h1 := lt64 a; have h3 := lt64 (~~~ a)
    have e0 : BitVec.ofInt 64 (IntKind.max .u64) = BitVec.allOnes 64 := by decide
    have e1 : (BitVec.ofInt 64 (IntKind.max .u64) ^^^ BitVec.ofInt 64 (a.toNat : Int)).toNat = (~~~ a).toNat := by
      rw [e0, BitVec.allOnes_xor, BitVec.ofInt_natCast]
      have : BitVec.ofNat 64 a.toNat = a.toBitVec := by apply BitVec.eq_of_toNat_eq; simp
      rw [this]; rfl
    rw [e1, wrap64]; omega
  simp only [execOp, hf.ev ex]
  show Result.ok (Next.value (Value.int .u64 (IntKind.wrap .u64 (((BitVec.ofInt 64 (IntKind.max .u64) ^^^ BitVec.ofInt 64 (a.toNat : Int)).toNat : Nat) : Int)))) w = _
  rw [e]
theorem rv_shl64 {a : UInt64} {yk : IntKind} {z : Int} (m : Nat) (ex : ev L x = some (v64 a)) (ey : ev L y = some (.int yk z)) (hz : z = (m : Int)) (hm : m < 64) : RV P K w0 n L Fs (.binOp .shl t x y t') ty (v64 (a <<< UInt64.ofNat m)) := by
  subst hz
  refine rv_bin ex ey fun w => ?_
  have e : IntKind.wrap .u64 ((a.toNat : Int) * 2 ^ m) = ((a <<< UInt64.ofNat m).toNat : Int) := by
    have h0 : (UInt64.ofNat m).toNat = m := by rw [UInt64.toNat_ofNat']; exact Nat.mod_eq_of_lt (by omega)
    rw [wrap64, UInt64.toNat_shiftLeft, h0, Nat.mod_eq_of_lt hm, Nat.shiftLeft_eq]
    have : ((a.toNat : Int) * 2 ^ m) = ((a.toNat * 2 ^ m : Nat) : Int) := by rw [Int.natCast_mul, Int.natCast_pow]; rfl
    rw [this]; omega
  have hn : min (m : Int).toNat (IntKind.bits .u64) = m := by simp [IntKind.bits]; omega
  have hneg : ¬ ((m : Int) < 0) := by omega
  have e2 : (eqGuard .shl t x y (v64 a) (.int yk (m : Int))).run P w = .ok () w := rfl
  rw [Sem.run_bind, e2, Result.andThen_ok]
  show (Op.shift .shl .u64 (a.toNat : Int) yk (m : Int)).run P w = _
  unfold Op.shift
  rw [if_neg hneg, hn]
  show Result.ok (Value.int .u64 (IntKind.wrap .u64 ((a.toNat : Int) * 2 ^ m))) w = _
  rw [e]
theorem rv_shr64 {a : UInt64} {yk : IntKind} {z : Int} (m : Nat) (ex : ev L x = some (v64 a)) (ey : ev L y = some (.int yk z)) (hz : z = (m : Int)) (hm : m < 64) : RV P K w0 n L Fs (.binOp .shr t x y t') ty (v64 (a >>> UInt64.ofNat m)) := by
  subst hz
  refine rv_bin ex ey fun w => ?_
  have e : (a.toNat : Int).fdiv (2 ^ m) = ((a >>> UInt64.ofNat m).toNat : Int) := by
    have h0 : (UInt64.ofNat m).toNat = m := by rw [UInt64.toNat_ofNat']; exact Nat.mod_eq_of_lt (by omega)
    rw [UInt64.toNat_shiftRight, h0, Nat.mod_eq_of_lt hm, Nat.shiftRight_eq_div_pow, Int.natCast_ediv, Int.natCast_pow]
    rw [Int.fdiv_eq_ediv_of_nonneg _ (Int.le_of_lt (Int.pow_pos (by decide)))]; rfl
  have hneg : ¬ ((m : Int) < 0) := by omega
  have hn : min (m : Int).toNat (IntKind.bits .u64) = m := by simp [IntKind.bits]; omega
  have e2 : (eqGuard .shr t x y (v64 a) (.int yk (m : Int))).run P w = .ok () w := rfl
  rw [Sem.run_bind, e2, Result.andThen_ok]
  show (Op.shift .shr .u64 (a.toNat : Int) yk (m : Int)).run P w = _
  unfold Op.shift
  rw [if_neg hneg, hn]
  show Result.ok (Value.int .u64 ((a.toNat : Int).fdiv (2 ^ m))) w = _
  rw [e]
theorem rv_rem64 {a b : UInt64} (ex : ev L x = some (v64 a)) (ey : ev L y = some (v64 b)) (h0 : b ≠ 0) : RV P K w0 n L Fs (.binOp .rem t x y t') ty (v64 (a % b)) :=
  rv_bin ex ey fun w => by
    have hb : (b.toNat : Int) ≠ 0 := fun h => h0 (by apply UInt64.toNat_inj.1; simpa using h)
    have hb' : ¬ b.toNat = 0 := by omega
    have e : ((a.toNat : Int)).tmod (b.toNat : Int) = ((a % b).toNat : Int) := by rw [UInt64.toNat_mod]; rfl
    simp [eqGuard, binOp, Op.intDiv, hb', e, go_sem]
theorem rv_quo64 {a b : UInt64} (ex : ev L x = some (v64 a)) (ey : ev L y = some (v64 b)) (h0 : b ≠ 0) : RV P K w0 n L Fs (.binOp .quo t x y t') ty (v64 (a / b)) :=
  rv_bin ex ey fun w => by
    have hb' : ¬ b.toNat = 0 := fun h => h0 (by apply UInt64.toNat_inj.1; simpa using h)
    have e : IntKind.wrap .u64 (((a.toNat : Int)).tdiv (b.toNat : Int)) = ((a / b).toNat : Int) := by
      have h1 := lt64 (a / b)
      have e1 : (a.toNat : Int).tdiv (b.toNat : Int) = ((a / b).toNat : Int) := by rw [UInt64.toNat_div]; rfl
      rw [e1, wrap64]; omega
    have hb : ¬ ((b.toNat : Int) = 0) := by omega
    have e2 : (eqGuard .quo t x y (v64 a) (v64 b)).run P w = .ok () w := rfl
    rw [Sem.run_bind, e2, Result.andThen_ok]
    show (Op.intDiv .quo .u64 (a.toNat : Int) (b.toNat : Int)).run P w = _
    unfold Op.intDiv
    rw [if_neg hb]
    show Result.ok (Value.int .u64 (IntKind.wrap .u64 ((a.toNat : Int).tdiv (b.toNat : Int)))) w = _
    rw [e]
theorem rv_eq64 {a b : UInt64} (ex : ev L x = some (v64 a)) (ey : ev L y = some (v64 b)) : RV P K w0 n L Fs (.binOp .eql t x y t') ty (.bool (decide (a = b))) :=
  rv_to (rv_eqI ex ey) (by congr 1; rw [decide_eq_decide]; exact ⟨fun h => UInt64.toNat_inj.1 (by omega), fun h => by rw [h]⟩)
theorem rv_ne64 {a b : UInt64} (ex : ev L x = some (v64 a)) (ey : ev L y = some (v64 b)) : RV P K w0 n L Fs (.binOp .neq t x y t') ty (.bool (decide (a ≠ b))) :=
  rv_to (rv_neI ex ey) (by congr 1; rw [decide_eq_decide]; exact ⟨fun h e => h (by rw [e]), fun h e => h (UInt64.toNat_inj.1 (by omega))⟩)
theorem rv_conv64I {src dst : TypeId} {z : Int} {k : IntKind} (m : Nat) (hs : P.underlying src = some (.int k)) (hd : P.underlying dst = some (.int .u64)) (e : ev L x = some (.int k z)) (hz : z = (m : Int)) :
    RV P K w0 n L Fs (.convert src dst x) ty (v64 (UInt64.ofNat m)) := by
  subst hz
  exact rv_to (rv_convI hs hd e) (by congr 1 <;> rw [wrap64, UInt64.toNat_ofNat'])
/-- words as they lie -/
def ws64 (l : List UInt64) : List Value := l.map v64
theorem ws64_len (l : List UInt64) : (ws64 l).length = l.length := by simp [ws64]
theorem ws64_one (l : List UInt64) : (ws64 l).all Value.oneCell' = true := by simp [ws64, Value.oneCell']
theorem ws64_get {l : List UInt64} {j : Nat} (h : j < l.length) : (ws64 l)[j]? = some (v64 (l.getD j 0)) := by
  simp [ws64, List.getElem?_map, List.getElem?_eq_getElem h]
theorem ws64_set (l : List UInt64) (j : Nat) (a : UInt64) : (ws64 l).set j (v64 a) = ws64 (l.set j a) := by simp [ws64, List.map_set]
theorem ws64_app (l r : List UInt64) : ws64 (l ++ r) = ws64 l ++ ws64 r := by simp [ws64]
theorem ws64_take (l : List UInt64) (k : Nat) : (ws64 l).take k = ws64 (l.take k) := by simp [ws64]
theorem ws64_drop (l : List UInt64) (k : Nat) : (ws64 l).drop k = ws64 (l.drop k) := by simp [ws64]
theorem rv_c8_32 {src dst : TypeId} {a : UInt8} (hs : P.underlying src = some (.int .u8)) (hd : P.underlying dst = some (.int .u32)) (e : ev L x = some (v8 a)) :
    RV P K w0 n L Fs (.convert src dst x) ty (v32 a.toUInt32) := rv_to (rv_convI hs hd e) (by have h := lt8 a; congr 1 <;> (rw [wrap32] <;> (simp; omega)))
theorem rv_c8_64 {src dst : TypeId} {a : UInt8} (hs : P.underlying src = some (.int .u8)) (hd : P.underlying dst = some (.int .u64)) (e : ev L x = some (v8 a)) :
    RV P K w0 n L Fs (.convert src dst x) ty (v64 a.toUInt64) := rv_to (rv_convI hs hd e) (by have h := lt8 a; congr 1 <;> (rw [wrap64] <;> (simp; omega)))
theorem rv_c32_8 {src dst : TypeId} {a : UInt32} (hs : P.underlying src = some (.int .u32)) (hd : P.underlying dst = some (.int .u8)) (e : ev L x = some (v32 a)) :
    RV P K w0 n L Fs (.convert src dst x) ty (v8 a.toUInt8) := rv_to (rv_convI hs hd e) (by have h := lt32 a; congr 1 <;> (rw [wrap8] <;> (simp)))
theorem rv_c32_64 {src dst : TypeId} {a : UInt32} (hs : P.underlying src = some (.int .u32)) (hd : P.underlying dst = some (.int .u64)) (e : ev L x = some (v32 a)) :
    RV P K w0 n L Fs (.convert src dst x) ty (v64 a.toUInt64) := rv_to (rv_convI hs hd e) (by have h := lt32 a; congr 1 <;> (rw [wrap64] <;> (simp; omega)))
theorem rv_c64_8 {src dst : TypeId} {a : UInt64} (hs : P.underlying src = some (.int .u64)) (hd : P.underlying dst = some (.int .u8)) (e : ev L x = some (v64 a)) :
    RV P K w0 n L Fs (.convert src dst x) ty (v8 a.toUInt8) := rv_to (rv_convI hs hd e) (by have h := lt64 a; congr 1 <;> (rw [wrap8] <;> (simp)))
theorem rv_c64_32 {src dst : TypeId} {a : UInt64} (hs : P.underlying src = some (.int .u64)) (hd : P.underlying dst = some (.int .u32)) (e : ev L x = some (v64 a)) :
    RV P K w0 n L Fs (.convert src dst x) ty (v32 a.toUInt32) := rv_to (rv_convI hs hd e) (by have h := lt64 a; congr 1 <;> (rw [wrap32] <;> (simp)))

/-! ### whole numbers that are not less than nought, bit by bit -/
theorem wrap64s {m : Nat} (h : m < 9223372036854775808) : IntKind.wrap .i64 (m : Int) = m := i64_small (by omega) (by omega)
theorem nat_bits {m m' : Nat} (h : m < 9223372036854775808) (h' : m' < 9223372036854775808) :
    IntKind.wrap .i64 (((BitVec.ofInt 64 (m : Int) ^^^ BitVec.ofInt 64 (m' : Int)).toNat : Nat) : Int) = ((m ^^^ m' : Nat) : Int) ∧ IntKind.wrap .i64 (((BitVec.ofInt 64 (m : Int) ||| BitVec.ofInt 64 (m' : Int)).toNat : Nat) : Int) = ((m ||| m' : Nat) : Int) ∧ (m ^^^ m' : Nat) < 9223372036854775808 ∧ (m ||| m' : Nat) < 9223372036854775808 := by
  have h1 : (m ^^^ m' : Nat) < 2 ^ 63 := Nat.xor_lt_two_pow (by omega) (by omega)
  have h2 : (m ||| m' : Nat) < 2 ^ 63 := Nat.or_lt_two_pow (by omega) (by omega)
  have e1 : m % 18446744073709551616 = m := Nat.mod_eq_of_lt (by omega)
  have e2 : m' % 18446744073709551616 = m' := Nat.mod_eq_of_lt (by omega)
  refine ⟨?_, ?_, by omega, by omega⟩
  · rw [BitVec.toNat_xor]; simp only [BitVec.ofInt_natCast, BitVec.toNat_ofNat]
    rw [show (2 : Nat) ^ 64 = 18446744073709551616 from rfl, e1, e2]; exact wrap64s (by omega)
  · rw [BitVec.toNat_or]; simp only [BitVec.ofInt_natCast, BitVec.toNat_ofNat]
    rw [show (2 : Nat) ^ 64 = 18446744073709551616 from rfl, e1, e2]; exact wrap64s (by omega)
theorem rv_xorN {m m' : Nat} (ex : ev L x = some (.int .i64 (m : Int))) (ey : ev L y = some (.int .i64 (m' : Int))) (h : m < 9223372036854775808) (h' : m' < 9223372036854775808) : RV P K w0 n L Fs (.binOp .xor t x y t') ty (.int .i64 ((m ^^^ m' : Nat) : Int)) :=
  rv_bin ex ey fun w => by
    have e2 : (eqGuard .xor t x y (.int .i64 (m : Int)) (.int .i64 (m' : Int))).run P w = .ok () w := rfl
    rw [Sem.run_bind, e2, Result.andThen_ok]
    show Result.ok (Value.int .i64 (IntKind.wrap .i64 (((BitVec.ofInt 64 (m : Int) ^^^ BitVec.ofInt 64 (m' : Int)).toNat : Nat) : Int))) w = _
    rw [(nat_bits h h').1]
theorem rv_orN {m m' : Nat} (ex : ev L x = some (.int .i64 (m : Int))) (ey : ev L y = some (.int .i64 (m' : Int))) (h : m < 9223372036854775808) (h' : m' < 9223372036854775808) : RV P K w0 n L Fs (.binOp .or t x y t') ty (.int .i64 ((m ||| m' : Nat) : Int)) :=
  rv_bin ex ey fun w => by
    have e2 : (eqGuard .or t x y (.int .i64 (m : Int)) (.int .i64 (m' : Int))).run P w = .ok () w := rfl
    rw [Sem.run_bind, e2, Result.andThen_ok]
    show Result.ok (Value.int .i64 (IntKind.wrap .i64 (((BitVec.ofInt 64 (m : Int) ||| BitVec.ofInt 64 (m' : Int)).toNat : Nat) : Int))) w = _
    rw [(nat_bits h h').2.1]
theorem rv_mulI {a b : Int} (ex : ev L x = some (.int .i64 a)) (ey : ev L y = some (.int .i64 b)) (h : -9223372036854775808 ≤ a * b) (h' : a * b ≤ 9223372036854775807) : RV P K w0 n L Fs (.binOp .mul t x y t') ty (.int .i64 (a * b)) :=
  rv_bin ex ey fun w => by simp [eqGuard, binOp, Op.intArith, i64_small h h', go_sem]
theorem rv_quoN {m m' : Nat} (ex : ev L x = some (.int .i64 (m : Int))) (ey : ev L y = some (.int .i64 (m' : Int))) (h : m < 9223372036854775808) (h0 : m' ≠ 0) : RV P K w0 n L Fs (.binOp .quo t x y t') ty (.int .i64 ((m / m' : Nat) : Int)) :=
  rv_bin ex ey fun w => by
    have e : IntKind.wrap .i64 ((m : Int).tdiv (m' : Int)) = ((m / m' : Nat) : Int) := by
      have h1 : m / m' ≤ m := Nat.div_le_self _ _
      show IntKind.wrap .i64 (((m / m' : Nat) : Int)) = _
      exact wrap64s (by omega)
    have hb : ¬ ((m' : Int) = 0) := by omega
    have e2 : (eqGuard .quo t x y (.int .i64 (m : Int)) (.int .i64 (m' : Int))).run P w = .ok () w := rfl
    rw [Sem.run_bind, e2, Result.andThen_ok]
    show (Op.intDiv .quo .i64 (m : Int) (m' : Int)).run P w = _
    unfold Op.intDiv
    rw [if_neg hb]
    show Result.ok (Value.int .i64 (IntKind.wrap .i64 ((m : Int).tdiv (m' : Int)))) w = _
    rw [e]
theorem rv_remN {m m' : Nat} (ex : ev L x = some (.int .i64 (m : Int))) (ey : ev L y = some (.int .i64 (m' : Int))) (h0 : m' ≠ 0) : RV P K w0 n L Fs (.binOp .rem t x y t') ty (.int .i64 ((m % m' : Nat) : Int)) :=
  rv_bin ex ey fun w => by
    have e : (m : Int).tmod (m' : Int) = ((m % m' : Nat) : Int) := rfl
    simp [eqGuard, binOp, Op.intDiv, h0, e, go_sem]
theorem byts_ws (b : List UInt8) : byts b = ws8 b := rfl
end Go.Bz
