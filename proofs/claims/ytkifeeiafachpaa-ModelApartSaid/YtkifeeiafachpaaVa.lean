import Derived.Test.YtkifeeiafachpaaP
set_option linter.unusedVariables false
set_option linter.unusedSimpArgs false
namespace Go.Proofs.Ytkifeeiafachpaa
open Go Go.RowKit Go.Bz

/-! names and bindings, plain -/
def okb (n : Nat) : Bool := decide ((97 ≤ n ∧ n ≤ 122) ∨ (48 ≤ n ∧ n ≤ 57) ∨ n = 46 ∨ n = 45)
def allb (l : Sh.B) : Bool := l.all fun b => okb b.toNat
def okn (nm : ByteArray) : Bool := decide (1 ≤ nm.size ∧ nm.size ≤ 32) && allb nm.data.toList
def chk (nm : ByteArray) (key : Sh.B) : Int := if okn nm then (if key.length < 1 ∨ 64 < key.length then 5 else 0) else 4
theorem chk_name {nm : ByteArray} (h : okn nm = false) (key : Sh.B) : chk nm key = 4 := by unfold chk; rw [if_neg (by simp [h])]
theorem chk_key {nm : ByteArray} {key : Sh.B} (h : okn nm = true) (hk : key.length < 1 ∨ 64 < key.length) : chk nm key = 5 := by unfold chk; rw [if_pos h, if_pos hk]
theorem chk_0 {nm : ByteArray} {key : Sh.B} (h : okn nm = true) (hk : ¬ (key.length < 1 ∨ 64 < key.length)) : chk nm key = 0 := by unfold chk; rw [if_pos h, if_neg hk]
theorem chk_inv {nm : ByteArray} {key : Sh.B} (h : chk nm key = 0) : nm.size ≤ 32 ∧ 1 ≤ key.length ∧ key.length ≤ 64 := by
  unfold chk okn at h
  split at h
  · rename_i h1
    simp only [Bool.and_eq_true, decide_eq_true_eq] at h1
    split at h
    · cases h
    · omega
  · cases h
theorem allb_step {l : Sh.B} {i : Nat} (h : i < l.length) (ha : allb (l.take i) = true) : allb (l.take (i + 1)) = okb (l.getD i 0).toNat := by
  unfold allb at *
  rw [List.take_succ_eq_append_getElem h, List.all_append, ha, List.getD_eq_getElem?_getD, List.getElem?_eq_getElem h]; simp
theorem allb_bad {l : Sh.B} {i : Nat} (h : i < l.length) (hb : okb (l.getD i 0).toNat = false) : allb l = false := by
  unfold allb
  rw [List.all_eq_false]
  refine ⟨l[i], List.getElem_mem h, ?_⟩
  rw [List.getD_eq_getElem?_getD, List.getElem?_eq_getElem h] at hb
  simpa using hb
theorem nm_len (nm : ByteArray) : nm.data.toList.length = nm.size := rfl
theorem nm_ne (nm : ByteArray) : (nm ≠ ByteArray.empty) ↔ 0 < nm.size := by
  constructor
  · intro h
    rcases Nat.eq_zero_or_pos nm.size with h0 | h0
    · exact absurd (ByteArray.size_eq_zero_iff.1 h0) h
    · exact h0
  · rintro h rfl; exact absurd h (by decide)
section
variable {P : Program} {K : Nat → Prop} {w0 : World} {n : Nat} {L : List (Nat × Value)} {Fs : List Pc} {ty : TypeId} {x i : Operand}
theorem rv_indexS {t : TypeId} {kk : IntKind} {iv : Int} {s : ByteArray} (j : Nat) (hu : P.underlying t = some .string) (e : ev L x = some (.string s)) (ei : ev L i = some (.int kk iv)) (hj : iv = (j : Int)) (hm : j < s.size) :
    RV P K w0 n L Fs (.index t x i) ty (v8 (s.data.toList.getD j 0)) := fun w a hs hf d pos af g => by
  subst hj
  simp only [execOp, hf.ev e, hf.ev ei]
  have h2 : s.data.toList.getD j 0 = s[j] := by
    rw [List.getD_eq_getElem?_getD, List.getElem?_eq_getElem (show j < s.data.toList.length from hm)]; rfl
  have h1 := run_index_string (P := P) w t s kk (j : Int) hu
  rw [dif_pos (show 0 ≤ (j : Int) ∧ (j : Int) < s.size by omega)] at h1
  rw [h2]
  simp only [Sem.run_bind, Sem.run_pure, h1, Result.andThen_ok]
  rfl
end
set_option maxRecDepth 100000 in
set_option maxHeartbeats 1000000 in
theorem name_c (nm : ByteArray) (w : World) (hs : nm.size < 4611686018427387904) : Calls Try.prog 55 [.string nm].toArray w fun e w' => ∃ _g : Unit, e = .returned (.bool (okn nm)) ∧ St noB w w' [] ∧ True := by
  refine GC.calls Try.func55 rfl rfl (St.begin _) ?_
  refine GC.seq ?_
  refine GC.reg ?_
  refine GL.val (rv_assign rfl) rfl ?_
  refine GL.nil ?_
  refine GX.then ?_
  refine GC.seq ?_
  refine GC.seq ?_
  refine GC.reg ?_
  refine GL.val (rv_assign rfl) rfl ?_
  refine GL.nil ?_
  refine GX.then ?_
  refine GC.block ?_
  refine GC.loopK (γ := Nat) [0] [] (fun g Lk => (3, .int .i64 (g : Int)) :: Lk) (fun g Fk => Fk) (fun g => (g ≤ nm.size) ∧ (allb (nm.data.toList.take g) = true)) (fun g => nm.size - g) (0) rfl rfl ⟨Nat.zero_le _, rfl⟩ (by repeat (first | exact Sub.nil | refine Sub.cons rfl ?_)) (fun w9 h => by
      exact h) (fun i ⟨hi, ha⟩ => ?_)
  skip
  refine GC.seq ?_
  refine GC.seq ?_
  refine GC.reg ?_
  refine GL.val (rv_move rfl) rfl ?_
  refine GL.val (rv_move rfl) rfl ?_
  refine GL.val (rv_lenS Try.underlying9 rfl) rfl ?_
  refine GL.val (rv_lss rfl rfl) rfl ?_
  refine GL.nil ?_
  refine GX.then ?_
  refine GC.condP rfl (fun c8 => ?_) (fun c8 => ?_)
  · have hlt : i < nm.size := by omega
    refine GC.skip ?_
    refine GX.then ?_
    refine GC.seq ?_
    refine GC.block ?_
    refine GC.seq ?_
    refine GC.reg ?_
    refine GL.val (rv_move rfl) rfl ?_
    refine GL.val (rv_move rfl) rfl ?_
    refine GL.val (rv_indexS i Try.underlying9 rfl rfl rfl (by omega)) rfl ?_
    refine GL.val (rv_assign rfl) rfl ?_
    refine GL.nil ?_
    refine GX.then ?_
    refine GC.seq ?_
    refine GC.cutq (γ := Unit) [3, 0] [] (fun g Lk => (36, .bool (!okb (nm.data.toList.getD i 0).toNat)) :: Lk) (fun g Fk => Fk) (fun g => True) rfl rfl ?_ (fun _ _ => ?_)
    · rcases (by omega : (122 < (nm.data.toList.getD i 0).toNat) ∨ (97 ≤ (nm.data.toList.getD i 0).toNat ∧ (nm.data.toList.getD i 0).toNat ≤ 122) ∨ (57 < (nm.data.toList.getD i 0).toNat ∧ (nm.data.toList.getD i 0).toNat < 97) ∨ (48 ≤ (nm.data.toList.getD i 0).toNat ∧ (nm.data.toList.getD i 0).toNat ≤ 57) ∨ ((nm.data.toList.getD i 0).toNat = 47) ∨ ((nm.data.toList.getD i 0).toNat = 46) ∨ ((nm.data.toList.getD i 0).toNat = 45) ∨ ((nm.data.toList.getD i 0).toNat < 45)) with h | h | h | h | h | h | h | h
      · rw [show okb (nm.data.toList.getD i 0).toNat = false from by unfold okb; exact decide_eq_false (by omega)]
        refine GC.reg ?_
        refine GL.val (rv_move rfl) rfl ?_
        refine GL.val ((by exact rv_to (v' := .bool true) (rv_geq rfl rfl) (by simp only [Value.bool.injEq, decide_eq_true_eq, decide_eq_false_iff_not]; first | assumption | omega))) rfl ?_
        refine GL.val (rv_move rfl) rfl ?_
        refine GL.valT rfl (rv_move rfl) rfl ?_
        refine GL.valT rfl ((by exact rv_to (v' := .bool false) (rv_leq rfl rfl) (by simp only [Value.bool.injEq, decide_eq_true_eq, decide_eq_false_iff_not]; first | assumption | omega))) rfl ?_
        refine GL.val ((by exact rv_andT rfl rfl rfl)) rfl ?_
        refine GL.val (rv_move rfl) rfl ?_
        refine GL.valT rfl (rv_move rfl) rfl ?_
        refine GL.valT rfl ((by exact rv_to (v' := .bool true) (rv_geq rfl rfl) (by simp only [Value.bool.injEq, decide_eq_true_eq, decide_eq_false_iff_not]; first | assumption | omega))) rfl ?_
        refine GL.valT rfl (rv_move rfl) rfl ?_
        refine GL.valT rfl (rv_move rfl) rfl ?_
        refine GL.valT rfl ((by exact rv_to (v' := .bool false) (rv_leq rfl rfl) (by simp only [Value.bool.injEq, decide_eq_true_eq, decide_eq_false_iff_not]; first | assumption | omega))) rfl ?_
        refine GL.valT rfl ((by exact rv_andT rfl rfl rfl)) rfl ?_
        refine GL.val ((by exact rv_orF rfl rfl rfl)) rfl ?_
        refine GL.val (rv_move rfl) rfl ?_
        refine GL.valT rfl (rv_move rfl) rfl ?_
        refine GL.valT rfl ((by exact rv_to (v' := .bool false) (rv_eqI rfl rfl) (by simp only [Value.bool.injEq, decide_eq_true_eq, decide_eq_false_iff_not]; first | assumption | omega))) rfl ?_
        refine GL.val ((by exact rv_orF rfl rfl rfl)) rfl ?_
        refine GL.val (rv_move rfl) rfl ?_
        refine GL.valT rfl (rv_move rfl) rfl ?_
        refine GL.valT rfl ((by exact rv_to (v' := .bool false) (rv_eqI rfl rfl) (by simp only [Value.bool.injEq, decide_eq_true_eq, decide_eq_false_iff_not]; first | assumption | omega))) rfl ?_
        refine GL.val ((by exact rv_orF rfl rfl rfl)) rfl ?_
        refine GL.val (rv_not rfl) rfl ?_
        refine GL.nil ?_
        exact GX.cutq () trivial (by repeat (first | exact Sub.nil | refine Sub.cons rfl ?_)) (fun w9 h => by
            exact h)
      · rw [show okb (nm.data.toList.getD i 0).toNat = true from by unfold okb; exact decide_eq_true (by omega)]
        refine GC.reg ?_
        refine GL.val (rv_move rfl) rfl ?_
        refine GL.val ((by exact rv_to (v' := .bool true) (rv_geq rfl rfl) (by simp only [Value.bool.injEq, decide_eq_true_eq, decide_eq_false_iff_not]; first | assumption | omega))) rfl ?_
        refine GL.val (rv_move rfl) rfl ?_
        refine GL.valT rfl (rv_move rfl) rfl ?_
        refine GL.valT rfl ((by exact rv_to (v' := .bool true) (rv_leq rfl rfl) (by simp only [Value.bool.injEq, decide_eq_true_eq, decide_eq_false_iff_not]; first | assumption | omega))) rfl ?_
        refine GL.val ((by exact rv_andT rfl rfl rfl)) rfl ?_
        refine GL.val (rv_move rfl) rfl ?_
        refine GL.skipG rfl rfl ?_
        refine GL.skipG rfl rfl ?_
        refine GL.skipG rfl rfl ?_
        refine GL.skipU rfl rfl ?_
        refine GL.skipU rfl rfl ?_
        refine GL.skipG rfl rfl ?_
        refine GL.val ((by exact rv_orT rfl rfl rfl)) rfl ?_
        refine GL.val (rv_move rfl) rfl ?_
        refine GL.skipG rfl rfl ?_
        refine GL.skipG rfl rfl ?_
        refine GL.val ((by exact rv_orT rfl rfl rfl)) rfl ?_
        refine GL.val (rv_move rfl) rfl ?_
        refine GL.skipG rfl rfl ?_
        refine GL.skipG rfl rfl ?_
        refine GL.val ((by exact rv_orT rfl rfl rfl)) rfl ?_
        refine GL.val (rv_not rfl) rfl ?_
        refine GL.nil ?_
        exact GX.cutq () trivial (by repeat (first | exact Sub.nil | refine Sub.cons rfl ?_)) (fun w9 h => by
            exact h)
      · rw [show okb (nm.data.toList.getD i 0).toNat = false from by unfold okb; exact decide_eq_false (by omega)]
        refine GC.reg ?_
        refine GL.val (rv_move rfl) rfl ?_
        refine GL.val ((by exact rv_to (v' := .bool false) (rv_geq rfl rfl) (by simp only [Value.bool.injEq, decide_eq_true_eq, decide_eq_false_iff_not]; first | assumption | omega))) rfl ?_
        refine GL.val (rv_move rfl) rfl ?_
        refine GL.skipG rfl rfl ?_
        refine GL.skipG rfl rfl ?_
        refine GL.val ((by exact rv_andF rfl rfl rfl)) rfl ?_
        refine GL.val (rv_move rfl) rfl ?_
        refine GL.valT rfl (rv_move rfl) rfl ?_
        refine GL.valT rfl ((by exact rv_to (v' := .bool true) (rv_geq rfl rfl) (by simp only [Value.bool.injEq, decide_eq_true_eq, decide_eq_false_iff_not]; first | assumption | omega))) rfl ?_
        refine GL.valT rfl (rv_move rfl) rfl ?_
        refine GL.valT rfl (rv_move rfl) rfl ?_
        refine GL.valT rfl ((by exact rv_to (v' := .bool false) (rv_leq rfl rfl) (by simp only [Value.bool.injEq, decide_eq_true_eq, decide_eq_false_iff_not]; first | assumption | omega))) rfl ?_
        refine GL.valT rfl ((by exact rv_andT rfl rfl rfl)) rfl ?_
        refine GL.val ((by exact rv_orF rfl rfl rfl)) rfl ?_
        refine GL.val (rv_move rfl) rfl ?_
        refine GL.valT rfl (rv_move rfl) rfl ?_
        refine GL.valT rfl ((by exact rv_to (v' := .bool false) (rv_eqI rfl rfl) (by simp only [Value.bool.injEq, decide_eq_true_eq, decide_eq_false_iff_not]; first | assumption | omega))) rfl ?_
        refine GL.val ((by exact rv_orF rfl rfl rfl)) rfl ?_
        refine GL.val (rv_move rfl) rfl ?_
        refine GL.valT rfl (rv_move rfl) rfl ?_
        refine GL.valT rfl ((by exact rv_to (v' := .bool false) (rv_eqI rfl rfl) (by simp only [Value.bool.injEq, decide_eq_true_eq, decide_eq_false_iff_not]; first | assumption | omega))) rfl ?_
        refine GL.val ((by exact rv_orF rfl rfl rfl)) rfl ?_
        refine GL.val (rv_not rfl) rfl ?_
        refine GL.nil ?_
        exact GX.cutq () trivial (by repeat (first | exact Sub.nil | refine Sub.cons rfl ?_)) (fun w9 h => by
            exact h)
      · rw [show okb (nm.data.toList.getD i 0).toNat = true from by unfold okb; exact decide_eq_true (by omega)]
        refine GC.reg ?_
        refine GL.val (rv_move rfl) rfl ?_
        refine GL.val ((by exact rv_to (v' := .bool false) (rv_geq rfl rfl) (by simp only [Value.bool.injEq, decide_eq_true_eq, decide_eq_false_iff_not]; first | assumption | omega))) rfl ?_
        refine GL.val (rv_move rfl) rfl ?_
        refine GL.skipG rfl rfl ?_
        refine GL.skipG rfl rfl ?_
        refine GL.val ((by exact rv_andF rfl rfl rfl)) rfl ?_
        refine GL.val (rv_move rfl) rfl ?_
        refine GL.valT rfl (rv_move rfl) rfl ?_
        refine GL.valT rfl ((by exact rv_to (v' := .bool true) (rv_geq rfl rfl) (by simp only [Value.bool.injEq, decide_eq_true_eq, decide_eq_false_iff_not]; first | assumption | omega))) rfl ?_
        refine GL.valT rfl (rv_move rfl) rfl ?_
        refine GL.valT rfl (rv_move rfl) rfl ?_
        refine GL.valT rfl ((by exact rv_to (v' := .bool true) (rv_leq rfl rfl) (by simp only [Value.bool.injEq, decide_eq_true_eq, decide_eq_false_iff_not]; first | assumption | omega))) rfl ?_
        refine GL.valT rfl ((by exact rv_andT rfl rfl rfl)) rfl ?_
        refine GL.val ((by exact rv_orF rfl rfl rfl)) rfl ?_
        refine GL.val (rv_move rfl) rfl ?_
        refine GL.skipG rfl rfl ?_
        refine GL.skipG rfl rfl ?_
        refine GL.val ((by exact rv_orT rfl rfl rfl)) rfl ?_
        refine GL.val (rv_move rfl) rfl ?_
        refine GL.skipG rfl rfl ?_
        refine GL.skipG rfl rfl ?_
        refine GL.val ((by exact rv_orT rfl rfl rfl)) rfl ?_
        refine GL.val (rv_not rfl) rfl ?_
        refine GL.nil ?_
        exact GX.cutq () trivial (by repeat (first | exact Sub.nil | refine Sub.cons rfl ?_)) (fun w9 h => by
            exact h)
      · rw [show okb (nm.data.toList.getD i 0).toNat = false from by unfold okb; exact decide_eq_false (by omega)]
        refine GC.reg ?_
        refine GL.val (rv_move rfl) rfl ?_
        refine GL.val ((by exact rv_to (v' := .bool false) (rv_geq rfl rfl) (by simp only [Value.bool.injEq, decide_eq_true_eq, decide_eq_false_iff_not]; first | assumption | omega))) rfl ?_
        refine GL.val (rv_move rfl) rfl ?_
        refine GL.skipG rfl rfl ?_
        refine GL.skipG rfl rfl ?_
        refine GL.val ((by exact rv_andF rfl rfl rfl)) rfl ?_
        refine GL.val (rv_move rfl) rfl ?_
        refine GL.valT rfl (rv_move rfl) rfl ?_
        refine GL.valT rfl ((by exact rv_to (v' := .bool false) (rv_geq rfl rfl) (by simp only [Value.bool.injEq, decide_eq_true_eq, decide_eq_false_iff_not]; first | assumption | omega))) rfl ?_
        refine GL.valT rfl (rv_move rfl) rfl ?_
        refine GL.skipG rfl rfl ?_
        refine GL.skipG rfl rfl ?_
        refine GL.valT rfl ((by exact rv_andF rfl rfl rfl)) rfl ?_
        refine GL.val ((by exact rv_orF rfl rfl rfl)) rfl ?_
        refine GL.val (rv_move rfl) rfl ?_
        refine GL.valT rfl (rv_move rfl) rfl ?_
        refine GL.valT rfl ((by exact rv_to (v' := .bool false) (rv_eqI rfl rfl) (by simp only [Value.bool.injEq, decide_eq_true_eq, decide_eq_false_iff_not]; first | assumption | omega))) rfl ?_
        refine GL.val ((by exact rv_orF rfl rfl rfl)) rfl ?_
        refine GL.val (rv_move rfl) rfl ?_
        refine GL.valT rfl (rv_move rfl) rfl ?_
        refine GL.valT rfl ((by exact rv_to (v' := .bool false) (rv_eqI rfl rfl) (by simp only [Value.bool.injEq, decide_eq_true_eq, decide_eq_false_iff_not]; first | assumption | omega))) rfl ?_
        refine GL.val ((by exact rv_orF rfl rfl rfl)) rfl ?_
        refine GL.val (rv_not rfl) rfl ?_
        refine GL.nil ?_
        exact GX.cutq () trivial (by repeat (first | exact Sub.nil | refine Sub.cons rfl ?_)) (fun w9 h => by
            exact h)
      · rw [show okb (nm.data.toList.getD i 0).toNat = true from by unfold okb; exact decide_eq_true (by omega)]
        refine GC.reg ?_
        refine GL.val (rv_move rfl) rfl ?_
        refine GL.val ((by exact rv_to (v' := .bool false) (rv_geq rfl rfl) (by simp only [Value.bool.injEq, decide_eq_true_eq, decide_eq_false_iff_not]; first | assumption | omega))) rfl ?_
        refine GL.val (rv_move rfl) rfl ?_
        refine GL.skipG rfl rfl ?_
        refine GL.skipG rfl rfl ?_
        refine GL.val ((by exact rv_andF rfl rfl rfl)) rfl ?_
        refine GL.val (rv_move rfl) rfl ?_
        refine GL.valT rfl (rv_move rfl) rfl ?_
        refine GL.valT rfl ((by exact rv_to (v' := .bool false) (rv_geq rfl rfl) (by simp only [Value.bool.injEq, decide_eq_true_eq, decide_eq_false_iff_not]; first | assumption | omega))) rfl ?_
        refine GL.valT rfl (rv_move rfl) rfl ?_
        refine GL.skipG rfl rfl ?_
        refine GL.skipG rfl rfl ?_
        refine GL.valT rfl ((by exact rv_andF rfl rfl rfl)) rfl ?_
        refine GL.val ((by exact rv_orF rfl rfl rfl)) rfl ?_
        refine GL.val (rv_move rfl) rfl ?_
        refine GL.valT rfl (rv_move rfl) rfl ?_
        refine GL.valT rfl ((by exact rv_to (v' := .bool true) (rv_eqI rfl rfl) (by simp only [Value.bool.injEq, decide_eq_true_eq, decide_eq_false_iff_not]; first | assumption | omega))) rfl ?_
        refine GL.val ((by exact rv_orF rfl rfl rfl)) rfl ?_
        refine GL.val (rv_move rfl) rfl ?_
        refine GL.skipG rfl rfl ?_
        refine GL.skipG rfl rfl ?_
        refine GL.val ((by exact rv_orT rfl rfl rfl)) rfl ?_
        refine GL.val (rv_not rfl) rfl ?_
        refine GL.nil ?_
        exact GX.cutq () trivial (by repeat (first | exact Sub.nil | refine Sub.cons rfl ?_)) (fun w9 h => by
            exact h)
      · rw [show okb (nm.data.toList.getD i 0).toNat = true from by unfold okb; exact decide_eq_true (by omega)]
        refine GC.reg ?_
        refine GL.val (rv_move rfl) rfl ?_
        refine GL.val ((by exact rv_to (v' := .bool false) (rv_geq rfl rfl) (by simp only [Value.bool.injEq, decide_eq_true_eq, decide_eq_false_iff_not]; first | assumption | omega))) rfl ?_
        refine GL.val (rv_move rfl) rfl ?_
        refine GL.skipG rfl rfl ?_
        refine GL.skipG rfl rfl ?_
        refine GL.val ((by exact rv_andF rfl rfl rfl)) rfl ?_
        refine GL.val (rv_move rfl) rfl ?_
        refine GL.valT rfl (rv_move rfl) rfl ?_
        refine GL.valT rfl ((by exact rv_to (v' := .bool false) (rv_geq rfl rfl) (by simp only [Value.bool.injEq, decide_eq_true_eq, decide_eq_false_iff_not]; first | assumption | omega))) rfl ?_
        refine GL.valT rfl (rv_move rfl) rfl ?_
        refine GL.skipG rfl rfl ?_
        refine GL.skipG rfl rfl ?_
        refine GL.valT rfl ((by exact rv_andF rfl rfl rfl)) rfl ?_
        refine GL.val ((by exact rv_orF rfl rfl rfl)) rfl ?_
        refine GL.val (rv_move rfl) rfl ?_
        refine GL.valT rfl (rv_move rfl) rfl ?_
        refine GL.valT rfl ((by exact rv_to (v' := .bool false) (rv_eqI rfl rfl) (by simp only [Value.bool.injEq, decide_eq_true_eq, decide_eq_false_iff_not]; first | assumption | omega))) rfl ?_
        refine GL.val ((by exact rv_orF rfl rfl rfl)) rfl ?_
        refine GL.val (rv_move rfl) rfl ?_
        refine GL.valT rfl (rv_move rfl) rfl ?_
        refine GL.valT rfl ((by exact rv_to (v' := .bool true) (rv_eqI rfl rfl) (by simp only [Value.bool.injEq, decide_eq_true_eq, decide_eq_false_iff_not]; first | assumption | omega))) rfl ?_
        refine GL.val ((by exact rv_orF rfl rfl rfl)) rfl ?_
        refine GL.val (rv_not rfl) rfl ?_
        refine GL.nil ?_
        exact GX.cutq () trivial (by repeat (first | exact Sub.nil | refine Sub.cons rfl ?_)) (fun w9 h => by
            exact h)
      · rw [show okb (nm.data.toList.getD i 0).toNat = false from by unfold okb; exact decide_eq_false (by omega)]
        refine GC.reg ?_
        refine GL.val (rv_move rfl) rfl ?_
        refine GL.val ((by exact rv_to (v' := .bool false) (rv_geq rfl rfl) (by simp only [Value.bool.injEq, decide_eq_true_eq, decide_eq_false_iff_not]; first | assumption | omega))) rfl ?_
        refine GL.val (rv_move rfl) rfl ?_
        refine GL.skipG rfl rfl ?_
        refine GL.skipG rfl rfl ?_
        refine GL.val ((by exact rv_andF rfl rfl rfl)) rfl ?_
        refine GL.val (rv_move rfl) rfl ?_
        refine GL.valT rfl (rv_move rfl) rfl ?_
        refine GL.valT rfl ((by exact rv_to (v' := .bool false) (rv_geq rfl rfl) (by simp only [Value.bool.injEq, decide_eq_true_eq, decide_eq_false_iff_not]; first | assumption | omega))) rfl ?_
        refine GL.valT rfl (rv_move rfl) rfl ?_
        refine GL.skipG rfl rfl ?_
        refine GL.skipG rfl rfl ?_
        refine GL.valT rfl ((by exact rv_andF rfl rfl rfl)) rfl ?_
        refine GL.val ((by exact rv_orF rfl rfl rfl)) rfl ?_
        refine GL.val (rv_move rfl) rfl ?_
        refine GL.valT rfl (rv_move rfl) rfl ?_
        refine GL.valT rfl ((by exact rv_to (v' := .bool false) (rv_eqI rfl rfl) (by simp only [Value.bool.injEq, decide_eq_true_eq, decide_eq_false_iff_not]; first | assumption | omega))) rfl ?_
        refine GL.val ((by exact rv_orF rfl rfl rfl)) rfl ?_
        refine GL.val (rv_move rfl) rfl ?_
        refine GL.valT rfl (rv_move rfl) rfl ?_
        refine GL.valT rfl ((by exact rv_to (v' := .bool false) (rv_eqI rfl rfl) (by simp only [Value.bool.injEq, decide_eq_true_eq, decide_eq_false_iff_not]; first | assumption | omega))) rfl ?_
        refine GL.val ((by exact rv_orF rfl rfl rfl)) rfl ?_
        refine GL.val (rv_not rfl) rfl ?_
        refine GL.nil ?_
        exact GX.cutq () trivial (by repeat (first | exact Sub.nil | refine Sub.cons rfl ?_)) (fun w9 h => by
            exact h)
    refine GX.then ?_
    refine GC.cond rfl (fun c36 => ?_) (fun c36 => ?_)
    · skip
      refine GC.seq ?_
      refine GC.reg ?_
      refine GL.val (rv_assign rfl) rfl ?_
      refine GL.nil ?_
      refine GX.then ?_
      refine GC.ret ?_
      refine GX.blk_ret ?_
      refine GX.then_ret ?_
      refine GX.then_ret ?_
      refine GX.blk_ret ?_
      refine GX.then_ret ?_
      refine GX.ret1 rfl (RR.tmp rfl) ?_
      exact fun w9 h => ⟨(), (by unfold okn; rw [allb_bad (i := i) (by rw [nm_len]; omega) (by simpa using c36), Bool.and_false]), by
          exact h, trivial⟩
    · skip
      refine GC.skip ?_
      refine GX.blk ?_
      refine GX.then ?_
      refine GC.reg ?_
      refine GL.val (rv_move rfl) rfl ?_
      refine GL.val (rv_add rfl rfl (by omega) (by omega)) rfl ?_
      refine GL.val (rv_assign rfl) rfl ?_
      refine GL.nil ?_
      exact GX.round (i + 1) (by omega) ⟨by omega, by rw [allb_step (by rw [nm_len]; omega) ha]; simpa using c36⟩ (by repeat (first | exact Sub.nil | refine Sub.cons rfl ?_)) (fun w9 h => by
          exact h)
  · obtain rfl : i = nm.size := by omega
    rw [List.take_of_length_le (by rw [nm_len]; omega)] at ha
    refine GC.exit ?_
    refine GX.then_exit ?_
    refine GX.then_exit ?_
    refine GX.blk_eq ?_
    refine GX.then ?_
    refine GC.seq ?_
    refine GC.cutq (γ := Unit) [] [] (fun g Lk => (2, .bool (decide (1 ≤ nm.size ∧ nm.size ≤ 32))) :: Lk) (fun g Fk => Fk) (fun g => True) rfl rfl ?_ (fun _ _ => ?_)
    · rcases (by omega : (nm.size = 0) ∨ (1 ≤ nm.size ∧ nm.size ≤ 32) ∨ (32 < nm.size)) with h | h | h
      · rw [show decide (1 ≤ nm.size ∧ nm.size ≤ 32) = false from decide_eq_false (by omega)]
        refine GC.reg ?_
        refine GL.val (rv_move rfl) rfl ?_
        refine GL.val ((by exact rv_to (v' := .bool false) (rv_neS rfl rfl) (congrArg Value.bool (decide_eq_false fun h => absurd ((nm_ne nm).1 h) (by omega))))) rfl ?_
        refine GL.val (rv_move rfl) rfl ?_
        refine GL.skipG rfl rfl ?_
        refine GL.skipG rfl rfl ?_
        refine GL.skipG rfl rfl ?_
        refine GL.val ((by exact rv_andF rfl rfl rfl)) rfl ?_
        refine GL.val (rv_assign rfl) rfl ?_
        refine GL.nil ?_
        exact GX.cutq () trivial (by repeat (first | exact Sub.nil | refine Sub.cons rfl ?_)) (fun w9 h => by
            exact h)
      · rw [show decide (1 ≤ nm.size ∧ nm.size ≤ 32) = true from decide_eq_true h]
        refine GC.reg ?_
        refine GL.val (rv_move rfl) rfl ?_
        refine GL.val ((by exact rv_to (v' := .bool true) (rv_neS rfl rfl) (congrArg Value.bool (decide_eq_true ((nm_ne nm).2 (by omega)))))) rfl ?_
        refine GL.val (rv_move rfl) rfl ?_
        refine GL.valT rfl (rv_move rfl) rfl ?_
        refine GL.valT rfl (rv_lenS Try.underlying9 rfl) rfl ?_
        refine GL.valT rfl ((by exact rv_to (v' := .bool true) (rv_leq rfl rfl) (by simp only [Value.bool.injEq, decide_eq_true_eq, decide_eq_false_iff_not]; first | assumption | omega))) rfl ?_
        refine GL.val ((by exact rv_andT rfl rfl rfl)) rfl ?_
        refine GL.val (rv_assign rfl) rfl ?_
        refine GL.nil ?_
        exact GX.cutq () trivial (by repeat (first | exact Sub.nil | refine Sub.cons rfl ?_)) (fun w9 h => by
            exact h)
      · rw [show decide (1 ≤ nm.size ∧ nm.size ≤ 32) = false from decide_eq_false (by omega)]
        refine GC.reg ?_
        refine GL.val (rv_move rfl) rfl ?_
        refine GL.val ((by exact rv_to (v' := .bool true) (rv_neS rfl rfl) (congrArg Value.bool (decide_eq_true ((nm_ne nm).2 (by omega)))))) rfl ?_
        refine GL.val (rv_move rfl) rfl ?_
        refine GL.valT rfl (rv_move rfl) rfl ?_
        refine GL.valT rfl (rv_lenS Try.underlying9 rfl) rfl ?_
        refine GL.valT rfl ((by exact rv_to (v' := .bool false) (rv_leq rfl rfl) (by simp only [Value.bool.injEq, decide_eq_true_eq, decide_eq_false_iff_not]; first | assumption | omega))) rfl ?_
        refine GL.val ((by exact rv_andT rfl rfl rfl)) rfl ?_
        refine GL.val (rv_assign rfl) rfl ?_
        refine GL.nil ?_
        exact GX.cutq () trivial (by repeat (first | exact Sub.nil | refine Sub.cons rfl ?_)) (fun w9 h => by
            exact h)
    refine GX.then ?_
    refine GC.ret ?_
    refine GX.ret1 rfl (RR.tmp rfl) ?_
    exact fun w9 h => ⟨(), (by unfold okn; rw [ha, Bool.and_true]), by
        exact h, trivial⟩
end Go.Proofs.Ytkifeeiafachpaa
