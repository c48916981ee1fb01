import Derived.Test.YtiiofagddljgdaaK
set_option linter.unusedVariables false
set_option linter.unusedSimpArgs false
namespace Go.Proofs.Ytiiofagddljgdaa
open Go Go.RowKit Go.Bz

variable {L : List (Nat × Value)} {Fs : List Pc} {ty : TypeId} {x y : Operand}
theorem rv_buildAp {P : Program} {K : Nat → Prop} {w0 : World} {n t m : Nat} {parts : List (Nat × Operand)} {ps : List (Nat × Value)} {zs cs : List Value} (hz : arrSz P t = some (m, 1)) (hz0 : zeroB P t = some (.agg zs.toArray)) (e : evp L parts = some ps) (hf : Instr.fill (fun i => some (i * 1, 1)) zs.toArray ps = some cs.toArray) :
    RV P K w0 n L Fs (.build t parts.toArray) ty (.agg cs.toArray) := by
  refine rv_build e fun w => ?_
  unfold arrSz at hz
  split at hz <;> try contradiction
  rename_i m' E hu
  obtain ⟨inf, hi, hh⟩ := Option.map_eq_some_iff.1 hz
  simp only [Prod.mk.injEq] at hh
  obtain ⟨rfl, hs⟩ := hh
  have hc : (Value.agg zs.toArray).cells = zs.toArray := rfl
  unfold Instr.build
  simp only [Sem.run_bind, run_zero hz0, Result.andThen_ok, run_underlying hu, Bz.run_sizeOf hi, hs, hc]
  rw [hf]
  simp [Sem.run_pure]
theorem num_inj {a b : UInt64} (h : num a = num b) : a = b := by
  have hd : ∀ n : UInt64, num n = [(n >>> UInt64.ofNat 56).toUInt8, (n >>> UInt64.ofNat 48).toUInt8, (n >>> UInt64.ofNat 40).toUInt8, (n >>> UInt64.ofNat 32).toUInt8, (n >>> UInt64.ofNat 24).toUInt8, (n >>> UInt64.ofNat 16).toUInt8, (n >>> UInt64.ofNat 8).toUInt8, (n >>> UInt64.ofNat 0).toUInt8] := fun _ => rfl
  rw [hd a, hd b] at h
  have hb : ∀ (n : UInt64) (k : Nat), k < 64 → ((n >>> UInt64.ofNat k).toUInt8).toNat = n.toNat / 2 ^ k % 256 := fun n k hk => by
    have e : (UInt64.ofNat k).toNat % 64 = k := by rw [UInt64.toNat_ofNat']; omega
    rw [UInt64.toNat_toUInt8, UInt64.toNat_shiftRight, e, Nat.shiftRight_eq_div_pow]
  simp only [List.cons.injEq, and_true, ← UInt8.toNat_inj] at h
  obtain ⟨h7, h6, h5, h4, h3, h2, h1, h0⟩ := h
  rw [hb _ _ (by omega), hb _ _ (by omega)] at h7 h6 h5 h4 h3 h2 h1 h0
  have ha := lt64 a
  have hbb := lt64 b
  apply UInt64.toNat_inj.1
  simp only [Nat.reducePow] at *
  omega
theorem rbytes_inj {e e' : UInt64} {p t z p' t' z' : Sh.B} (h1 : p.length = 32) (h2 : t.length = 32) (h3 : z.length = 32) (h4 : p'.length = 32) (h5 : t'.length = 32) (h6 : z'.length = 32) : rbytes e p t z = rbytes e' p' t' z' ↔ (e = e' ∧ p = p' ∧ t = t' ∧ z = z') := by
  constructor
  · intro h
    simp only [rbytes, List.cons.injEq, true_and] at h
    obtain ⟨ha, h⟩ := List.append_inj h (by rw [num_len, num_len])
    obtain ⟨hb, h⟩ := List.append_inj h (by omega)
    obtain ⟨hc, hd⟩ := List.append_inj h (by omega)
    exact ⟨num_inj ha, hb, hc, hd⟩
  · rintro ⟨rfl, rfl, rfl, rfl⟩; rfl
theorem two_inj {c : UInt8} {a b a' b' : Sh.B} (h : a.length = a'.length) : c :: (a ++ b) = c :: (a' ++ b') ↔ (a = a' ∧ b = b') := by
  constructor
  · intro h2
    simp only [List.cons.injEq, true_and] at h2
    exact List.append_inj h2 h
  · rintro ⟨rfl, rfl⟩; rfl
theorem vbytes_inj {s s' : Sh.B} {nm nm' : ByteArray} {key key' : Sh.B} {ser ser' : UInt64} (h1 : s.length = 32) (h2 : s'.length = 32) (hn : nm.size ≤ 1000000) (hn' : nm'.size ≤ 1000000) : vbytes s nm key ser = vbytes s' nm' key' ser' ↔ (s = s' ∧ (nm = nm' ∧ ser = ser' ∧ key = key')) := by
  constructor
  · intro h
    simp only [vbytes, List.cons.injEq, true_and] at h
    obtain ⟨ha, h⟩ := List.append_inj h (by omega)
    obtain ⟨hb, h⟩ := List.append_inj h (by rw [num_len, num_len])
    have hs : nm.size = nm'.size := by
      have := congrArg UInt64.toNat (num_inj hb)
      rw [UInt64.toNat_ofNat', UInt64.toNat_ofNat'] at this
      omega
    obtain ⟨hc, h⟩ := List.append_inj h hs
    obtain ⟨hd, he⟩ := List.append_inj h (by rw [num_len, num_len])
    refine ⟨ha, ?_, num_inj hd, he⟩
    cases nm; cases nm'; simp only [ByteArray.mk.injEq] at *
    exact Array.toList_inj.1 hc
  · rintro ⟨rfl, rfl, rfl, rfl⟩; rfl
theorem kind_leaf {a b : Sh.B} (ha : a.length = 32) (hb : b.length = 32) : kind (76 :: (a ++ b)) = 76 := by rw [kind, if_pos (.inr (.inl ⟨.inl rfl, by simp [ha, hb]⟩))]
theorem kind_node {a b : Sh.B} (ha : a.length = 32) (hb : b.length = 32) : kind (78 :: (a ++ b)) = 78 := by rw [kind, if_pos (.inr (.inl ⟨.inr rfl, by simp [ha, hb]⟩))]
theorem kind_val {s : Sh.B} {nm : ByteArray} {key : Sh.B} {ser : UInt64} (h1 : s.length = 32) (hn : nm.size ≤ 2000) (hk : key.length ≤ 2000) : kind (vbytes s nm key ser) = 86 := by
  have e : nm.data.toList.length = nm.size := rfl
  unfold vbytes
  rw [kind, if_pos (.inr (.inr (.inr ⟨rfl, by simp only [List.length_append, num_len, h1, e]; omega, by simp only [List.length_append, num_len, h1, e]; omega⟩)))]
theorem kind_rt {e : UInt64} {p t z : Sh.B} (h1 : p.length = 32) (h2 : t.length = 32) (h3 : z.length = 32) : kind (rbytes e p t z) = 82 := by
  unfold rbytes
  rw [kind, if_pos (.inr (.inr (.inl ⟨rfl, by simp only [List.length_append, num_len, h1, h2, h3]⟩)))]
end Go.Proofs.Ytiiofagddljgdaa
