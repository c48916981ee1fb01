import Derived.Test.YtkifeeiafachpaaVe
import Derived.Test.YtkifeeiafachpaaCat
set_option linter.unusedVariables false
set_option linter.unusedSimpArgs false
namespace Go.Proofs.Ytkifeeiafachpaa
section
open Go Go.RowKit Go.Bz
theorem ei_22 : elemInfo Try.prog 22 = some (46, 1, 24) := by kernel_rfl
theorem ei_23 : elemInfo Try.prog 23 = some (31, 35, 80) := by kernel_rfl
theorem ei_46 : elemInfo Try.prog 46 = some (49, 3, 48) := by kernel_rfl
theorem hb_60 : hasBody Try.prog 60 = true := by kernel_rfl
theorem hb_66 : hasBody Try.prog 66 = true := by kernel_rfl
/-! bindings and requests with their addresses -/
abbrev BindZ := ByteArray × Sh.B × (Option Addr × Nat) × UInt64
def bzc (z : BindZ) : List Value := bcell z.1 z.2.1 z.2.2.1.1 z.2.2.1.2 z.2.2.2
abbrev ReqZ := Int × ByteArray × Sh.B × (Option Addr × Nat) × Sh.B
def qzc (z : ReqZ) : List Value := qcell z.1 z.2.1 z.2.2.1 z.2.2.2.1.1 z.2.2.2.1.2 z.2.2.2.2
theorem bz_len {l : List BindZ} : ∀ x ∈ l, (bzc x).length = 3 := fun _ _ => rfl
theorem bz_one {l : List BindZ} : (fcat bzc l).all Value.oneCell' = true := fcat_one' fun _ _ => rfl
theorem bz_one1 (x : BindZ) : (bzc x).all Value.oneCell' = true := rfl
abbrev Bd := ByteArray × Sh.B × UInt64
def bpl (z : BindZ) : Bd := (z.1, z.2.1, z.2.2.2)
/-- where a name stands, or would -/
def lbn (l : List ByteArray) (s : ByteArray) : Nat := (l.takeWhile fun x => decide (nlt x s)).length
def Srt (l : List ByteArray) : Prop := ∀ i j (hi : i < l.length) (hj : j < l.length), i < j → nlt l[i] l[j]
theorem lbn_eq {l : List ByteArray} {s : ByteArray} {i : Nat} (hi : i ≤ l.length) (h1 : ∀ k (hk : k < l.length), k < i → nlt l[k] s) (h2 : ∀ (hk : i < l.length), ¬ nlt l[i] s) : lbn l s = i := by
  unfold lbn
  induction l generalizing i with
  | nil => simp at hi; simp [hi]
  | cons x l ih =>
    cases i with
    | zero =>
      have := h2 (by simp)
      simp at this
      simp [List.takeWhile_cons, this]
    | succ i =>
      have h0 := h1 0 (by simp) (by omega)
      simp at h0
      simp only [List.takeWhile_cons, h0, decide_true, if_true, List.length_cons]
      rw [ih (i := i) (by simpa using hi) (fun k hk hki => by have := h1 (k + 1) (by simpa using hk) (by omega); simpa using this) (fun hk => by have := h2 (by simpa using hk); simpa using this)]
theorem lbn_le (l : List ByteArray) (s : ByteArray) : lbn l s ≤ l.length := by
  unfold lbn; exact (List.takeWhile_sublist _).length_le
def nms (l : List BindZ) : List ByteArray := l.map fun b => b.1
theorem nms_len (l : List BindZ) : (nms l).length = l.length := by simp [nms]
theorem nms_get (l : List BindZ) (i : Nat) (h : i < l.length) : (nms l)[i]'(by rw [nms_len]; exact h) = l[i].1 := by simp [nms]
def hasN (l : List ByteArray) (s : ByteArray) : Bool := decide (lbn l s < l.length ∧ l.getD (lbn l s) ByteArray.empty = s)
theorem Srt.mono {l : List ByteArray} {s : ByteArray} (h : Srt l) {i j : Nat} (hij : i ≤ j) (hj : j < l.length) (k : nlt l[j] s) : nlt (l[i]'(by omega)) s := by
  rcases Nat.lt_or_ge i j with h1 | h1
  · exact nlt_trans (h i j (by omega) hj h1) k
  · have : i = j := by omega
    subst this; exact k
theorem Srt.mono' {l : List ByteArray} {s : ByteArray} (h : Srt l) {i j : Nat} (hij : i ≤ j) (hj : j < l.length) (k : ¬ nlt (l[i]'(by omega)) s) : ¬ nlt l[j] s := fun hh => k (h.mono hij hj hh)
set_option maxRecDepth 100000 in
set_option maxHeartbeats 1000000 in
theorem cloneB_c (A : Option Addr) (n c : Nat) (us : List Value) (w : World) (hR : SlR w A us) (hl : us.length = n * 3) (h1 : us.all Value.oneCell' = true) (hn : n ≤ 1000000) : Calls Try.prog 53 [.slice A n c].toArray w fun e w' => ∃ g : Option Addr × Nat, e = .returned (.slice g.1 n g.2) ∧ St noB w w' [Pc.row g.1 g.2 49 3 n us] ∧ True := by
  refine GC.calls Try.func53 rfl rfl (St.begin _) ?_
  have hA : A.isNone = true → us = [] := fun h => by
    rcases hR with h | ⟨b', o, rfl, _⟩
    · exact h
    · cases h
  refine GC.seq ?_
  refine GC.reg ?_
  refine GL.val (rv_assign rfl) rfl ?_
  refine GL.nil ?_
  refine GX.then ?_
  refine GC.seq ?_
  refine GC.seq ?_
  refine GC.reg ?_
  refine GL.val (rv_move rfl) rfl ?_
  refine GL.val (rv_slNil Try.underlying46 rfl rfl) rfl ?_
  refine GL.nil ?_
  refine GX.then ?_
  refine GC.cond rfl (fun c4 => ?_) (fun c4 => ?_)
  · obtain rfl : us = [] := hA c4
    obtain rfl : n = 0 := by simp at hl; omega
    refine GC.seq ?_
    refine GC.reg ?_
    refine GL.val (rv_assign rfl) rfl ?_
    refine GL.nil ?_
    refine GX.then ?_
    refine GC.ret ?_
    refine GX.then_ret ?_
    refine GX.ret1 rfl (RR.tmp rfl) ?_
    exact fun w9 h => ⟨(none, 0), rfl, by
        have h := (h.nilRow 49 3)
        exact h, trivial⟩
  · skip
    refine GC.skip ?_
    refine GX.then ?_
    refine GC.seq ?_
    refine GC.reg ?_
    refine GL.step (ot_buildSlice ei_46 rfl rfl rfl rfl rfl rfl fun b5 => ?_)
    refine GL.st (Fs' := _) (fun w9 h => by
      have h := h.sel [0] rfl rfl
      have h := h.clRow (k := 0) (n' := 0) (sz := 3) rfl rfl (by omega)
      exact h) ?_
    refine GL.val (rv_move rfl) rfl ?_
    refine GL.step (ot_append (k := 0) (news := us) ei_46 rfl rfl rfl hl (fun w h => (h.rd0n hR).imp (fun e => by rw [e] at hl; simp at hl; omega) fun ⟨b, o, e1, e2⟩ => ⟨b, o, e1, e2⟩) h1 (by omega) (by decide) rfl fun A7 c7 z7 => ?_)
    rw [Nat.zero_add]
    refine GL.val (rv_assign rfl) rfl ?_
    refine GL.nil ?_
    refine GX.then ?_
    refine GC.ret ?_
    refine GX.ret1 rfl (RR.tmp rfl) ?_
    exact fun w9 h => ⟨(A7, c7), rfl, by
        exact h, trivial⟩
set_option maxRecDepth 100000 in
set_option maxHeartbeats 1000000 in
theorem cloneQ_c (A : Option Addr) (n c : Nat) (us : List Value) (w : World) (hR : SlR w A us) (hl : us.length = n * 35) (h1 : us.all Value.oneCell' = true) (hn : n ≤ 1000000) : Calls Try.prog 40 [.slice A n c].toArray w fun e w' => ∃ g : Option Addr × Nat, e = .returned (.slice g.1 n g.2) ∧ St noB w w' [Pc.row g.1 g.2 31 35 n us] ∧ True := by
  refine GC.calls Try.func40 rfl rfl (St.begin _) ?_
  have hA : A.isNone = true → us = [] := fun h => by
    rcases hR with h | ⟨b', o, rfl, _⟩
    · exact h
    · cases h
  refine GC.seq ?_
  refine GC.reg ?_
  refine GL.val (rv_assign rfl) rfl ?_
  refine GL.nil ?_
  refine GX.then ?_
  refine GC.seq ?_
  refine GC.seq ?_
  refine GC.reg ?_
  refine GL.val (rv_move rfl) rfl ?_
  refine GL.val (rv_slNil Try.underlying23 rfl rfl) rfl ?_
  refine GL.nil ?_
  refine GX.then ?_
  refine GC.cond rfl (fun c4 => ?_) (fun c4 => ?_)
  · obtain rfl : us = [] := hA c4
    obtain rfl : n = 0 := by simp at hl; omega
    refine GC.seq ?_
    refine GC.reg ?_
    refine GL.val (rv_assign rfl) rfl ?_
    refine GL.nil ?_
    refine GX.then ?_
    refine GC.ret ?_
    refine GX.then_ret ?_
    refine GX.ret1 rfl (RR.tmp rfl) ?_
    exact fun w9 h => ⟨(none, 0), rfl, by
        have h := (h.nilRow 31 35)
        exact h, trivial⟩
  · skip
    refine GC.skip ?_
    refine GX.then ?_
    refine GC.seq ?_
    refine GC.reg ?_
    refine GL.step (ot_buildSlice ei_23 rfl rfl rfl rfl rfl rfl fun b5 => ?_)
    refine GL.st (Fs' := _) (fun w9 h => by
      have h := h.sel [0] rfl rfl
      have h := h.clRow (k := 0) (n' := 0) (sz := 35) rfl rfl (by omega)
      exact h) ?_
    refine GL.val (rv_move rfl) rfl ?_
    refine GL.step (ot_append (k := 0) (news := us) ei_23 rfl rfl rfl hl (fun w h => (h.rd0n hR).imp (fun e => by rw [e] at hl; simp at hl; omega) fun ⟨b, o, e1, e2⟩ => ⟨b, o, e1, e2⟩) h1 (by omega) (by decide) rfl fun A7 c7 z7 => ?_)
    rw [Nat.zero_add]
    refine GL.val (rv_assign rfl) rfl ?_
    refine GL.nil ?_
    refine GX.then ?_
    refine GC.ret ?_
    refine GX.ret1 rfl (RR.tmp rfl) ?_
    exact fun w9 h => ⟨(A7, c7), rfl, by
        exact h, trivial⟩
set_option maxRecDepth 100000 in
set_option maxHeartbeats 1000000 in
theorem cloneE_c (A : Option Addr) (n c : Nat) (us : List Value) (w : World) (hR : SlR w A us) (hl : us.length = n * 1) (h1 : us.all Value.oneCell' = true) (hn : n ≤ 1000000) : Calls Try.prog 41 [.slice A n c].toArray w fun e w' => ∃ g : Option Addr × Nat, e = .returned (.slice g.1 n g.2) ∧ St noB w w' [Pc.row g.1 g.2 46 1 n us] ∧ True := by
  refine GC.calls Try.func41 rfl rfl (St.begin _) ?_
  have hA : A.isNone = true → us = [] := fun h => by
    rcases hR with h | ⟨b', o, rfl, _⟩
    · exact h
    · cases h
  refine GC.seq ?_
  refine GC.reg ?_
  refine GL.val (rv_assign rfl) rfl ?_
  refine GL.nil ?_
  refine GX.then ?_
  refine GC.seq ?_
  refine GC.seq ?_
  refine GC.reg ?_
  refine GL.val (rv_move rfl) rfl ?_
  refine GL.val (rv_slNil Try.underlying22 rfl rfl) rfl ?_
  refine GL.nil ?_
  refine GX.then ?_
  refine GC.cond rfl (fun c4 => ?_) (fun c4 => ?_)
  · obtain rfl : us = [] := hA c4
    obtain rfl : n = 0 := by simp at hl; omega
    refine GC.seq ?_
    refine GC.reg ?_
    refine GL.val (rv_assign rfl) rfl ?_
    refine GL.nil ?_
    refine GX.then ?_
    refine GC.ret ?_
    refine GX.then_ret ?_
    refine GX.ret1 rfl (RR.tmp rfl) ?_
    exact fun w9 h => ⟨(none, 0), rfl, by
        have h := (h.nilRow 46 1)
        exact h, trivial⟩
  · skip
    refine GC.skip ?_
    refine GX.then ?_
    refine GC.seq ?_
    refine GC.reg ?_
    refine GL.step (ot_buildSlice ei_22 rfl rfl rfl rfl rfl rfl fun b5 => ?_)
    refine GL.st (Fs' := _) (fun w9 h => by
      have h := h.sel [0] rfl rfl
      have h := h.clRow (k := 0) (n' := 0) (sz := 1) rfl rfl (by omega)
      exact h) ?_
    refine GL.val (rv_move rfl) rfl ?_
    refine GL.step (ot_append (k := 0) (news := us) ei_22 rfl rfl rfl hl (fun w h => (h.rd0n hR).imp (fun e => by rw [e] at hl; simp at hl; omega) fun ⟨b, o, e1, e2⟩ => ⟨b, o, e1, e2⟩) h1 (by omega) (by decide) rfl fun A7 c7 z7 => ?_)
    rw [Nat.zero_add]
    refine GL.val (rv_assign rfl) rfl ?_
    refine GL.nil ?_
    refine GX.then ?_
    refine GC.ret ?_
    refine GX.ret1 rfl (RR.tmp rfl) ?_
    exact fun w9 h => ⟨(A7, c7), rfl, by
        exact h, trivial⟩
theorem cmps_x (a b : ByteArray) (w : World) : (callFunc 74 [.string a, .string b].toArray).run Try.prog w = .ok (.value (.int .i64 (ncmp a b))) w := by
  rw [show ([Value.string a, Value.string b].toArray) = #[.string a, .string b] from rfl, run_callFunc_extern (fn := Try.f74) (e := Extern.BytealgCompare.compare) Try.func74 (by kernel_rfl) (by kernel_rfl) (by kernel_rfl) (by kernel_rfl), Lib.run_compareString]
  rfl
set_option maxRecDepth 100000 in
set_option maxHeartbeats 1000000 in
theorem cs_c (a b : ByteArray) (w : World) : Calls Try.prog 66 [.string a, .string b].toArray w fun e w' => ∃ _g : Unit, e = .returned (.int .i64 (ncmp a b)) ∧ St noB w w' [] ∧ True := by
  refine GC.calls Try.func66 rfl rfl (St.begin _) ?_
  refine GC.seq ?_
  refine GC.reg ?_
  refine GL.val (rv_assign rfl) rfl ?_
  refine GL.nil ?_
  refine GX.then ?_
  refine GC.seq ?_
  refine GC.reg ?_
  refine GL.val (rv_move rfl) rfl ?_
  refine GL.val (rv_move rfl) rfl ?_
  refine GL.val (rv_ext rfl (fun w _ => cmps_x a b w)) rfl ?_
  refine GL.val (rv_assign rfl) rfl ?_
  refine GL.nil ?_
  refine GX.then ?_
  refine GC.ret ?_
  refine GX.ret1 rfl (RR.tmp rfl) ?_
  exact fun w9 h => ⟨(), rfl, by
      exact h, trivial⟩
set_option maxRecDepth 100000 in
set_option maxHeartbeats 1000000 in
theorem scmp_c (a b : ByteArray) (w : World) : Calls Try.prog 60 [.string a, .string b].toArray w fun e w' => ∃ _g : Unit, e = .returned (.int .i64 (ncmp a b)) ∧ St noB w w' [] ∧ True := by
  refine GC.calls Try.func60 rfl rfl (St.begin _) ?_
  refine GC.seq ?_
  refine GC.reg ?_
  refine GL.val (rv_assign rfl) rfl ?_
  refine GL.nil ?_
  refine GX.then ?_
  refine GC.seq ?_
  refine GC.reg ?_
  refine GL.val (rv_move rfl) rfl ?_
  refine GL.val (rv_move rfl) rfl ?_
  refine GL.step (ot_call hb_66 rfl (callOk fun w hh => cs_c a b w) rfl fun _ _ => ?_)
  refine GL.val (rv_assign rfl) rfl ?_
  refine GL.nil ?_
  refine GX.then ?_
  refine GC.ret ?_
  refine GX.ret1 rfl (RR.tmp rfl) ?_
  exact fun w9 h => ⟨(), rfl, by
      exact h, trivial⟩
set_option maxRecDepth 100000 in
set_option maxHeartbeats 1000000 in
theorem by1_c (z : BindZ) (s : ByteArray) (w : World) : Calls Try.prog 59 [.agg (bzc z).toArray, .string s].toArray w fun e w' => ∃ _g : Unit, e = .returned (.int .i64 (ncmp z.1 s)) ∧ St noB w w' [] ∧ True := by
  refine GC.calls Try.func59 rfl rfl (St.begin _) ?_
  refine GC.seq ?_
  refine GC.reg ?_
  refine GL.step (ot_box rfl rfl rfl fun b2 => ?_)
  refine GL.val (rv_assign rfl) rfl ?_
  refine GL.nil ?_
  refine GX.then ?_
  refine GC.seq ?_
  refine GC.reg ?_
  refine GL.val (rv_field fo_49_0 rfl rfl) rfl ?_
  refine GL.val (rv_load ag_9 rfl (by exact Hd.cell (k := 0) rfl rfl)) rfl ?_
  refine GL.val (rv_move rfl) rfl ?_
  refine GL.step (ot_call hb_60 rfl (callOk fun w hh => scmp_c z.1 s w) rfl fun _ _ => ?_)
  refine GL.val (rv_assign rfl) rfl ?_
  refine GL.nil ?_
  refine GX.then ?_
  refine GC.ret ?_
  refine GX.ret1 rfl (RR.tmp rfl) ?_
  exact fun w9 h => ⟨(), rfl, by
      have h := h.sel [] rfl rfl
      exact h, trivial⟩
end
section
open Go Go.RowKit Go.Bz
theorem es_46 : elemSz Try.prog 46 = some 3 := by kernel_rfl
theorem hb_59 : hasBody Try.prog 59 = true := by kernel_rfl
theorem by1_v (z : BindZ) (s : ByteArray) (w : World) : Calls Try.prog 59 ([Value.agg (bzc z).toArray, Value.string s] ++ ([] : List Value)).toArray w fun e w' => ∃ _g : Unit, e = .returned (.int .i64 (ncmp z.1 s)) ∧ St noB w w' [] ∧ True := by1_c z s w
theorem half_u (a b : Nat) (h : a + b ≤ 4611686018427387904) : (IntKind.i64.wrap ((UInt64.ofNat (a + b) >>> (UInt64.ofNat 1)).toNat : Int)) = (((a + b) / 2 : Nat) : Int) := by
  have e : (UInt64.ofNat (a + b) >>> (UInt64.ofNat 1)).toNat = (a + b) / 2 := by
    rw [UInt64.toNat_shiftRight, UInt64.toNat_ofNat']
    rw [Nat.mod_eq_of_lt (by omega), show (UInt64.ofNat 1).toNat % 64 = 1 from rfl, Nat.shiftRight_eq_div_pow]
  rw [e, IntKind.wrap_i64]; omega
set_option maxRecDepth 100000 in
set_option maxHeartbeats 1000000 in
theorem bsf_c (A : Option Addr) (c : Nat) (l : List BindZ) (s : ByteArray) (w : World) (hR : SlR w A (fcat bzc l)) (hsrt : Srt (nms l)) (hn : l.length ≤ 1000000) : Calls Try.prog 58 [.slice A l.length c, .string s, .func (.func 59) #[] #[]].toArray w fun e w' => ∃ _g : Unit, e = .returned (.tuple #[.int .i64 (lbn (nms l) s : Int), .bool (hasN (nms l) s)]) ∧ St noB w w' [] ∧ True := by
  refine GC.calls Try.func58 rfl rfl (St.begin _) ?_
  refine GC.seq ?_
  refine GC.reg ?_
  refine GL.val (rv_assign rfl) rfl ?_
  refine GL.val (rv_assign rfl) rfl ?_
  refine GL.nil ?_
  refine GX.then ?_
  refine GC.seq ?_
  refine GC.reg ?_
  refine GL.val (rv_move rfl) rfl ?_
  refine GL.val (rv_lenSl Try.underlying46 rfl) rfl ?_
  refine GL.val (rv_assign rfl) rfl ?_
  refine GL.nil ?_
  refine GX.then ?_
  refine GC.seq ?_
  refine GC.reg ?_
  refine GL.val (rv_move rfl) rfl ?_
  refine GL.val (rv_assign rfl) rfl ?_
  refine GL.val (rv_assign rfl) rfl ?_
  refine GL.nil ?_
  refine GX.then ?_
  refine GC.seq ?_
  refine GC.block ?_
  refine GC.loopK (γ := Nat × Nat) [8, 2, 1, 0] [] (fun g Lk => (9, .int .i64 (g.1 : Int)) :: (10, .int .i64 (g.2 : Int)) :: Lk) (fun g Fk => Fk) (fun g => (g.1 ≤ g.2) ∧ (g.2 ≤ l.length) ∧ (∀ k (hk : k < l.length), k < g.1 → nlt l[k].1 s) ∧ (∀ k (hk : k < l.length), g.2 ≤ k → ¬ nlt l[k].1 s)) (fun g => g.2 - g.1) (0, l.length) rfl rfl ⟨Nat.zero_le _, Nat.le_refl _, fun k _ h => absurd h (Nat.not_lt_zero _), fun k h1 h2 => absurd h1 (by omega)⟩ (by repeat (first | exact Sub.nil | refine Sub.cons rfl ?_)) (fun w9 h => by
      exact h) (fun ⟨i, j⟩ ⟨hij, hj, h1, h2⟩ => ?_)
  dsimp only at hij hj h1 h2 ⊢
  refine GC.seq ?_
  refine GC.seq ?_
  refine GC.reg ?_
  refine GL.val (rv_move rfl) rfl ?_
  refine GL.val (rv_move rfl) rfl ?_
  refine GL.val (rv_lss rfl rfl) rfl ?_
  refine GL.nil ?_
  refine GX.then ?_
  refine GC.condP rfl (fun c17 => ?_) (fun c17 => ?_)
  · have hlt : ((i + j) / 2) < l.length := by omega
    obtain ⟨b, o, rfl, hC⟩ := slr_some hR (fcat_ne bz_len (by decide) hlt)
    refine GC.skip ?_
    refine GX.then ?_
    refine GC.block ?_
    refine GC.seq ?_
    refine GC.reg ?_
    refine GL.val (rv_move rfl) rfl ?_
    refine GL.val (rv_move rfl) rfl ?_
    refine GL.val (rv_to (v' := .int .i64 ((i + j : Nat) : Int)) (rv_add rfl rfl (by omega) (by omega)) (by rw [Int.natCast_add])) rfl ?_
    refine GL.val (rv_conv64I (i + j) Try.underlying3 Try.underlying99 rfl (by rfl)) rfl ?_
    refine GL.val (rv_shr64 (1) rfl rfl (by rfl) (by decide)) rfl ?_
    refine GL.val (rv_to (v' := .int .i64 (((i + j) / 2) : Nat)) (rv_convI Try.underlying99 Try.underlying3 rfl) (by rw [half_u i j (by omega)])) rfl ?_
    refine GL.val (rv_assign rfl) rfl ?_
    refine GL.nil ?_
    refine GX.then ?_
    refine GC.seq ?_
    refine GC.reg ?_
    refine GL.val (rv_move rfl) rfl ?_
    refine GL.val (rv_move rfl) rfl ?_
    refine GL.val (rv_move rfl) rfl ?_
    refine GL.val (rv_elem es_46 rfl rfl (by omega) (by omega)) rfl ?_
    refine GL.val (rv_loadA ag_49 rfl (Hd.cells0 (hC.fcat bz_len ((i + j) / 2) hlt) (fun h => h)) (by exact sz_49)) rfl ?_
    refine GL.val (rv_move rfl) rfl ?_
    refine GL.step (ot_callv hb_59 rfl rfl (callOk fun w hh => by1_v l[((i + j) / 2)] s w) rfl fun _ _ => ?_)
    refine GL.val (rv_lss rfl rfl) rfl ?_
    refine GL.nil ?_
    refine GX.then ?_
    refine GC.condP rfl (fun c31 => ?_) (fun c31 => ?_)
    · have hnl : nlt l[((i + j) / 2)].1 s := ncmp_lt.1 (by simpa using c31)
      refine GC.reg ?_
      refine GL.val (rv_move rfl) rfl ?_
      refine GL.val (rv_add rfl rfl (by omega) (by omega)) rfl ?_
      refine GL.val (rv_assign rfl) rfl ?_
      refine GL.nil ?_
      refine GX.blk ?_
      exact GX.round (((i + j) / 2) + 1, j) (by dsimp only; omega) ⟨by omega, hj, fun k hk hki => by rw [← nms_get l k hk]; exact hsrt.mono (i := k) (j := ((i + j) / 2)) (by omega) (by rw [nms_len]; exact hlt) (by rw [nms_get]; exact hnl), h2⟩ (by repeat (first | exact Sub.nil | refine Sub.cons rfl ?_)) (fun w9 h => by
          exact h)
    · have hnl : ¬ nlt l[((i + j) / 2)].1 s := fun h => absurd (ncmp_lt.2 h) (by simpa using c31)
      refine GC.reg ?_
      refine GL.val (rv_move rfl) rfl ?_
      refine GL.val (rv_assign rfl) rfl ?_
      refine GL.nil ?_
      refine GX.blk ?_
      exact GX.round (i, ((i + j) / 2)) (by dsimp only; omega) ⟨by omega, by omega, h1, fun k hk hki => by rw [← nms_get l k hk]; exact hsrt.mono' (i := ((i + j) / 2)) (j := k) (by omega) (by rw [nms_len]; exact hk) (by rw [nms_get _ _ hlt]; exact hnl)⟩ (by repeat (first | exact Sub.nil | refine Sub.cons rfl ?_)) (fun w9 h => by
          exact h)
  · obtain rfl : i = j := by omega
    have hlb : lbn (nms l) s = i := lbn_eq (by rw [nms_len]; exact hj) (fun k hk hki => by rw [nms_get l k (by rw [← nms_len]; exact hk)]; exact h1 k _ hki) (fun hk => by rw [nms_get l i (by rw [← nms_len]; exact hk)]; exact h2 i _ (Nat.le_refl _))
    refine GC.exit ?_
    refine GX.then_exit ?_
    refine GX.then_exit ?_
    refine GX.blk_eq ?_
    refine GX.then ?_
    refine GC.seq ?_
    refine GC.cutq (γ := Unit) [] [] (fun g Lk => (6, .int .i64 (lbn (nms l) s : Int)) :: (7, .bool (hasN (nms l) s)) :: Lk) (fun g Fk => Fk) (fun g => True) rfl rfl ?_ (fun _ _ => ?_)
    · rw [show hasN (nms l) s = decide (i < l.length ∧ (nms l).getD i ByteArray.empty = s) from by unfold hasN; rw [hlb, nms_len], hlb]
      rcases Nat.lt_or_ge i l.length with hlt | hge
      · obtain ⟨b, o, rfl, hC⟩ := slr_some hR (fcat_ne bz_len (by decide) hlt)
        rw [show decide (i < l.length ∧ (nms l).getD i ByteArray.empty = s) = decide (ncmp l[i].1 s = 0) from by rw [decide_eq_decide, ncmp_eq, List.getD_eq_getElem?_getD, List.getElem?_eq_getElem (by rw [nms_len]; exact hlt), Option.getD_some, nms_get l i hlt]; exact ⟨fun h => h.2, fun h => ⟨hlt, h⟩⟩]
        refine GC.reg ?_
        refine GL.val (rv_move rfl) rfl ?_
        refine GL.val (rv_move rfl) rfl ?_
        refine GL.val (rv_move rfl) rfl ?_
        refine GL.val ((by exact rv_to (v' := .bool true) (rv_lss rfl rfl) (by simp only [Value.bool.injEq, decide_eq_true_eq, decide_eq_false_iff_not]; first | assumption | omega))) rfl ?_
        refine GL.val (rv_move rfl) rfl ?_
        refine GL.valT rfl (rv_move rfl) rfl ?_
        refine GL.valT rfl (rv_move rfl) rfl ?_
        refine GL.valT rfl (rv_move rfl) rfl ?_
        refine GL.valT rfl (rv_elemJ (q := _) (i) es_46 rfl rfl (by rfl) (by omega) (by rfl)) rfl ?_
        refine GL.valT rfl (rv_loadA ag_49 rfl (Hd.cells0 (hC.fcat bz_len i hlt) (fun h => h)) (by exact sz_49)) rfl ?_
        refine GL.valT rfl (rv_move rfl) rfl ?_
        refine GL.stepG rfl (ot_callv hb_59 rfl rfl (callOk fun w hh => by1_v l[i] s w) rfl fun _ _ => ?_)
        refine GL.valT rfl (rv_eqI rfl rfl) rfl ?_
        refine GL.val ((by exact rv_andT rfl rfl rfl)) rfl ?_
        refine GL.val (rv_assign rfl) rfl ?_
        refine GL.val (rv_assign rfl) rfl ?_
        refine GL.nil ?_
        exact GX.cutq () trivial (by repeat (first | exact Sub.nil | refine Sub.cons rfl ?_)) (fun w9 h => by
            exact h)
      · rw [show decide (i < l.length ∧ (nms l).getD i ByteArray.empty = s) = false from decide_eq_false (fun h => by omega)]
        refine GC.reg ?_
        refine GL.val (rv_move rfl) rfl ?_
        refine GL.val (rv_move rfl) rfl ?_
        refine GL.val (rv_move rfl) rfl ?_
        refine GL.val ((by exact rv_to (v' := .bool false) (rv_lss rfl rfl) (by simp only [Value.bool.injEq, decide_eq_true_eq, decide_eq_false_iff_not]; first | assumption | omega))) rfl ?_
        refine GL.val (rv_move rfl) rfl ?_
        refine GL.skipG rfl rfl ?_
        refine GL.skipG rfl rfl ?_
        refine GL.skipG rfl rfl ?_
        refine GL.skipG rfl rfl ?_
        refine GL.skipG rfl rfl ?_
        refine GL.skipG rfl rfl ?_
        refine GL.skipG rfl rfl ?_
        refine GL.skipG rfl rfl ?_
        refine GL.val ((by exact rv_andF rfl rfl rfl)) rfl ?_
        refine GL.val (rv_assign rfl) rfl ?_
        refine GL.val (rv_assign rfl) rfl ?_
        refine GL.nil ?_
        exact GX.cutq () trivial (by repeat (first | exact Sub.nil | refine Sub.cons rfl ?_)) (fun w9 h => by
            exact h)
    refine GX.then ?_
    refine GC.ret ?_
    refine GX.ret2 rfl (RR.tmp rfl) (RR.tmp rfl) ?_
    exact fun w9 h => ⟨(), rfl, by
        exact h, trivial⟩
end
section
open Go Go.RowKit Go.Bz
theorem hb_58 : hasBody Try.prog 58 = true := by kernel_rfl
set_option maxRecDepth 100000 in
set_option maxHeartbeats 1000000 in
theorem by_c (A : Option Addr) (c : Nat) (l : List BindZ) (s : ByteArray) (w : World) (hR : SlR w A (fcat bzc l)) (hsrt : Srt (nms l)) (hn : l.length ≤ 1000000) : Calls Try.prog 49 [.slice A l.length c, .string s].toArray w fun e w' => ∃ _g : Unit, e = .returned (.tuple #[.int .i64 (lbn (nms l) s : Int), .bool (hasN (nms l) s)]) ∧ St noB w w' [] ∧ True := by
  refine GC.calls Try.func49 rfl rfl (St.begin _) ?_
  refine GC.seq ?_
  refine GC.reg ?_
  refine GL.val (rv_assign rfl) rfl ?_
  refine GL.val (rv_assign rfl) rfl ?_
  refine GL.nil ?_
  refine GX.then ?_
  refine GC.seq ?_
  refine GC.reg ?_
  refine GL.val (rv_move rfl) rfl ?_
  refine GL.val (rv_move rfl) rfl ?_
  refine GL.step (ot_call hb_58 rfl (callOk fun w hh => bsf_c A c l s w (hh.rd0n hR) hsrt hn) rfl fun _ _ => ?_)
  refine GL.val (rv_extract rfl rfl) rfl ?_
  refine GL.val (rv_extract rfl rfl) rfl ?_
  refine GL.val (rv_assign rfl) rfl ?_
  refine GL.val (rv_assign rfl) rfl ?_
  refine GL.nil ?_
  refine GX.then ?_
  refine GC.ret ?_
  refine GX.ret2 rfl (RR.tmp rfl) (RR.tmp rfl) ?_
  exact fun w9 h => ⟨(), rfl, by
      exact h, trivial⟩
theorem ov_x (w : World) (vb b la ca lb cb ob kA kB : Nat) (u v : List Value) (hne : vb ≠ b) (h1 : w.heap[vb]? = some (.cells u.toArray 49 (0, 0))) (h2 : w.heap[b]? = some (.cells v.toArray 49 (0, 0))) (hv : 0 < v.length) :
    (callFunc 63 [.slice (some ⟨vb, 0, none⟩) la ca, .slice (some ⟨b, ob, none⟩) lb cb].toArray).run Try.prog w = .ok (.value (.bool false)) w := by
  have s1 : w.shape? vb = some (49, u.length) := by simp [World.shape?, h1]
  have s2 : w.shape? b = some (49, v.length) := by simp [World.shape?, h2]
  rw [show ([Value.slice (some ⟨vb, 0, none⟩) la ca, .slice (some ⟨b, ob, none⟩) lb cb].toArray) = #[.slice (some ⟨vb, 0, none⟩) la ca, .slice (some ⟨b, ob, none⟩) lb cb] from rfl,
    run_callFunc_extern (fn := Try.f63) (e := Extern.SlicesOverlaps.overlaps #[46, 46] #[4]) Try.func63 (by kernel_rfl) (by kernel_rfl) (by kernel_rfl) (by kernel_rfl)]
  have hsz : ∀ w : World, (Go.sizeOf 49).run Try.prog w = .ok 3 w := by
    obtain ⟨inf, hi, h3⟩ := Option.map_eq_some_iff.1 sz_49
    intro w
    rw [Bz.run_sizeOf hi, h3]
  rw [Lib.run_overlaps_apart w 46 4 49 Try.underlying46 3 hsz ⟨vb, 0, none⟩ ⟨b, ob, none⟩ la ca lb cb hne 49 49 u.length v.length s1 s2 (by omega) (by simp [World.frozen?, h1]) (by simp [World.frozen?, h1])]
  rfl
theorem grp_ne {w : World} {S : Nat → Prop} {b c E sz n vb E2 : Nat} {xs v : List Value} (h : (Bz.grp [Pc.row (some ⟨b, 0, none⟩) c E sz n xs, Pc.cl vb v E2]).A S w) : vb ≠ b := by
  obtain ⟨S1, T1, hA, ⟨S2, T2, hB, _, _, hT2⟩, hd, _⟩ := h
  intro e
  exact hd b ((hA.1 b).2 (by simp [Value.ownBlock])) ((hT2 b).2 (.inl ((hB.1 b).2 e.symm)))
theorem ins_cells {xs rest v : List Value} {i n sz : Nat} (hx : xs.length = n * sz) (hv : v.length = sz) (hi : i < n) (hr : (n + 1) * sz ≤ (xs ++ rest).length) (hz : 0 < sz) :
    (repl (repl (xs ++ rest) ((i + 1) * sz) (xs.drop (i * sz))) (i * sz) v).take ((n + 1) * sz) = xs.take (i * sz) ++ (v ++ xs.drop (i * sz)) := by
  have e1 : (i + 1) * sz = i * sz + sz := by rw [Nat.succ_mul]
  have e2 : (n + 1) * sz = n * sz + sz := by rw [Nat.succ_mul]
  have e3 : i * sz + sz ≤ n * sz := by rw [← e1]; exact Nat.mul_le_mul_right _ hi
  have hd : (xs.drop (i * sz)).length = n * sz - i * sz := by rw [List.length_drop, hx]
  rw [e2] at hr ⊢
  rw [e1]
  have hl := hr
  simp only [List.length_append, hx] at hl
  have r1 := repl_eq (xs.drop (i * sz)) (xs ++ rest) (i * sz + sz) (by rw [hd]; simp only [List.length_append, hx]; omega)
  have t1 : (xs ++ rest).take (i * sz + sz) = xs.take (i * sz + sz) := by rw [List.take_append_of_le_length (by omega)]
  rw [hd, t1, List.append_assoc] at r1
  have r2 := repl_eq v (repl (xs ++ rest) (i * sz + sz) (xs.drop (i * sz))) (i * sz) (by rw [length_repl, hv]; simp only [List.length_append, hx]; omega)
  rw [r2, r1, hv]
  have t2 : (xs.take (i * sz + sz) ++ (xs.drop (i * sz) ++ (xs ++ rest).drop (i * sz + sz + (n * sz - i * sz)))).take (i * sz) = xs.take (i * sz) := by
    rw [List.take_append_of_le_length (by rw [List.length_take]; omega), List.take_take]; congr 1; omega
  have t3 : (xs.take (i * sz + sz) ++ (xs.drop (i * sz) ++ (xs ++ rest).drop (i * sz + sz + (n * sz - i * sz)))).drop (i * sz + sz) = xs.drop (i * sz) ++ (xs ++ rest).drop (i * sz + sz + (n * sz - i * sz)) := by
    rw [List.drop_left' (by rw [List.length_take]; omega)]
  have ht : (xs.take (i * sz)).length = i * sz := by rw [List.length_take]; omega
  rw [t2, t3, List.append_assoc, List.take_append, List.take_of_length_le (by omega), ht]
  congr 1
  rw [List.take_append, List.take_of_length_le (by omega), hv]
  congr 1
  rw [List.take_append, List.take_of_length_le (by omega), hd, show n * sz + sz - i * sz - sz - (n * sz - i * sz) = 0 by omega]
  simp
theorem ins_cells2 {xs rest v : List Value} {i n sz : Nat} (hx : xs.length = n * sz) (hv : v.length = sz) (hi : i < n) (hr : (n + 1) * sz ≤ (xs.take (i * sz) ++ rest).length) (hz : 0 < sz) :
    (repl (repl (xs.take (i * sz) ++ rest) (i * sz) v) ((i + 1) * sz) (xs.drop (i * sz))).take ((n + 1) * sz) = xs.take (i * sz) ++ (v ++ xs.drop (i * sz)) := by
  have e1 : (i + 1) * sz = i * sz + sz := by rw [Nat.succ_mul]
  have e2 : (n + 1) * sz = n * sz + sz := by rw [Nat.succ_mul]
  have e3 : i * sz + sz ≤ n * sz := by rw [← e1]; exact Nat.mul_le_mul_right _ hi
  have hd : (xs.drop (i * sz)).length = n * sz - i * sz := by rw [List.length_drop, hx]
  have ht : (xs.take (i * sz)).length = i * sz := by rw [List.length_take]; omega
  rw [e2] at hr ⊢
  rw [e1]
  have hl := hr
  simp only [List.length_append, ht] at hl
  have r1 := repl_eq v (xs.take (i * sz) ++ rest) (i * sz) (by rw [hv]; simp only [List.length_append, ht]; omega)
  rw [List.take_left' ht, hv, List.append_assoc] at r1
  have r2 := repl_eq (xs.drop (i * sz)) (repl (xs.take (i * sz) ++ rest) (i * sz) v) (i * sz + sz) (by rw [length_repl, hd]; simp only [List.length_append, ht]; omega)
  rw [r2, r1]
  have t2 : (xs.take (i * sz) ++ (v ++ (xs.take (i * sz) ++ rest).drop (i * sz + sz))).take (i * sz + sz) = xs.take (i * sz) ++ v := by
    rw [List.take_append, List.take_of_length_le (by omega), ht, show i * sz + sz - i * sz = sz by omega, List.take_left' hv]
  rw [t2, List.append_assoc, List.append_assoc, List.take_append, List.take_of_length_le (by omega), ht]
  congr 1
  rw [List.take_append, List.take_of_length_le (by omega), hv]
  congr 1
  rw [List.take_append, List.take_of_length_le (by omega), hd, show n * sz + sz - i * sz - sz - (n * sz - i * sz) = 0 by omega]
  simp
set_option maxRecDepth 100000 in
set_option maxHeartbeats 1000000 in
theorem ins_c (A : Option Addr) (c n i vb : Nat) (xs v : List Value) (w : World) (S : Nat → Prop) (hA : (Bz.grp [Pc.row A c 49 3 n xs, Pc.cl vb v 49]).A S w) (hb : ∀ b, S b → b < w.heap.size) (hvl : v.length = 3) (hv1 : v.all Value.oneCell' = true) (hx1 : xs.all Value.oneCell' = true) (hi : i ≤ n) (hn : n ≤ 1000000) :
    Calls Try.prog 54 [.slice A n c, .int .i64 (i : Int), .slice (some ⟨vb, 0, none⟩) 1 1].toArray w fun e w' => ∃ g : Option Addr × Nat, e = .returned (.slice g.1 (n + 1) g.2) ∧ St S w w' [Pc.row g.1 g.2 49 3 (n + 1) (xs.take (i * 3) ++ (v ++ xs.drop (i * 3)))] ∧ n + 1 ≤ g.2 := by
  refine GC.calls Try.func54 rfl rfl (St.begin1 hA hb) ?_
  refine GC.st (Fs' := [Pc.row A c 49 3 n xs, Pc.cl vb v 49]) (fun w9 h => by have h := h.ungrp; exact h) ?_
  refine GC.fact (p := xs.length = n * 3 ∧ n ≤ c ∧ ((A = none ∧ n = 0 ∧ c = 0) ∨ ∃ b, A = some ⟨b, 0, none⟩)) (fun w9 h => row_form h (k := 0) rfl) fun hf => ?_
  obtain ⟨hxl, hnc, hfm⟩ := hf
  refine GC.seq ?_
  refine GC.reg ?_
  refine GL.val (rv_assign rfl) rfl ?_
  refine GL.nil ?_
  refine GX.then ?_
  refine GC.seq ?_
  refine GC.reg ?_
  refine GL.val (rv_move rfl) rfl ?_
  refine GL.val (rv_move rfl) rfl ?_
  refine GL.val (rv_slFrom es_46 rfl rfl i rfl hi hnc) rfl ?_
  refine GL.nil ?_
  refine GX.then ?_
  refine GC.seq ?_
  refine GC.reg ?_
  refine GL.val (rv_move rfl) rfl ?_
  refine GL.val (rv_lenSl Try.underlying46 rfl) rfl ?_
  refine GL.val (rv_assign rfl) rfl ?_
  refine GL.nil ?_
  refine GX.then ?_
  refine GC.seq ?_
  refine GC.seq ?_
  refine GC.reg ?_
  refine GL.val (rv_move rfl) rfl ?_
  refine GL.val (rv_to (v' := .bool false) (rv_eqI rfl rfl) (by simp)) rfl ?_
  refine GL.nil ?_
  refine GX.then ?_
  refine GC.cond rfl (fun c16 => ?_) (fun c16 => ?_)
  · cases c16
  · skip
    refine GC.skip ?_
    refine GX.then ?_
    refine GC.seq ?_
    refine GC.reg ?_
    refine GL.val (rv_move rfl) rfl ?_
    refine GL.val (rv_lenSl Try.underlying46 rfl) rfl ?_
    refine GL.val (rv_assign rfl) rfl ?_
    refine GL.nil ?_
    refine GX.then ?_
    refine GC.seq ?_
    refine GC.seq ?_
    refine GC.reg ?_
    refine GL.val (rv_move rfl) rfl ?_
    refine GL.val (rv_move rfl) rfl ?_
    refine GL.val (rv_eqI rfl rfl) rfl ?_
    refine GL.nil ?_
    refine GX.then ?_
    refine GC.condP rfl (fun c22 => ?_) (fun c22 => ?_)
    · have hin : i = n := by omega
      refine GC.seq ?_
      refine GC.reg ?_
      refine GL.val (rv_move rfl) rfl ?_
      refine GL.val (rv_move rfl) rfl ?_
      refine GL.step (ot_append (k := 0) (news := v) ei_46 rfl rfl rfl hvl (fun w h => .inr ⟨vb, 0, rfl, Hd.cellsAll (k := 1) rfl w h⟩) hv1 (by omega) (by decide) rfl fun A25 c25 z25 => ?_)
      refine GL.rowForm (k := 0) rfl fun _ hc25 _ => ?_
      refine GL.val (rv_assign rfl) rfl ?_
      refine GL.nil ?_
      refine GX.then ?_
      refine GC.ret ?_
      refine GX.then_ret ?_
      refine GX.ret1 rfl (RR.tmp rfl) ?_
      exact fun w9 h => ⟨(A25, c25), rfl, by
          have h := h.sel [0] rfl rfl
          rw [show xs.take (i * 3) ++ (v ++ xs.drop (i * 3)) = xs ++ v by rw [List.take_of_length_le (by omega), List.drop_eq_nil_of_le (by omega), List.append_nil]]
          exact h, hc25⟩
    · have hin : i < n := by omega
      obtain ⟨b, rfl⟩ := hfm.resolve_left (by omega)
      have hne := grp_ne hA
      refine GC.skip ?_
      refine GX.then ?_
      refine GC.seq ?_
      refine GC.seq ?_
      refine GC.reg ?_
      refine GL.val (rv_move rfl) rfl ?_
      refine GL.val (rv_move rfl) rfl ?_
      refine GL.val (rv_to (v' := .int .i64 ((n + 1 : Nat) : Int)) (rv_add rfl rfl (by omega) (by omega)) (congrArg (Value.int .i64) (by omega))) rfl ?_
      refine GL.val (rv_move rfl) rfl ?_
      refine GL.val (rv_cap Try.underlying46 rfl) rfl ?_
      refine GL.val (rv_gtr rfl rfl) rfl ?_
      refine GL.nil ?_
      refine GX.then ?_
      refine GC.condP rfl (fun c31 => ?_) (fun c31 => ?_)
      · have hgc : c < n + 1 := by omega
        refine GC.seq ?_
        refine GC.reg ?_
        refine GL.val (rv_move rfl) rfl ?_
        refine GL.val (rv_move rfl) rfl ?_
        refine GL.val (rv_slTo es_46 rfl rfl i rfl (by omega)) rfl ?_
        refine GL.val (rv_move rfl) rfl ?_
        refine GL.val (rv_move rfl) rfl ?_
        refine GL.val (rv_to (v' := .int .i64 ((n + 1 : Nat) : Int)) (rv_add rfl rfl (by omega) (by omega)) (congrArg (Value.int .i64) (by omega))) rfl ?_
        refine GL.val (rv_move rfl) rfl ?_
        refine GL.val (rv_to (v' := .int .i64 ((n + 1 - i : Nat) : Int)) (rv_sub rfl rfl (by omega) (by omega)) (congrArg (Value.int .i64) (by omega))) rfl ?_
        refine GL.step (ot_appendZ (k := n + 1 - i) (olds := xs.take (i * 3)) ei_46 Try.underlying3 rfl rfl (fun w h => (h.rowR (k := 0) rfl).take _) (by rw [List.length_take]; omega) (by omega) (by omega) (by omega) (by decide) rfl fun b40 c40 r40 hl40 hc40 hm40 => ?_)
        refine GL.val (rv_assign rfl) rfl ?_
        refine GL.nil ?_
        refine GX.then ?_
        refine GC.seq ?_
        refine GC.reg ?_
        refine GL.val (rv_move rfl) rfl ?_
        refine GL.val (rv_move rfl) rfl ?_
        refine GL.val (rv_to (v' := .slice (some ⟨b40, (i) * 3, none⟩) (i + (n + 1 - i) - (i)) (c40 - (i))) (rv_slFrom es_46 rfl rfl (i) (by rfl) (by omega) (by omega)) (by rw [sAddr_lt (by omega), Nat.zero_add])) rfl ?_
        refine GL.val (rv_move rfl) rfl ?_
        refine GL.step (ot_copy (k := 0) (us := v) (m := 1) ei_46 rfl rfl (by omega) rfl (fun w h => .inr ⟨vb, 0, rfl, Hd.cellsAll (k := 2) rfl w h⟩) (by omega) hv1 (by rw [hl40]; omega) rfl rfl ?_)
        refine GL.nil ?_
        refine GX.then ?_
        refine GC.seq ?_
        refine GC.draw 8 [] mo_ ?_
        refine GD.pure1 (i := 0) rfl (fun _ _ => rv_move rfl) ?_
        refine GD.pure1 (i := 1) rfl (fun _ _ => rv_move rfl) ?_
        refine GD.pure1 (i := 2) rfl (fun _ _ => rv_move rfl) ?_
        refine GD.pure1 (i := 3) rfl (fun _ _ => rv_to (v' := .int .i64 ((i + 1 : Nat) : Int)) (rv_add rfl rfl (by omega) (by omega)) (congrArg (Value.int .i64) (by omega))) ?_
        refine GD.pure1 (i := 4) rfl (fun _ _ => rv_to (v' := .slice (some ⟨b40, (i + 1) * 3, none⟩) (i + (n + 1 - i) - (i + 1)) (c40 - (i + 1))) (rv_slFrom es_46 rfl rfl (i + 1) (by rfl) (by omega) (by omega)) (by rw [sAddr_lt (by omega), Nat.zero_add])) ?_
        refine GD.pure1 (i := 5) rfl (fun _ _ => rv_move rfl) ?_
        refine GD.pure1 (i := 6) rfl (fun _ _ => rv_move rfl) ?_
        refine GD.pure1 (i := 7) rfl (fun _ _ => rv_to (v' := .slice (some ⟨b, (i) * 3, none⟩) (n - (i)) (c - (i))) (rv_slFrom es_46 rfl rfl (i) (by rfl) (by omega) (by omega)) (by rw [sAddr_lt (by omega), Nat.zero_add])) ?_
        refine GD.step (i := 8) (by kernel_rfl) rfl (ot_copy (k := 0) (us := xs.drop (i * 3)) (m := n - i) ei_46 rfl rfl (by omega) rfl (fun w h => (by have h1 := (h.rowR (k := 1) rfl).drop (l := i) (m := c) (sz := 3) (fun _ => by omega); rwa [sAddr_lt (by omega), Nat.zero_add] at h1)) (by rw [List.length_drop]; omega) (List.all_eq_true.2 fun x hx => List.all_eq_true.1 hx1 x (List.mem_of_mem_drop hx)) (by rw [length_repl, hl40, List.length_drop]; omega) rfl rfl ⟨.inl rfl, ?_⟩)
        refine GD.done (by kernel_rfl) ?_
        refine GX.then ?_
        refine GC.seq ?_
        refine GC.reg ?_
        refine GL.val (rv_move rfl) rfl ?_
        refine GL.val (rv_assign rfl) rfl ?_
        refine GL.nil ?_
        refine GX.then ?_
        refine GC.ret ?_
        refine GX.then_ret ?_
        refine GX.ret1 rfl (RR.tmp rfl) ?_
        exact fun w9 h => ⟨(some ⟨b40, 0, none⟩, c40), (by rw [show i + (n + 1 - i) = n + 1 by omega]), by
            have h := h.sel [0] rfl rfl
            have h := h.clRowC (k := 0) (sz := 3) (n' := n + 1) (c := c40) rfl (by rw [length_repl, length_repl]; exact hl40) (by omega) hm40 (ins_cells2 hxl hvl hin (by rw [hl40]; omega) (by decide))
            exact h, (by dsimp only; omega)⟩
      · have hgc : n + 1 ≤ c := by omega
        refine GC.rowCl (k := 0) rfl fun rest hrl _ _ hmx => ?_
        refine GC.skip ?_
        refine GX.then ?_
        refine GC.seq ?_
        refine GC.reg ?_
        refine GL.val (rv_move rfl) rfl ?_
        refine GL.val (rv_move rfl) rfl ?_
        refine GL.val (rv_move rfl) rfl ?_
        refine GL.val (rv_to (v' := .int .i64 ((n + 1 : Nat) : Int)) (rv_add rfl rfl (by omega) (by omega)) (congrArg (Value.int .i64) (by omega))) rfl ?_
        refine GL.val (rv_slTo es_46 rfl rfl (n + 1) rfl (by omega)) rfl ?_
        refine GL.val (rv_assign rfl) rfl ?_
        refine GL.nil ?_
        refine GX.then ?_
        refine GC.seq ?_
        refine GC.seq ?_
        refine GC.reg ?_
        refine GL.val (rv_move rfl) rfl ?_
        refine GL.val (rv_move rfl) rfl ?_
        refine GL.val (rv_move rfl) rfl ?_
        refine GL.val (rv_move rfl) rfl ?_
        refine GL.val (rv_to (v' := .int .i64 ((i + 1 : Nat) : Int)) (rv_add rfl rfl (by omega) (by omega)) (congrArg (Value.int .i64) (by omega))) rfl ?_
        refine GL.val (rv_to (v' := .slice (some ⟨b, (i + 1) * 3, none⟩) (n + 1 - (i + 1)) (c - (i + 1))) (rv_slFrom es_46 rfl rfl (i + 1) (by rfl) (by omega) (by omega)) (by rw [sAddr_lt (by omega), Nat.zero_add])) rfl ?_
        refine GL.val (rv_ext rfl (fun w h => ov_x w vb b _ _ _ _ _ 0 0 v (xs ++ rest) hne (h.clAt (k := 1) rfl) (h.clAt (k := 0) rfl) (by omega))) rfl ?_
        refine GL.val (rv_not rfl) rfl ?_
        refine GL.nil ?_
        refine GX.then ?_
        refine GC.cond rfl (fun c68 => ?_) (fun c68 => ?_)
        · skip
          refine GC.seq ?_
          refine GC.draw 8 [] mo_ ?_
          refine GD.pure1 (i := 0) rfl (fun _ _ => rv_move rfl) ?_
          refine GD.pure1 (i := 1) rfl (fun _ _ => rv_move rfl) ?_
          refine GD.pure1 (i := 2) rfl (fun _ _ => rv_move rfl) ?_
          refine GD.pure1 (i := 3) rfl (fun _ _ => rv_to (v' := .int .i64 ((i + 1 : Nat) : Int)) (rv_add rfl rfl (by omega) (by omega)) (congrArg (Value.int .i64) (by omega))) ?_
          refine GD.pure1 (i := 4) rfl (fun _ _ => rv_to (v' := .slice (some ⟨b, (i + 1) * 3, none⟩) (n + 1 - (i + 1)) (c - (i + 1))) (rv_slFrom es_46 rfl rfl (i + 1) (by rfl) (by omega) (by omega)) (by rw [sAddr_lt (by omega), Nat.zero_add])) ?_
          refine GD.pure1 (i := 5) rfl (fun _ _ => rv_move rfl) ?_
          refine GD.pure1 (i := 6) rfl (fun _ _ => rv_move rfl) ?_
          refine GD.pure1 (i := 7) rfl (fun _ _ => rv_to (v' := .slice (some ⟨b, (i) * 3, none⟩) (n + 1 - (i)) (c - (i))) (rv_slFrom es_46 rfl rfl (i) (by rfl) (by omega) (by omega)) (by rw [sAddr_lt (by omega), Nat.zero_add])) ?_
          refine GD.step (i := 8) (by kernel_rfl) rfl (ot_copy (k := 0) (us := xs.drop (i * 3)) (m := n - i) ei_46 rfl rfl (by omega) rfl (fun w h => .inr ⟨b, i * 3, rfl, fun j u hj => by have h1 := Hd.cellsAll (k := 0) rfl w h (i * 3 + j) u (by rw [List.getElem?_append_left (by have := (List.getElem?_eq_some_iff.1 hj).1; rw [List.length_drop] at this; omega)]; rwa [List.getElem?_drop] at hj); rwa [Nat.zero_add] at h1⟩) (by rw [List.length_drop]; omega) (List.all_eq_true.2 fun x hx => List.all_eq_true.1 hx1 x (List.mem_of_mem_drop hx)) (by rw [List.length_drop]; omega) rfl rfl ⟨.inl rfl, ?_⟩)
          refine GD.done (by kernel_rfl) ?_
          refine GX.then ?_
          refine GC.seq ?_
          refine GC.reg ?_
          refine GL.val (rv_move rfl) rfl ?_
          refine GL.val (rv_move rfl) rfl ?_
          refine GL.val (rv_to (v' := .slice (some ⟨b, (i) * 3, none⟩) (n + 1 - (i)) (c - (i))) (rv_slFrom es_46 rfl rfl (i) (by rfl) (by omega) (by omega)) (by rw [sAddr_lt (by omega), Nat.zero_add])) rfl ?_
          refine GL.val (rv_move rfl) rfl ?_
          refine GL.step (ot_copy (k := 0) (us := v) (m := 1) ei_46 rfl rfl (by omega) rfl (fun w h => .inr ⟨vb, 0, rfl, Hd.cellsAll (k := 1) rfl w h⟩) (by omega) hv1 (by rw [length_repl]; omega) rfl rfl ?_)
          refine GL.nil ?_
          refine GX.then ?_
          refine GC.seq ?_
          refine GC.reg ?_
          refine GL.val (rv_move rfl) rfl ?_
          refine GL.val (rv_assign rfl) rfl ?_
          refine GL.nil ?_
          refine GX.then ?_
          refine GC.ret ?_
          refine GX.then_ret ?_
          refine GX.ret1 rfl (RR.tmp rfl) ?_
          exact fun w9 h => ⟨(some ⟨b, 0, none⟩, c), rfl, by
              have h := h.sel [0] rfl rfl
              have h := h.clRowC (k := 0) (sz := 3) (n' := n + 1) (c := c) rfl (by rw [length_repl, length_repl]; exact hrl) (by omega) hmx (ins_cells hxl hvl hin (by rw [hrl]; omega) (by decide))
              exact h, hgc⟩
        · cases c68
end
end Go.Proofs.Ytkifeeiafachpaa
