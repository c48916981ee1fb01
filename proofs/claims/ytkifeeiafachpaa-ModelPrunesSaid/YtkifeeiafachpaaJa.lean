import Derived.Test.YtkifeeiafachpaaHa
set_option linter.unusedVariables false
set_option linter.unusedSimpArgs false
namespace Go.Proofs.Ytkifeeiafachpaa
section
open Go Go.RowKit Go.Bz

theorem nxt_ok {hv : Bool} {cn : ByteArray} {ck : Sh.B} {cs : UInt64} {kd : Int} {qn : ByteArray} {qk dg : Sh.B} (h : nxt hv cn ck cs kd qn qk dg = 0) :
    chk qn qk = 0 ∧ (hv = true → kd = 2 ∧ cn = qn ∧ cs ≠ 18446744073709551615 ∧ dg = auth ck qn (cs + 1) qk) ∧ (hv = false → kd = 1 ∧ dg = zdg) := by
  unfold nxt at h
  by_cases h1 : pchk kd qn qk ≠ 0
  · rw [if_pos h1] at h; exact absurd h h1
  rw [if_neg h1] at h
  by_cases h2 : hv = true ∧ cn ≠ qn
  · rw [if_pos h2] at h; cases h
  rw [if_neg h2] at h
  have hk : ¬ (kd ≠ 1 ∧ kd ≠ 2) := by
    intro hh; apply h1; unfold pchk; rw [if_pos hh]; decide
  have hc : chk qn qk = 0 := by
    have : pchk kd qn qk = chk qn qk := by unfold pchk; rw [if_neg hk]
    rw [← this]; simpa using h1
  refine ⟨hc, fun hv1 => ?_, fun hv0 => ?_⟩
  · subst hv1
    by_cases h3 : kd = 1
    · rw [if_pos h3, if_pos rfl] at h; cases h
    rw [if_neg h3, if_neg (by decide)] at h
    by_cases h4 : cs = 18446744073709551615
    · rw [if_pos h4] at h; cases h
    rw [if_neg h4] at h
    by_cases h5 : dg ≠ auth ck qn (cs + 1) qk
    · rw [if_pos h5] at h; cases h
    refine ⟨?_, ?_, h4, by simpa using h5⟩
    · omega
    · exact Decidable.byContradiction fun hh => h2 ⟨rfl, hh⟩
  · subst hv0
    by_cases h3 : kd = 1
    · rw [if_pos h3, if_neg (by decide)] at h
      by_cases h5 : dg ≠ zdg
      · rw [if_pos h5] at h; cases h
      · exact ⟨h3, by simpa using h5⟩
    · rw [if_neg h3, if_pos rfl] at h; cases h
/-! the directory, plain -/
abbrev Rq := Int × ByteArray × Sh.B × Sh.B
def rpl (z : ReqZ) : Rq := (z.1, z.2.1, z.2.2.1, z.2.2.2.2)
def bz0 : BindZ := (ByteArray.empty, [], (none, 0), 0)
def bd0 : Bd := (ByteArray.empty, [], 0)
def atN (l : List BindZ) (s : ByteArray) : BindZ := if hasN (nms l) s = true then l.getD (lbn (nms l) s) bz0 else bz0
def fnd (l : List Bd) (s : ByteArray) : Option Bd := l.find? fun b => decide (b.1 = s)
def nxe (o : Option Bd) (q : Rq) : Int := nxt o.isSome (o.getD bd0).1 (o.getD bd0).2.1 (o.getD bd0).2.2 q.1 q.2.1 q.2.2.1 q.2.2.2
def nxb (o : Option Bd) (q : Rq) : Bd := (q.2.1, q.2.2.1, nser q.1 (o.getD bd0).2.2)
def insB (l : List Bd) (b : Bd) : List Bd := (l.filter fun x => decide (nlt x.1 b.1)) ++ b :: l.filter fun x => decide (nlt b.1 x.1)
def insZ (l : List BindZ) (b : BindZ) : List BindZ := (l.filter fun x => decide (nlt x.1 b.1)) ++ b :: l.filter fun x => decide (nlt b.1 x.1)
def dnE (l : List Bd) (q : Rq) : Int := if nxe (fnd l q.2.1) q ≠ 0 then nxe (fnd l q.2.1) q else if (fnd l q.2.1).isNone = true ∧ 256 ≤ l.length then 9 else 0
def dnL (l : List Bd) (q : Rq) : List Bd := if dnE l q = 0 then insB l (nxb (fnd l q.2.1) q) else []
def wt : List Bd → List Rq → Int × List Bd
  | l, [] => (0, l)
  | l, q :: qs => if dnE l q ≠ 0 then (dnE l q, []) else wt (dnL l q) qs
def lastL (e : List (List Bd)) : List Bd := e.getLast?.getD []
abbrev Dz := List (List Bd) × List Rq × UInt64
def okB (b : Bd) : Prop := chk b.1 b.2.1 = 0 ∧ b.2.2 ≠ 0
instance (b : Bd) : Decidable (okB b) := inferInstanceAs (Decidable (_ ∧ _))
def sortP (l : List Bd) : Prop := l.Pairwise fun a b => nlt a.1 b.1
instance (l : List Bd) : Decidable (sortP l) := inferInstanceAs (Decidable (List.Pairwise _ _))
def rightL (l : List Bd) : Prop := (∀ b ∈ l, okB b) ∧ sortP l ∧ l.length ≤ 256
instance (l : List Bd) : Decidable (rightL l) := inferInstanceAs (Decidable (_ ∧ _))
def headP (d : Dz) : Prop := d.1.length ≤ 64 ∧ d.2.1.length ≤ 16 ∧ 1 ≤ d.2.2.toNat ∧ d.2.2.toNat ≤ max 1 d.1.length
instance (d : Dz) : Decidable (headP d) := inferInstanceAs (Decidable (_ ∧ _))
def ckP (d : Dz) : Prop := headP d ∧ (∀ l ∈ d.1, rightL l) ∧ (wt (lastL d.1) d.2.1).1 = 0
instance (d : Dz) : Decidable (ckP d) := inferInstanceAs (Decidable (_ ∧ _))
def ckE (d : Dz) : Int := if ckP d then 0 else 1

theorem insZ_pl (l : List BindZ) (b : BindZ) : (insZ l b).map bpl = insB (l.map bpl) (bpl b) := by
  unfold insZ insB
  simp only [List.map_append, List.map_cons, List.filter_map]
  rfl
theorem srt_iff {l : List BindZ} : Srt (nms l) ↔ l.Pairwise fun a b => nlt a.1 b.1 := by
  rw [List.pairwise_iff_getElem]
  constructor
  · intro h i j hi hj hij
    have := h i j (by rw [nms_len]; exact hi) (by rw [nms_len]; exact hj) hij
    rwa [nms_get _ _ hi, nms_get _ _ hj] at this
  · intro h i j hi hj hij
    rw [nms_get _ _ (by rw [← nms_len]; exact hi), nms_get _ _ (by rw [← nms_len]; exact hj)]
    exact h i j _ _ hij
theorem sortP_iff {l : List BindZ} : sortP (l.map bpl) ↔ Srt (nms l) := by
  rw [srt_iff]; unfold sortP; rw [List.pairwise_map]; rfl
theorem lbn_cons_lt {x : BindZ} {l : List BindZ} {s : ByteArray} (h : nlt x.1 s) : lbn (nms (x :: l)) s = lbn (nms l) s + 1 := by
  unfold lbn nms; simp only [List.map_cons, List.takeWhile_cons, h, decide_true, if_true, List.length_cons]
theorem lbn_cons_ge {x : BindZ} {l : List BindZ} {s : ByteArray} (h : ¬ nlt x.1 s) : lbn (nms (x :: l)) s = 0 := by
  unfold lbn nms; simp only [List.map_cons, List.takeWhile_cons, h, decide_false, Bool.false_eq_true, if_false, List.length_nil]
/-- of bindings by rising names: where a name stands, and what stands ahead of it and behind -/
theorem srt_cases {l : List BindZ} {s : ByteArray} (h : l.Pairwise fun a b => nlt a.1 b.1) :
    (hasN (nms l) s = true ∧ (∃ hlt : lbn (nms l) s < l.length, l[lbn (nms l) s].1 = s ∧ fnd (l.map bpl) s = some (bpl l[lbn (nms l) s])) ∧ l.take (lbn (nms l) s) = l.filter (fun x => decide (nlt x.1 s)) ∧ l.drop (lbn (nms l) s + 1) = l.filter (fun x => decide (nlt s x.1))) ∨
    (hasN (nms l) s = false ∧ fnd (l.map bpl) s = none ∧ l.take (lbn (nms l) s) = l.filter (fun x => decide (nlt x.1 s)) ∧ l.drop (lbn (nms l) s) = l.filter (fun x => decide (nlt s x.1))) := by
  induction l with
  | nil => exact .inr ⟨rfl, rfl, rfl, rfl⟩
  | cons x l ih =>
    obtain ⟨hx, hl⟩ := List.pairwise_cons.1 h
    by_cases h1 : nlt x.1 s
    · have hne : x.1 ≠ s := nlt_ne h1
      have hng : ¬ nlt s x.1 := nlt_asymm h1
      have hf : fnd ((x :: l).map bpl) s = fnd (l.map bpl) s := by unfold fnd; simp [List.find?_cons, bpl, hne]
      have hh : hasN (nms (x :: l)) s = hasN (nms l) s := by
        unfold hasN
        rw [lbn_cons_lt h1, decide_eq_decide, nms_len, nms_len, List.length_cons]
        constructor
        · rintro ⟨a, b⟩; exact ⟨by omega, by simpa [nms] using b⟩
        · rintro ⟨a, b⟩; exact ⟨by omega, by simpa [nms] using b⟩
      rw [hf, hh, lbn_cons_lt h1, List.take_succ_cons, List.filter_cons_of_pos (by simpa using h1), List.filter_cons_of_neg (by simpa using hng), List.drop_succ_cons]
      rcases ih hl with ⟨a, ⟨hlt, b1, b2⟩, c, d⟩ | ⟨a, b, c, d⟩
      · exact .inl ⟨a, ⟨by rw [List.length_cons]; omega, by simpa using b1, by simpa using b2⟩, by rw [c], by simpa using d⟩
      · exact .inr ⟨a, b, by rw [c], by simpa using d⟩
    · rw [lbn_cons_ge h1]
      have hlt : ∀ y ∈ l, ¬ nlt y.1 s := fun y hy hys => h1 (nlt_trans (hx y hy) hys)
      have hfl : (x :: l).filter (fun x => decide (nlt x.1 s)) = [] := List.filter_eq_nil_iff.2 fun y hy => by
        rcases List.mem_cons.1 hy with rfl | hy
        · simpa using h1
        · simpa using hlt y hy
      by_cases h2 : x.1 = s
      · have hg : ∀ y ∈ l, nlt s y.1 := fun y hy => h2 ▸ hx y hy
        refine .inl ⟨?_, ⟨by simp, by simpa using h2, by unfold fnd; simp [List.find?_cons, bpl, h2]⟩, by rw [hfl]; rfl, ?_⟩
        · unfold hasN; rw [lbn_cons_ge h1]; simp [nms, h2]
        · rw [List.filter_cons_of_neg (by simp [h2, nlt_irrefl]), List.filter_eq_self.2 fun y hy => by simpa using hg y hy]; simp
      · have h3 : nlt s x.1 := Decidable.byContradiction fun k => h2 (nlt_total h1 k)
        have hg : ∀ y ∈ x :: l, nlt s y.1 := fun y hy => by
          rcases List.mem_cons.1 hy with rfl | hy
          · exact h3
          · exact nlt_trans h3 (hx y hy)
        refine .inr ⟨?_, ?_, by rw [hfl]; rfl, ?_⟩
        · unfold hasN; rw [lbn_cons_ge h1]; simp [nms, h2]
        · unfold fnd; rw [List.find?_eq_none]; intro y hy
          obtain ⟨z, hz, rfl⟩ := List.mem_map.1 hy
          have := hg z hz
          have hne : z.1 ≠ s := fun e => nlt_irrefl s (by rw [e] at this; exact this)
          exact fun h => hne (of_decide_eq_true h)
        · rw [List.filter_eq_self.2 fun y hy => by simpa using hg y hy]; rfl
theorem atN_pl {l : List BindZ} {s : ByteArray} (h : Srt (nms l)) : hasN (nms l) s = (fnd (l.map bpl) s).isSome ∧ bpl (atN l s) = (fnd (l.map bpl) s).getD bd0 ∧ (atN l s ∈ l ∨ atN l s = bz0) := by
  unfold atN
  rcases srt_cases (s := s) (srt_iff.1 h) with ⟨a, ⟨hlt, b1, b2⟩, _⟩ | ⟨a, b, _⟩
  · rw [if_pos a, b2, a, List.getD_eq_getElem?_getD, List.getElem?_eq_getElem hlt]; exact ⟨rfl, rfl, .inl (List.getElem_mem _)⟩
  · rw [if_neg (by rw [a]; decide), b, a]; exact ⟨rfl, rfl, .inr rfl⟩
theorem ins_set {l : List BindZ} (h : Srt (nms l)) {b : BindZ} (hh : hasN (nms l) b.1 = true) : l.set (lbn (nms l) b.1) b = insZ l b := by
  rcases srt_cases (s := b.1) (srt_iff.1 h) with ⟨a, ⟨hlt, b1, b2⟩, c, d⟩ | ⟨a, _⟩
  · rw [List.set_eq_take_append_cons_drop, if_pos hlt, c, d]; rfl
  · rw [a] at hh; cases hh
theorem ins_ins {l : List BindZ} (h : Srt (nms l)) {b : BindZ} (hh : hasN (nms l) b.1 = false) : l.take (lbn (nms l) b.1) ++ b :: l.drop (lbn (nms l) b.1) = insZ l b := by
  rcases srt_cases (s := b.1) (srt_iff.1 h) with ⟨a, _⟩ | ⟨a, _, c, d⟩
  · rw [a] at hh; cases hh
  · rw [c, d]; rfl
theorem insZ_mem {l : List BindZ} {b x : BindZ} (h : x ∈ insZ l b) : x ∈ l ∨ x = b := by
  unfold insZ at h
  simp only [List.mem_append, List.mem_cons, List.mem_filter] at h
  rcases h with h | h | h
  · exact .inl h.1
  · exact .inr h
  · exact .inl h.1
theorem insB_mem {l : List Bd} {b x : Bd} (h : x ∈ insB l b) : x ∈ l ∨ x = b := by
  unfold insB at h
  simp only [List.mem_append, List.mem_cons, List.mem_filter] at h
  rcases h with h | h | h
  · exact .inl h.1
  · exact .inr h
  · exact .inl h.1
theorem insB_sort {l : List Bd} {b : Bd} (h : sortP l) : sortP (insB l b) := by
  unfold insB sortP at *
  rw [List.pairwise_append]
  refine ⟨h.filter _, List.pairwise_cons.2 ⟨fun x hx => by simpa using (List.mem_filter.1 hx).2, h.filter _⟩, fun x hx y hy => ?_⟩
  have h1 : nlt x.1 b.1 := by simpa using (List.mem_filter.1 hx).2
  rcases List.mem_cons.1 hy with rfl | hy
  · exact h1
  · exact nlt_trans h1 (by simpa using (List.mem_filter.1 hy).2)
theorem insB_len {l : List Bd} {b : Bd} (h : sortP l) : (insB l b).length = if (fnd l b.1).isSome = true then l.length else l.length + 1 := by
  obtain ⟨lz, rfl⟩ : ∃ lz : List BindZ, lz.map bpl = l := ⟨l.map fun x => (x.1, x.2.1, (none, 0), x.2.2), by rw [List.map_map]; exact (List.map_congr_left fun x _ => rfl).trans (List.map_id l)⟩
  have hs := srt_iff.1 (sortP_iff.1 h)
  have hb : b = bpl (b.1, b.2.1, (none, 0), b.2.2) := rfl
  rw [hb, ← insZ_pl, List.length_map, List.length_map]
  rcases srt_cases (s := b.1) hs with ⟨a, ⟨hlt, b1, b2⟩, c, d⟩ | ⟨a, b2, c, d⟩
  · rw [← ins_set (srt_iff.2 hs) (b := (b.1, b.2.1, (none, 0), b.2.2)) a, List.length_set]
    rw [show (bpl (b.1, b.2.1, (none, 0), b.2.2)).1 = b.1 from rfl, b2]; rfl
  · rw [← ins_ins (srt_iff.2 hs) (b := (b.1, b.2.1, (none, 0), b.2.2)) a, show (bpl (b.1, b.2.1, (none, 0), b.2.2)).1 = b.1 from rfl, b2]
    have := lbn_le (nms lz) b.1
    rw [nms_len] at this
    simp only [List.length_append, List.length_take, List.length_cons, List.length_drop, Option.isSome_none, Bool.false_eq_true, if_false]
    omega
theorem nxe_ok {o : Option Bd} {q : Rq} (h : nxe o q = 0) : chk q.2.1 q.2.2.1 = 0 ∧ (nxb o q).2.2 ≠ 0 := by
  obtain ⟨h1, h2, h3⟩ := nxt_ok h
  refine ⟨h1, ?_⟩
  unfold nxb nser
  cases ho : o.isSome with
  | true =>
    obtain ⟨e1, _, e3, _⟩ := h2 ho
    dsimp only
    rw [if_neg (by rw [e1]; decide)]
    intro hz
    apply e3
    have : (o.getD bd0).2.2 + 1 - 1 = 0 - 1 := by rw [hz]
    rw [UInt64.add_sub_cancel] at this
    rw [this]; rfl
  | false =>
    obtain ⟨e1, _⟩ := h3 ho
    dsimp only
    rw [if_pos e1]; decide
theorem dn_right {l : List Bd} {q : Rq} (h : rightL l) (h0 : dnE l q = 0) : rightL (dnL l q) := by
  have h0' := h0
  unfold dnE at h0
  by_cases hn : nxe (fnd l q.2.1) q ≠ 0
  · rw [if_pos hn] at h0; exact absurd h0 hn
  rw [if_neg hn] at h0
  have hn0 : nxe (fnd l q.2.1) q = 0 := Decidable.byContradiction hn
  obtain ⟨k1, k2⟩ := nxe_ok hn0
  unfold dnL; rw [if_pos h0']
  refine ⟨fun b hb => ?_, insB_sort h.2.1, ?_⟩
  · rcases insB_mem hb with hb | rfl
    · exact h.1 b hb
    · exact ⟨k1, k2⟩
  · rw [insB_len h.2.1, show (nxb (fnd l q.2.1) q).1 = q.2.1 from rfl]
    by_cases hs : (fnd l q.2.1).isSome = true
    · rw [if_pos hs]; exact h.2.2
    · rw [if_neg hs]
      by_cases hc : (fnd l q.2.1).isNone = true ∧ 256 ≤ l.length
      · rw [if_pos hc] at h0; cases h0
      · have : (fnd l q.2.1).isNone = true := by simpa using hs
        have : ¬ 256 ≤ l.length := fun h => hc ⟨this, h⟩
        omega
theorem wt_right : ∀ {qs : List Rq} {l : List Bd}, rightL l → (wt l qs).1 = 0 → rightL (wt l qs).2
  | [], l, h, _ => h
  | q :: qs, l, h, h0 => by
    unfold wt at h0 ⊢
    by_cases hd : dnE l q ≠ 0
    · rw [if_pos hd] at h0; exact absurd h0 hd
    · rw [if_neg hd] at h0 ⊢; exact wt_right (dn_right h (Decidable.byContradiction hd)) h0
theorem lastL_right {e : List (List Bd)} (h : ∀ l ∈ e, rightL l) : rightL (lastL e) := by
  unfold lastL
  cases hl : e.getLast? with
  | none => exact ⟨fun b hb => (by cases hb), List.Pairwise.nil, Nat.zero_le _⟩
  | some x => exact h x (List.mem_of_getLast? hl)
end
section
open Go Go.RowKit Go.Bz
theorem ag_22 : aggB Try.prog 22 = some false := by kernel_rfl
theorem ag_46 : aggB Try.prog 46 = some false := by kernel_rfl
theorem es_22 : elemSz Try.prog 22 = some 1 := by kernel_rfl
theorem fo_26_0 : fieldOff Try.prog 26 0 = some 0 := by kernel_rfl
/-! directories with their addresses -/
abbrev EpZ := (Option Addr × Nat) × List BindZ
def ecell (e : EpZ) : List Value := [.slice e.1.1 e.2.length e.1.2]
abbrev DirZ := ((Option Addr × Nat) × List EpZ) × ((Option Addr × Nat) × List ReqZ) × UInt64
def dcell (d : DirZ) : List Value := [.slice d.1.1.1 d.1.2.length d.1.1.2, .slice d.2.1.1.1 d.2.1.2.length d.2.1.1.2, v64 d.2.2]
def epl (e : EpZ) : List Bd := e.2.map bpl
def dpl (d : DirZ) : Dz := (d.1.2.map epl, d.2.1.2.map rpl, d.2.2)
def bfx (b : BindZ) : Fact := (b.2.2.1.1, byts b.2.1)
def rfx (q : ReqZ) : Fact := (q.2.2.2.1.1, byts q.2.2.1)
def efx (e : EpZ) : List Fact := (e.1.1, fcat bzc e.2) :: e.2.map bfx
def dfx (d : DirZ) : List Fact := (d.1.1.1, fcat ecell d.1.2) :: (d.2.1.1.1, fcat qzc d.2.1.2) :: (d.1.2.flatMap efx ++ d.2.1.2.map rfx)
def bOk (b : BindZ) : Prop := b.1.size < 4611686018427387904 ∧ b.2.1.length ≤ b.2.2.1.2
def eOk (e : EpZ) : Prop := (∀ b ∈ e.2, bOk b) ∧ e.2.length ≤ 1000000 ∧ e.2.length ≤ e.1.2
def qOk (q : ReqZ) : Prop := q.2.1.size < 4611686018427387904 ∧ q.2.2.1.length ≤ q.2.2.2.1.2 ∧ q.2.2.1.length ≤ 2000 ∧ q.2.2.2.2.length = 32
def dOk (d : DirZ) : Prop := (∀ e ∈ d.1.2, eOk e) ∧ (∀ q ∈ d.2.1.2, qOk q) ∧ d.1.2.length ≤ 1000000 ∧ d.2.1.2.length ≤ 1000000
theorem ec_len {l : List EpZ} : ∀ x ∈ l, (ecell x).length = 1 := fun _ _ => rfl
theorem qz_len {l : List ReqZ} (h : ∀ q ∈ l, qOk q) : ∀ x ∈ l, (qzc x).length = 35 := fun x hx => qc_len (h x hx).2.2.2
theorem qz_one {l : List ReqZ} : (fcat qzc l).all Value.oneCell' = true := fcat_one' fun _ _ => qc_one
theorem ec_one {l : List EpZ} : (fcat ecell l).all Value.oneCell' = true := fcat_one' fun _ _ => rfl
/-- what is found in R lies in F, or was handed in -/
def Sbs (R F I : List Fact) : Prop := ∀ f ∈ R, f.2 = [] ∨ f ∈ F ∨ f ∈ I
theorem Sbs.has {w0 w : World} {Fs : List Pc} {k : Nat} {R F I : List Fact} (h : Sbs R F I) (hh : Hd noB w0 w Fs) (e : Fs[k]? = some (Bz.frzN F)) (hI : Has w0 I) : Has w R := fun f hf =>
  (h f hf).elim (fun h => .inl h) fun h => h.elim (fun h => hh.frzN e f h) (fun h => hh.rd0n (hI f h))
theorem Sbs.sub {R R' F I : List Fact} (h : Sbs R F I) (k : ∀ f ∈ R', f ∈ R) : Sbs R' F I := fun f hf => h f (k f hf)
theorem Sbs.of {R I : List Fact} (F : List Fact) (h : ∀ f ∈ R, f ∈ I) : Sbs R F I := fun f hf => .inr (.inr (h f hf))
theorem Sbs.l {R F I F' : List Fact} (h : Sbs R F I) : Sbs R (F' ++ F) I := fun f hf => (h f hf).imp id fun h => h.imp (fun h => List.mem_append_right _ h) id
/-- what a callee found in what it was handed -/
theorem Sbs.trans {R F I F' J : List Fact} (h : Sbs R F I) (k : Sbs I F' J) : Sbs R (F ++ F') J := fun f hf =>
  (h f hf).elim .inl fun h => h.elim (fun h => .inr (.inl (List.mem_append_left _ h))) fun h => (k f h).imp id fun h => h.imp (fun h => List.mem_append_right _ h) id
theorem Sbs.nil (F I : List Fact) : Sbs [] F I := fun f hf => by cases hf
theorem Sbs.app {R1 R2 F I : List Fact} (h1 : Sbs R1 F I) (h2 : Sbs R2 F I) : Sbs (R1 ++ R2) F I := fun f hf => (List.mem_append.1 hf).elim (h1 f) (h2 f)
theorem Sbs.cons {r : Fact} {R F I : List Fact} (h1 : r.2 = [] ∨ r ∈ F ∨ r ∈ I) (h2 : Sbs R F I) : Sbs (r :: R) F I := fun f hf => (List.mem_cons.1 hf).elim (fun e => e ▸ h1) (h2 f)
theorem efx_hd (e : EpZ) : (e.1.1, fcat bzc e.2) ∈ efx e := List.mem_cons_self ..
theorem efx_b {e : EpZ} {b : BindZ} (h : b ∈ e.2) : bfx b ∈ efx e := List.mem_cons_of_mem _ (List.mem_map_of_mem h)
theorem dfx_e (d : DirZ) : (d.1.1.1, fcat ecell d.1.2) ∈ dfx d := List.mem_cons_self ..
theorem dfx_q (d : DirZ) : (d.2.1.1.1, fcat qzc d.2.1.2) ∈ dfx d := List.mem_cons_of_mem _ (List.mem_cons_self ..)
theorem dfx_ep {d : DirZ} {e : EpZ} (h : e ∈ d.1.2) : ∀ f ∈ efx e, f ∈ dfx d := fun f hf => List.mem_cons_of_mem _ (List.mem_cons_of_mem _ (List.mem_append_left _ (List.mem_flatMap.2 ⟨e, h, hf⟩)))
theorem dfx_r {d : DirZ} {q : ReqZ} (h : q ∈ d.2.1.2) : rfx q ∈ dfx d := List.mem_cons_of_mem _ (List.mem_cons_of_mem _ (List.mem_append_right _ (List.mem_map_of_mem h)))
def lastZ (d : DirZ) : EpZ := d.1.2.getLast?.getD ((none, 0), [])
theorem lastZ_pl (d : DirZ) : epl (lastZ d) = lastL (dpl d).1 := by
  unfold lastZ lastL dpl
  rw [List.getLast?_map]
  cases d.1.2.getLast? <;> rfl
theorem lastZ_mem (d : DirZ) : lastZ d ∈ d.1.2 ∨ lastZ d = ((none, 0), []) := by
  unfold lastZ
  cases h : d.1.2.getLast? with
  | none => exact .inr rfl
  | some x => exact .inl (List.mem_of_getLast? h)
theorem lastZ_fx (d : DirZ) : Sbs (efx (lastZ d)) [] (dfx d) := by
  rcases lastZ_mem d with h | h
  · exact Sbs.of _ (dfx_ep h)
  · rw [h]; exact Sbs.cons (.inl rfl) (Sbs.nil _ _)
theorem lastZ_ok {d : DirZ} (h : dOk d) : eOk (lastZ d) := by
  rcases lastZ_mem d with k | k
  · exact h.1 _ k
  · rw [k]; exact ⟨fun b hb => (by cases hb), Nat.zero_le _, Nat.le_refl _⟩
theorem sortP_snoc {l : List Bd} {x : Bd} (h : sortP l) (hx : ∀ y, l.getLast? = some y → nlt y.1 x.1) : sortP (l ++ [x]) := by
  unfold sortP at *
  rw [List.pairwise_append]
  refine ⟨h, List.pairwise_singleton _ _, fun y hy z hz => ?_⟩
  obtain rfl := List.mem_singleton.1 hz
  rcases List.eq_nil_or_concat l with rfl | ⟨l', a, rfl⟩
  · cases hy
  · rw [List.concat_eq_append] at *
    have ha := hx a (by simp)
    rcases List.mem_append.1 hy with hy | hy
    · exact nlt_trans ((List.pairwise_append.1 h).2.2 y hy a (by simp)) ha
    · obtain rfl := List.mem_singleton.1 hy; exact ha
set_option maxRecDepth 100000 in
set_option maxHeartbeats 1000000 in
theorem last_c (d : DirZ) (w : World) (hD : Has w (dfx d)) (hok : dOk d) : Calls Try.prog 43 [.agg (dcell d).toArray].toArray w fun e w' => ∃ _g : Unit, e = .returned (.slice (lastZ d).1.1 (lastZ d).2.length (lastZ d).1.2) ∧ St noB w w' [] ∧ True := by
  obtain ⟨⟨⟨EA, ec⟩, es⟩, ⟨⟨QA, qcap⟩, qs⟩, fr⟩ := d
  unfold dcell
  dsimp only
  obtain ⟨hok1, hok2, hok3, hok4⟩ := hok
  dsimp only at hok1 hok2 hok3 hok4
  have hE : SlR w EA (fcat ecell es) := hD _ (dfx_e _)
  have hl0 : es = [] → lastZ (((EA, ec), es), ((QA, qcap), qs), fr) = ((none, 0), []) := fun h => by subst h; rfl
  have hl1 : ∀ h : es.length - 1 < es.length, lastZ (((EA, ec), es), ((QA, qcap), qs), fr) = es[es.length - 1] := fun h => by unfold lastZ; dsimp only; rw [List.getLast?_eq_getElem?, List.getElem?_eq_getElem h]; rfl
  refine GC.calls Try.func43 rfl rfl (St.begin _) ?_
  refine GC.seq ?_
  refine GC.reg ?_
  refine GL.step (ot_box rfl rfl rfl fun b1 => ?_)
  refine GL.val (rv_assign rfl) rfl ?_
  refine GL.nil ?_
  refine GX.then ?_
  refine GC.seq ?_
  refine GC.seq ?_
  refine GC.reg ?_
  refine GL.val (rv_field fo_26_0 rfl rfl) rfl ?_
  refine GL.val (rv_load ag_22 rfl (by first | exact Hd.cell (k := 0) rfl rfl | exact Hd.rowCell (k := 0) rfl (by assumption))) rfl ?_
  refine GL.val (rv_lenSl Try.underlying22 rfl) rfl ?_
  refine GL.val (rv_eqI rfl rfl) rfl ?_
  refine GL.nil ?_
  refine GX.then ?_
  first | refine GC.condP rfl (fun c6 => ?_) (fun c6 => ?_) | refine GC.cond rfl (fun c6 => ?_) (fun c6 => ?_)
  · obtain rfl : es = [] := List.eq_nil_of_length_eq_zero (by omega)
    rw [hl0 rfl]
    refine GC.seq ?_
    refine GC.reg ?_
    refine GL.val (rv_assign rfl) rfl ?_
    refine GL.nil ?_
    refine GX.then ?_
    refine GC.ret ?_
    refine GX.then_ret ?_
    refine GX.ret1 rfl (RR.tmp rfl) ?_
    exact fun w9 h => ⟨(), rfl, by
        have h := h.sel [] rfl rfl
        exact h, trivial⟩
  · have hlt : es.length - 1 < es.length := by omega
    rw [hl1 hlt]
    obtain ⟨b, o, rfl, hC⟩ := slr_some hE (fcat_ne ec_len (by decide) hlt)
    refine GC.skip ?_
    refine GX.then ?_
    refine GC.seq ?_
    refine GC.reg ?_
    refine GL.val (rv_field fo_26_0 rfl rfl) rfl ?_
    refine GL.val (rv_load ag_22 rfl (by first | exact Hd.cell (k := 0) rfl rfl | exact Hd.rowCell (k := 0) rfl (by assumption))) rfl ?_
    refine GL.val (rv_field fo_26_0 rfl rfl) rfl ?_
    refine GL.val (rv_load ag_22 rfl (by first | exact Hd.cell (k := 0) rfl rfl | exact Hd.rowCell (k := 0) rfl (by assumption))) rfl ?_
    refine GL.val (rv_lenSl Try.underlying22 rfl) rfl ?_
    refine GL.val (rv_sub rfl rfl (by omega) (by omega)) rfl ?_
    refine GL.val (rv_elemJ (q := o + (es.length - 1) * 1) (es.length - 1) es_22 rfl rfl (by first | rfl | omega) (by omega) rfl) rfl ?_
    refine GL.val (rv_load ag_46 rfl (Hd.cell0 ((hC.fcat ec_len (es.length - 1) hlt) 0 _ rfl) (fun h => h))) rfl ?_
    refine GL.val (rv_assign rfl) rfl ?_
    refine GL.nil ?_
    refine GX.then ?_
    refine GC.ret ?_
    refine GX.ret1 rfl (RR.tmp rfl) ?_
    exact fun w9 h => ⟨(), rfl, by
        have h := h.sel [] rfl rfl
        exact h, trivial⟩
set_option maxRecDepth 100000 in
set_option maxHeartbeats 1000000 in
theorem rlast_c (d : DirZ) (w : World) (hD : Has w (dfx d)) (hok : dOk d) : Calls Try.prog 44 [.agg (dcell d).toArray].toArray w fun e w' => ∃ _g : Unit, e = .returned (.slice (lastZ d).1.1 (lastZ d).2.length (lastZ d).1.2) ∧ St noB w w' [] ∧ True := by
  obtain ⟨⟨⟨EA, ec⟩, es⟩, ⟨⟨QA, qcap⟩, qs⟩, fr⟩ := d
  unfold dcell
  dsimp only
  obtain ⟨hok1, hok2, hok3, hok4⟩ := hok
  dsimp only at hok1 hok2 hok3 hok4
  have hE : SlR w EA (fcat ecell es) := hD _ (dfx_e _)
  have hl0 : es = [] → lastZ (((EA, ec), es), ((QA, qcap), qs), fr) = ((none, 0), []) := fun h => by subst h; rfl
  have hl1 : ∀ h : es.length - 1 < es.length, lastZ (((EA, ec), es), ((QA, qcap), qs), fr) = es[es.length - 1] := fun h => by unfold lastZ; dsimp only; rw [List.getLast?_eq_getElem?, List.getElem?_eq_getElem h]; rfl
  refine GC.calls Try.func44 rfl rfl (St.begin _) ?_
  refine GC.seq ?_
  refine GC.reg ?_
  refine GL.step (ot_box rfl rfl rfl fun b1 => ?_)
  refine GL.val (rv_assign rfl) rfl ?_
  refine GL.nil ?_
  refine GX.then ?_
  refine GC.seq ?_
  refine GC.seq ?_
  refine GC.reg ?_
  refine GL.val (rv_field fo_26_0 rfl rfl) rfl ?_
  refine GL.val (rv_load ag_22 rfl (by first | exact Hd.cell (k := 0) rfl rfl | exact Hd.rowCell (k := 0) rfl (by assumption))) rfl ?_
  refine GL.val (rv_lenSl Try.underlying22 rfl) rfl ?_
  refine GL.val (rv_eqI rfl rfl) rfl ?_
  refine GL.nil ?_
  refine GX.then ?_
  first | refine GC.condP rfl (fun c6 => ?_) (fun c6 => ?_) | refine GC.cond rfl (fun c6 => ?_) (fun c6 => ?_)
  · obtain rfl : es = [] := List.eq_nil_of_length_eq_zero (by omega)
    rw [hl0 rfl]
    refine GC.seq ?_
    refine GC.reg ?_
    refine GL.val (rv_assign rfl) rfl ?_
    refine GL.nil ?_
    refine GX.then ?_
    refine GC.ret ?_
    refine GX.then_ret ?_
    refine GX.ret1 rfl (RR.tmp rfl) ?_
    exact fun w9 h => ⟨(), rfl, by
        have h := h.sel [] rfl rfl
        exact h, trivial⟩
  · have hlt : es.length - 1 < es.length := by omega
    rw [hl1 hlt]
    obtain ⟨b, o, rfl, hC⟩ := slr_some hE (fcat_ne ec_len (by decide) hlt)
    refine GC.skip ?_
    refine GX.then ?_
    refine GC.seq ?_
    refine GC.reg ?_
    refine GL.val (rv_field fo_26_0 rfl rfl) rfl ?_
    refine GL.val (rv_load ag_22 rfl (by first | exact Hd.cell (k := 0) rfl rfl | exact Hd.rowCell (k := 0) rfl (by assumption))) rfl ?_
    refine GL.val (rv_field fo_26_0 rfl rfl) rfl ?_
    refine GL.val (rv_load ag_22 rfl (by first | exact Hd.cell (k := 0) rfl rfl | exact Hd.rowCell (k := 0) rfl (by assumption))) rfl ?_
    refine GL.val (rv_lenSl Try.underlying22 rfl) rfl ?_
    refine GL.val (rv_sub rfl rfl (by omega) (by omega)) rfl ?_
    refine GL.val (rv_elemJ (q := o + (es.length - 1) * 1) (es.length - 1) es_22 rfl rfl (by first | rfl | omega) (by omega) rfl) rfl ?_
    refine GL.val (rv_load ag_46 rfl (Hd.cell0 ((hC.fcat ec_len (es.length - 1) hlt) 0 _ rfl) (fun h => h))) rfl ?_
    refine GL.val (rv_assign rfl) rfl ?_
    refine GL.nil ?_
    refine GX.then ?_
    refine GC.ret ?_
    refine GX.ret1 rfl (RR.tmp rfl) ?_
    exact fun w9 h => ⟨(), rfl, by
        have h := h.sel [] rfl rfl
        exact h, trivial⟩
end
end Go.Proofs.Ytkifeeiafachpaa
