import Derived.Test.YtkifeeiafachpaaJp
set_option linter.unusedVariables false
set_option linter.unusedSimpArgs false
namespace Go.Proofs.Ytkifeeiafachpaa
open Go Go.RowKit Go.Bz

/-! what acts one behind the other make -/
def dNew : Dz := ([], [], 1)
def runD (os : List OpP) : Dz := os.foldl nextD dNew
theorem runD_s (os : List OpP) (i : Nat) (h : i < os.length) : runD (os.take (i + 1)) = nextD (runD (os.take i)) os[i] := by
  unfold runD; rw [List.take_succ_eq_append_getElem h, List.foldl_append]; rfl
theorem wt_snoc : ∀ {qs : List Rq} {l : List Bd} {q : Rq}, (wt l qs).1 = 0 → dnE (wt l qs).2 q = 0 → wt l (qs ++ [q]) = (0, dnL (wt l qs).2 q)
  | [], l, q, _, h => by
    rw [List.nil_append, wt_cons (show dnE l q = 0 from h)]; rfl
  | r :: qs, l, q, h0, h => by
    rw [List.cons_append]
    by_cases hd : dnE l r = 0
    · rw [wt_cons hd] at h0 h ⊢
      rw [wt_snoc h0 h, wt_cons hd]
    · rw [wt_err hd] at h0; exact absurd h0 hd
theorem now_nil {e : List (List Bd)} {r : UInt64} : nowL (e, [], r) = lastL e := rfl
theorem lastL_snoc (e : List (List Bd)) (l : List Bd) : lastL (e ++ [l]) = l := by unfold lastL; rw [List.getLast?_concat]; rfl
theorem now_r {d : Dz} (h : ckP d) : rightL (nowL d) := wt_right (lastL_right h.2.1) h.2.2
theorem ck_submit {d : Dz} {q : Rq} (h : ckP d) (k : dnE (nowL d) q = 0) (f : ¬ 16 ≤ d.2.1.length) : ckP (d.1, d.2.1 ++ [q], d.2.2) ∧ nowL (d.1, d.2.1 ++ [q], d.2.2) = dnL (nowL d) q := by
  have hw := wt_snoc h.2.2 (show dnE (wt (lastL d.1) d.2.1).2 q = 0 from k)
  refine ⟨⟨⟨h.1.1, ?_, h.1.2.2⟩, h.2.1, by show (wt (lastL d.1) (d.2.1 ++ [q])).1 = 0; rw [hw]⟩, by show (wt (lastL d.1) (d.2.1 ++ [q])).2 = _; rw [hw]; rfl⟩
  show (d.2.1 ++ [q]).length ≤ 16
  rw [List.length_append, List.length_singleton]; omega
theorem ck_seal {d : Dz} (h : ckP d) (f : ¬ 64 ≤ d.1.length) : ckP (d.1 ++ [nowL d], [], d.2.2) ∧ nowL (d.1 ++ [nowL d], [], d.2.2) = nowL d := by
  have hh := h.1
  unfold headP at hh
  refine ⟨⟨⟨?_, Nat.zero_le _, hh.2.2.1, ?_⟩, ?_, rfl⟩, by rw [now_nil, lastL_snoc]⟩
  · show (d.1 ++ [nowL d]).length ≤ 64
    rw [List.length_append, List.length_singleton]; omega
  · show d.2.2.toNat ≤ max 1 (d.1 ++ [nowL d]).length
    rw [List.length_append, List.length_singleton]; omega
  · intro l hl
    rcases List.mem_append.1 hl with hl | hl
    · exact h.2.1 l hl
    · obtain rfl := List.mem_singleton.1 hl; exact now_r h
theorem ck_prune {d : Dz} {to : UInt64} (h : ckP d) (f : ¬ (to.toNat < 1 ∨ d.1.length < to.toNat)) : ckP (d.1, d.2.1, if d.2.2.toNat < to.toNat then to else d.2.2) := by
  have hh := h.1
  unfold headP at hh
  refine ⟨⟨hh.1, hh.2.1, ?_, ?_⟩, h.2.1, h.2.2⟩
  · show 1 ≤ (if d.2.2.toNat < to.toNat then to else d.2.2).toNat
    split <;> omega
  · show (if d.2.2.toNat < to.toNat then to else d.2.2).toNat ≤ max 1 d.1.length
    split <;> omega
/-- what an act can make: nothing; one request more that waits; one epoch more; a greater From -/
theorem next_cases {d : Dz} {o : OpP} (h : ckP d) : nextD d o = d ∨ (o.1 = 0 ∧ dnE (nowL d) o.2.1 = 0 ∧ ¬ 16 ≤ d.2.1.length ∧ nextD d o = (d.1, d.2.1 ++ [o.2.1], d.2.2)) ∨ (o.1 = 1 ∧ ¬ 64 ≤ d.1.length ∧ nextD d o = (d.1 ++ [nowL d], [], d.2.2)) ∨
    (o.1 = 4 ∧ ¬ (o.2.2.2.2.toNat < 1 ∨ d.1.length < o.2.2.2.2.toNat) ∧ nextD d o = (d.1, d.2.1, if d.2.2.toNat < o.2.2.2.2.toNat then o.2.2.2.2 else d.2.2)) := by
  unfold nextD
  by_cases h0 : o.1 = 0
  · rw [act0 h0]
    by_cases k : dnE (nowL d) o.2.1 = 0
    · by_cases f : 16 ≤ d.2.1.length
      · rw [submit_full h k f]; exact .inl (if_pos (by decide))
      · rw [submit_ok h k f]; exact .inr (.inl ⟨h0, k, f, if_neg (fun x => x rfl)⟩)
    · rw [submit_dn h k]; exact .inl (if_pos k)
  by_cases h1 : o.1 = 1
  · rw [act1 h1]
    by_cases f : 64 ≤ d.1.length
    · rw [seal_full h f]; exact .inl (if_pos (by decide))
    · rw [seal_ok h f]; exact .inr (.inr (.inl ⟨h1, f, if_neg (fun x => x rfl)⟩))
  by_cases h4 : o.1 = 4
  · rw [act4 h4]
    by_cases f : o.2.2.2.2.toNat < 1 ∨ d.1.length < o.2.2.2.2.toNat
    · rw [prune_no h f]; exact .inl (if_pos (by decide))
    · rw [prune_ok h f]; exact .inr (.inr (.inr ⟨h4, f, if_neg (fun x => x rfl)⟩))
  · rw [actN h0 h1 h4]; exact .inl (if_neg (fun x => x rfl))
theorem ck_next {d : Dz} {o : OpP} (h : ckP d) : ckP (nextD d o) := by
  rcases next_cases (o := o) h with e | ⟨_, k, f, e⟩ | ⟨_, f, e⟩ | ⟨_, f, e⟩
  · rw [e]; exact h
  · rw [e]; exact (ck_submit h k f).1
  · rw [e]; exact (ck_seal h f).1
  · rw [e]; exact ck_prune h f
theorem ck_new : ckP dNew := by decide +kernel
theorem run_ind {P : Dz → Prop} (h0 : P dNew) (hs : ∀ d o, ckP d → P d → P (nextD d o)) : ∀ (os : List OpP) , ckP (runD os) ∧ P (runD os) := by
  intro os
  unfold runD
  suffices ∀ (os : List OpP) (d : Dz), ckP d → P d → ckP (os.foldl nextD d) ∧ P (os.foldl nextD d) from this os dNew ck_new h0
  intro os
  induction os with
  | nil => intro d h1 h2; exact ⟨h1, h2⟩
  | cons o os ih => intro d h1 h2; exact ih _ (ck_next h1) (hs d o h1 h2)
theorem ck_run (os : List OpP) : ckP (runD os) := (run_ind (P := fun _ => True) trivial (fun _ _ _ _ => trivial) os).1
/-! 20.8: what was sealed stays -/
def Ext (a b : Dz) : Prop := a.1 <+: b.1 ∧ a.2.2.toNat ≤ b.2.2.toNat
theorem Ext.refl (a : Dz) : Ext a a := ⟨List.prefix_refl _, Nat.le_refl _⟩
theorem Ext.next {a b : Dz} {o : OpP} (h : Ext a b) (hb : ckP b) : Ext a (nextD b o) := by
  rcases next_cases (o := o) hb with e | ⟨_, k, f, e⟩ | ⟨_, f, e⟩ | ⟨_, f, e⟩
  · rw [e]; exact h
  · rw [e]; exact h
  · rw [e]; exact ⟨h.1.trans (List.prefix_append _ _), h.2⟩
  · rw [e]; refine ⟨h.1, ?_⟩
    show a.2.2.toNat ≤ (if b.2.2.toNat < o.2.2.2.2.toNat then o.2.2.2.2 else b.2.2).toNat
    have := h.2
    split <;> omega
/-! 20.8: no name goes, no number falls -/
def nle (l m : List Bd) : Prop := ∀ x ∈ l, ∃ y, fnd m x.1 = some y ∧ x.2.2.toNat ≤ y.2.2.toNat ∧ (y.2.2 = x.2.2 → y.2.1 = x.2.1)
theorem fnd_some {l : List Bd} {s : ByteArray} {y : Bd} (h : fnd l s = some y) : y ∈ l ∧ y.1 = s := by
  unfold fnd at h
  exact ⟨List.mem_of_find?_eq_some h, by simpa using List.find?_some h⟩
theorem fnd_mem {l : List Bd} (hs : sortP l) {x : Bd} (hx : x ∈ l) : fnd l x.1 = some x := by
  unfold fnd
  cases h : l.find? (fun b => decide (b.1 = x.1)) with
  | none => exact absurd (List.find?_eq_none.1 h x hx) (by simp)
  | some y =>
    have hy := List.mem_of_find?_eq_some h
    have he : y.1 = x.1 := by simpa using List.find?_some h
    obtain ⟨i, hi, rfl⟩ := List.mem_iff_getElem.1 hx
    obtain ⟨j, hj, rfl⟩ := List.mem_iff_getElem.1 hy
    have hp := List.pairwise_iff_getElem.1 hs
    rcases Nat.lt_trichotomy i j with hl | hl | hl
    · exact absurd (he ▸ hp i j hi hj hl) (nlt_irrefl _)
    · subst hl; rfl
    · exact absurd (he ▸ hp j i hj hi hl) (nlt_irrefl _)
theorem nle_refl {l : List Bd} (hs : sortP l) : nle l l := fun x hx => ⟨x, fnd_mem hs hx, Nat.le_refl _, fun _ => rfl⟩
theorem nle_trans {l m k : List Bd} (h : nle l m) (g : nle m k) : nle l k := fun x hx => by
  obtain ⟨y, hy, h1, h2⟩ := h x hx
  obtain ⟨ym, ye⟩ := fnd_some hy
  obtain ⟨z, hz, g1, g2⟩ := g y ym
  rw [ye] at hz
  refine ⟨z, hz, Nat.le_trans h1 g1, fun e => ?_⟩
  have e1 : y.2.2 = x.2.2 := UInt64.toNat_inj.1 (by rw [e] at g1; omega)
  rw [g2 (e.trans e1.symm), h2 e1]
theorem fnd_ins {l : List Bd} (hs : sortP l) (b : Bd) (s : ByteArray) : fnd (insB l b) s = if s = b.1 then some b else fnd l s := by
  have hs' := insB_sort (b := b) hs
  have hb : b ∈ insB l b := by unfold insB; simp
  by_cases h : s = b.1
  · rw [if_pos h, h]; exact fnd_mem hs' hb
  · rw [if_neg h]
    cases hf : fnd l s with
    | some x =>
      obtain ⟨hx, he⟩ := fnd_some hf
      have hx2 : x ∈ insB l b := by
        unfold insB
        simp only [List.mem_append, List.mem_cons, List.mem_filter, decide_eq_true_eq]
        by_cases h1 : nlt x.1 b.1
        · exact .inl ⟨hx, h1⟩
        · by_cases h2 : nlt b.1 x.1
          · exact .inr (.inr ⟨hx, h2⟩)
          · exact absurd (he ▸ nlt_total h1 h2) h
      rw [← he]; exact fnd_mem hs' hx2
    | none =>
      cases hg : fnd (insB l b) s with
      | none => rfl
      | some y =>
        obtain ⟨hy, he⟩ := fnd_some hg
        rcases insB_mem hy with hy | rfl
        · have := fnd_mem hs hy
          rw [he, hf] at this; cases this
        · exact absurd he.symm h
theorem dn_parts {l : List Bd} {q : Rq} (h0 : dnE l q = 0) : nxe (fnd l q.2.1) q = 0 ∧ dnL l q = insB l (nxb (fnd l q.2.1) q) := by
  refine ⟨?_, by unfold dnL; rw [if_pos h0]⟩
  unfold dnE at h0
  by_cases hn : nxe (fnd l q.2.1) q ≠ 0
  · rw [if_pos hn] at h0; exact absurd h0 hn
  · exact Decidable.byContradiction hn
theorem nle_dn {l : List Bd} {q : Rq} (hr : rightL l) (h0 : dnE l q = 0) : nle l (dnL l q) := fun x hx => by
  obtain ⟨hn, he⟩ := dn_parts h0
  rw [he, fnd_ins hr.2.1, show (nxb (fnd l q.2.1) q).1 = q.2.1 from rfl]
  by_cases hq : x.1 = q.2.1
  · rw [if_pos hq]
    have hf := fnd_mem hr.2.1 hx
    rw [hq] at hf
    have hz : nxt (fnd l q.2.1).isSome ((fnd l q.2.1).getD bd0).1 ((fnd l q.2.1).getD bd0).2.1 ((fnd l q.2.1).getD bd0).2.2 q.1 q.2.1 q.2.2.1 q.2.2.2 = 0 := hn
    rw [hf] at hz
    obtain ⟨_, h2, _⟩ := nxt_ok hz
    obtain ⟨k2, _, k3, _⟩ := h2 rfl
    have k3 : x.2.2 ≠ 18446744073709551615 := k3
    have hlt : x.2.2.toNat < 18446744073709551615 := by
      have h1 := x.2.2.toNat_lt
      rcases Nat.lt_or_ge x.2.2.toNat 18446744073709551615 with h | h
      · exact h
      · exact absurd (UInt64.toNat_inj.1 (show x.2.2.toNat = (18446744073709551615 : UInt64).toNat by rw [show (18446744073709551615 : UInt64).toNat = 18446744073709551615 from rfl]; omega)) k3
    refine ⟨_, rfl, ?_, fun e => ?_⟩
    · rw [hf]
      show x.2.2.toNat ≤ (nser q.1 x.2.2).toNat
      unfold nser; rw [if_neg (by rw [k2]; decide), add1 hlt]; omega
    · rw [hf] at e
      have e : nser q.1 x.2.2 = x.2.2 := e
      unfold nser at e; rw [if_neg (by rw [k2]; decide)] at e
      have := congrArg UInt64.toNat e
      rw [add1 hlt] at this; omega
  · rw [if_neg hq]; exact ⟨x, fnd_mem hr.2.1 hx, Nat.le_refl _, fun _ => rfl⟩
theorem nle_wt : ∀ {qs : List Rq} {l : List Bd}, rightL l → (wt l qs).1 = 0 → nle l (wt l qs).2
  | [], l, h, _ => nle_refl h.2.1
  | q :: qs, l, h, h0 => by
    by_cases hd : dnE l q = 0
    · rw [wt_cons hd] at h0 ⊢; exact nle_trans (nle_dn h hd) (nle_wt (dn_right h hd) h0)
    · rw [wt_err hd] at h0; exact absurd h0 hd
def Nms (d : Dz) : Prop := ∀ i (h : i + 1 < d.1.length), nle d.1[i] d.1[i + 1]
theorem Nms_next {d : Dz} {o : OpP} (h : ckP d) (hn : Nms d) : Nms (nextD d o) := by
  rcases next_cases (o := o) h with e | ⟨_, k, f, e⟩ | ⟨_, f, e⟩ | ⟨_, f, e⟩
  · rw [e]; exact hn
  · rw [e]; exact hn
  · rw [e]; intro i hi
    have hi : i + 1 < (d.1 ++ [nowL d]).length := hi
    rw [List.length_append, List.length_singleton] at hi
    show nle (d.1 ++ [nowL d])[i] (d.1 ++ [nowL d])[i + 1]
    rcases Nat.lt_or_ge (i + 1) d.1.length with h1 | h1
    · rw [List.getElem_append_left (by omega), List.getElem_append_left h1]; exact hn i h1
    · have e1 : i + 1 = d.1.length := by omega
      rw [List.getElem_append_left (by omega), List.getElem_append_right (by omega)]
      have hl : lastL d.1 = d.1[i] := by
        unfold lastL; rw [List.getLast?_eq_getElem?, List.getElem?_eq_getElem (by omega)]
        simp only [Option.getD_some]; congr 1; omega
      simp only [show i + 1 - d.1.length = 0 by omega, List.getElem_cons_zero]
      rw [← hl]; exact nle_wt (lastL_right h.2.1) h.2.2
  · rw [e]; exact hn
theorem Nms_run (os : List OpP) : Nms (runD os) := (run_ind (P := Nms) (fun i h => absurd h (by simp [dNew])) (fun d o h1 h2 => Nms_next h1 h2) os).2
end Go.Proofs.Ytkifeeiafachpaa
