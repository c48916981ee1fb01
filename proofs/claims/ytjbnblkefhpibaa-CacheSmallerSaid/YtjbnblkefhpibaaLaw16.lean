/- The cache's law, of lists alone. -/
import Derived.Test.YtjbnblkefhpibaaPlain
set_option linter.unusedVariables false
set_option linter.unusedSimpArgs false
namespace Bc
abbrev Ky (l : KV) : List ByteArray := l.map (·.1)
theorem wo_none (l : KV) (k : ByteArray) (h : hs l k = false) : wo l k = l := by
  unfold wo hs at *
  rw [List.any_eq_false] at h
  rw [List.filter_eq_self]
  intro p hp
  have := h p hp
  simpa using this
theorem hs_iff (l : KV) (k : ByteArray) : hs l k = true ↔ ix (Ky l) k < l.length := by
  induction l with
  | nil => simp [hs, ix]
  | cons x l ih =>
    by_cases e : x.1 = k
    · simp [hs, ix, e]
    · have e' : ¬ k = x.1 := fun h => e h.symm
      simp only [hs, List.any_cons, e, decide_false, Bool.false_or, Ky, List.map_cons, ix, e', if_false, List.length_cons] at *
      rw [show (List.any l fun p => decide (p.1 = k)) = true ↔ _ from ih]; omega
def vf (k : ByteArray) (a : Int) (l : KV) : Int := l.foldl (fun a p => if p.1 = k then p.2 else a) a
theorem vl_vf (l : KV) (k : ByteArray) : vl l k = vf k 0 l := rfl
theorem vf_no (k : ByteArray) : ∀ (l : KV) (a : Int), hs l k = false → vf k a l = a
  | [], a, _ => rfl
  | x :: l, a, h => by
    simp only [hs, List.any_cons, Bool.or_eq_false_iff, decide_eq_false_iff_not] at h
    show vf k (if x.1 = k then x.2 else a) l = a
    rw [if_neg h.1]; exact vf_no k l a h.2
theorem vf_yes (k : ByteArray) : ∀ (l : KV) (a b : Int), hs l k = true → vf k a l = vf k b l
  | [], a, b, h => by simp [hs] at h
  | x :: l, a, b, h => by
    show vf k (if x.1 = k then x.2 else a) l = vf k (if x.1 = k then x.2 else b) l
    by_cases e : x.1 = k
    · simp [e]
    · rw [if_neg e, if_neg e]
      simp only [hs, List.any_cons, e, decide_false, Bool.false_or] at h
      exact vf_yes k l a b h
theorem vf_app (k : ByteArray) (a : Int) (l r : KV) : vf k a (l ++ r) = vf k (vf k a l) r := by simp [vf]
theorem vl_app_yes (l r : KV) (k : ByteArray) (h : hs r k = true) : vl (l ++ r) k = vl r k := by rw [vl_vf, vf_app, vl_vf]; exact vf_yes _ _ _ _ h
theorem vl_app_no (l r : KV) (k : ByteArray) (h : hs r k = false) : vl (l ++ r) k = vl l k := by rw [vl_vf, vf_app, vl_vf]; exact vf_no _ _ _ h
theorem hs_app (l r : KV) (k : ByteArray) : hs (l ++ r) k = (hs l k || hs r k) := by simp [hs]
theorem hs_one (q k : ByteArray) (v : Int) : hs [(q, v)] k = decide (q = k) := by simp [hs]
theorem vl_one (k : ByteArray) (v : Int) : vl [(k, v)] k = v := by simp [vl]
theorem hs_wo_self (l : KV) (k : ByteArray) : hs (wo l k) k = false := by
  simp only [hs, wo, List.any_eq_false, List.mem_filter]
  intro p hp; simpa using hp.2
theorem hs_wo_ne (l : KV) (k q : ByteArray) (h : k ≠ q) : hs (wo l k) q = hs l q := by
  induction l with
  | nil => rfl
  | cons x l ih =>
    simp only [hs, wo, List.filter_cons, List.any_cons] at *
    by_cases e : x.1 = k
    · have : ¬ x.1 = q := fun h' => h (e.symm.trans h')
      simp [e, ih, h]
    · simp [e, ih]
theorem vf_wo_ne (k q : ByteArray) (h : k ≠ q) : ∀ (l : KV) (a : Int), vf q a (wo l k) = vf q a l
  | [], _ => rfl
  | x :: l, a => by
    unfold wo
    rw [List.filter_cons]
    by_cases e : x.1 = k
    · have : ¬ x.1 = q := fun h' => h (e.symm.trans h')
      rw [if_neg (by simp [e])]
      show vf q a (wo l k) = vf q (if x.1 = q then x.2 else a) l
      rw [if_neg this]; exact vf_wo_ne k q h l a
    · rw [if_pos (by simp [e])]
      show vf q (if x.1 = q then x.2 else a) (wo l k) = vf q (if x.1 = q then x.2 else a) l
      exact vf_wo_ne k q h l _
theorem vl_wo_ne (l : KV) (k q : ByteArray) (h : k ≠ q) : vl (wo l k) q = vl l q := vf_wo_ne k q h l 0
theorem hs_mem (l : KV) (k : ByteArray) : hs l k = true ↔ k ∈ Ky l := by simp [hs, Ky]
theorem hs_nmem (l : KV) (k : ByteArray) : hs l k = false ↔ k ∉ Ky l := by rw [← hs_mem]; simp
theorem er_ix (l : KV) (k : ByteArray) (hnd : (Ky l).Nodup) (h : ix (Ky l) k < l.length) : l.eraseIdx (ix (Ky l) k) = wo l k := by
  induction l with
  | nil => simp at h
  | cons x l ih =>
    have hnd' := List.nodup_cons.1 (show (x.1 :: Ky l).Nodup from hnd)
    by_cases e : k = x.1
    · subst e
      have h1 : hs l x.1 = false := (hs_nmem _ _).2 hnd'.1
      have h2 := wo_none l x.1 h1
      simp only [Ky, List.map_cons, ix, if_true, List.eraseIdx_cons_zero]
      unfold wo at *
      simp [List.filter_cons, h2]
    · have e' : ¬ x.1 = k := fun h => e h.symm
      simp only [Ky, List.map_cons, ix, e, if_false, List.length_cons] at h ⊢
      rw [List.eraseIdx_cons_succ]
      have := ih hnd'.2 (by simp only [Ky]; omega)
      unfold wo at *
      simp only [List.filter_cons, e', decide_false, Bool.not_false, if_true]
      rw [← this]
theorem vl_ix (l : KV) (k : ByteArray) (hnd : (Ky l).Nodup) (h : ix (Ky l) k < l.length) : l[ix (Ky l) k].2 = vl l k := by
  induction l with
  | nil => simp at h
  | cons x l ih =>
    have hnd' := List.nodup_cons.1 (show (x.1 :: Ky l).Nodup from hnd)
    by_cases e : k = x.1
    · subst e
      have h1 : hs l x.1 = false := (hs_nmem _ _).2 hnd'.1
      simp only [Ky, List.map_cons, ix, if_true, List.getElem_cons_zero]
      show _ = vf x.1 (if x.1 = x.1 then x.2 else 0) l
      rw [if_pos rfl, vf_no _ _ _ h1]
    · have e' : ¬ x.1 = k := fun h => e h.symm
      simp only [Ky, List.map_cons, ix, e, if_false, List.length_cons] at h ⊢
      rw [List.getElem_cons_succ]
      have := ih hnd'.2 (by simp only [Ky]; omega)
      rw [this]
      show vf k 0 l = vf k (if x.1 = k then x.2 else 0) l
      rw [if_neg e']
theorem Ky_wo (l : KV) (k : ByteArray) : Ky (wo l k) = (Ky l).filter (fun q => !decide (q = k)) := by
  simp [Ky, wo, List.filter_map, Function.comp_def]
theorem nd_wo {l : KV} (k : ByteArray) (h : (Ky l).Nodup) : (Ky (wo l k)).Nodup := by rw [Ky_wo]; exact h.filter _
theorem nd_wo_app {l : KV} (k : ByteArray) (v : Int) (h : (Ky l).Nodup) : (Ky (wo l k ++ [(k, v)])).Nodup := by
  have h1 : k ∉ Ky (wo l k) := (hs_nmem _ _).1 (hs_wo_self l k)
  simp only [Ky, List.map_append, List.map_cons, List.map_nil]
  rw [List.nodup_append]
  refine ⟨nd_wo k h, by simp, ?_⟩
  intro a ha b hb
  simp only [List.mem_singleton] at hb
  subst hb
  exact fun e => h1 (e ▸ ha)
theorem wo_len_yes (l : KV) (k : ByteArray) (hnd : (Ky l).Nodup) (h : hs l k = true) : (wo l k).length + 1 = l.length := by
  have h1 := (hs_iff l k).1 h
  rw [← er_ix l k hnd h1, List.length_eraseIdx_of_lt h1]; omega
/-- what asking leaves -/
def ge (l : KV) (k : ByteArray) : KV := if hs l k = true then wo l k ++ [(k, vl l k)] else l
theorem ge_hs (l : KV) (k q : ByteArray) : hs (ge l k) q = hs l q := by
  unfold ge
  split
  · rename_i h
    rw [hs_app, hs_one]
    by_cases e : k = q
    · subst e; simp [h]
    · simp [e, hs_wo_ne l k q e]
  · rfl
theorem ge_vl (l : KV) (k q : ByteArray) : vl (ge l k) q = vl l q := by
  unfold ge
  split
  · rename_i h
    by_cases e : k = q
    · subst e; rw [vl_app_yes _ _ _ (by simp [hs_one]), vl_one]
    · rw [vl_app_no _ _ _ (by simp [hs_one, e]), vl_wo_ne l k q e]
  · rfl
theorem ge_nd {l : KV} (k : ByteArray) (h : (Ky l).Nodup) : (Ky (ge l k)).Nodup := by
  unfold ge; split
  · exact nd_wo_app k _ h
  · exact h
theorem ge_len (l : KV) (k : ByteArray) (h : (Ky l).Nodup) : (ge l k).length = l.length := by
  unfold ge; split
  · rename_i hh; rw [List.length_append, ← wo_len_yes l k h hh]; rfl
  · rfl
/-- what putting leaves -/
def pu (m : Int) (l : KV) (k : ByteArray) (v : Int) : KV := if m < (wo l k ++ [(k, v)]).length then (wo l k ++ [(k, v)]).drop 1 else wo l k ++ [(k, v)]
theorem pu_nd {l : KV} (m : Int) (k : ByteArray) (v : Int) (h : (Ky l).Nodup) : (Ky (pu m l k v)).Nodup := by
  unfold pu; split
  · have := nd_wo_app k v h
    simp only [Ky, List.map_drop] at *
    exact this.sublist (List.drop_sublist _ _)
  · exact nd_wo_app k v h
theorem pu_len (m : Int) (l : KV) (k : ByteArray) (v : Int) (h0 : 0 ≤ m) (h : (l.length : Int) ≤ m) : ((pu m l k v).length : Int) ≤ m ∧ (pu m l k v).length ≤ l.length + 1 := by
  have := wo_len l k
  unfold pu; split
  · rename_i hh; simp at hh ⊢; omega
  · rename_i hh; simp at hh ⊢; omega
abbrev Z := KV × Int × Int
abbrev Op := Int × ByteArray × Int
def act (m : Int) (z : Z) (o : Op) : Z :=
  if o.1 = 0 then (ge z.1 o.2.1, if hs z.1 o.2.1 = true then z.2.1 + 1 else z.2.1, if hs z.1 o.2.1 = true then z.2.2 else z.2.2 + 1)
  else if o.1 = 1 then (pu m z.1 o.2.1 o.2.2, z.2.1, z.2.2)
  else if o.1 = 2 then (wo z.1 o.2.1, z.2.1, z.2.2) else z
def run (m : Int) (os : List Op) : Z := os.foldl (act m) ([], 0, 0)
theorem run_take (m : Int) (os : List Op) (j : Nat) (h : j < os.length) : run m (os.take (j + 1)) = act m (run m (os.take j)) os[j] := by
  unfold run; rw [take_succ os j h, List.foldl_append]; rfl
structure Inv (m : Int) (j : Nat) (z : Z) : Prop where
  nd : (Ky z.1).Nodup
  le : (z.1.length : Int) ≤ m
  len : z.1.length ≤ j
  h0 : 0 ≤ z.2.1
  h1 : z.2.1 ≤ j
  s0 : 0 ≤ z.2.2
  s1 : z.2.2 ≤ j
theorem Inv.zero {m : Int} (h : 0 ≤ m) : Inv m 0 ([], 0, 0) := ⟨by simp [Ky], by simpa using h, by simp, by simp, by simp, by simp, by simp⟩
theorem Inv.act {m : Int} {j : Nat} {z : Z} (hm : 0 ≤ m) (h : Inv m j z) (o : Op) : Inv m (j + 1) (act m z o) := by
  obtain ⟨h1, h2, h3, h4, h5, h6, h7⟩ := h
  unfold Bc.act
  split
  · refine ⟨ge_nd _ h1, ?_, ?_, ?_, ?_, ?_, ?_⟩ <;> simp only [ge_len _ _ h1] <;> (try split) <;> omega
  · split
    · have := pu_len m z.1 o.2.1 o.2.2 hm h2
      refine ⟨pu_nd _ _ _ h1, this.1, ?_, ?_, ?_, ?_, ?_⟩ <;> simp only <;> omega
    · split
      · have := wo_len z.1 o.2.1
        refine ⟨nd_wo _ h1, ?_, ?_, ?_, ?_, ?_, ?_⟩ <;> simp only <;> omega
      · exact ⟨h1, h2, by omega, h4, by omega, h6, by omega⟩
theorem Inv.run {m : Int} (hm : 0 ≤ m) (os : List Op) : ∀ j, j ≤ os.length → Inv m j (run m (os.take j))
  | 0, _ => by simpa [Bc.run] using Inv.zero hm
  | j + 1, h => by rw [run_take m os j (by omega)]; exact (Inv.run hm os j (by omega)).act hm _
/-- what was put last -/
def las (k : ByteArray) (g : Int × Bool) (o : Op) : Int × Bool :=
  if o.2.1 = k ∧ o.1 = 1 then (o.2.2, true) else if o.2.1 = k ∧ o.1 = 2 then (g.1, false) else g
def lasts (k : ByteArray) (os : List Op) : Int × Bool := os.foldl (las k) (0, false)
theorem lasts_take (k : ByteArray) (os : List Op) (j : Nat) (h : j < os.length) : lasts k (os.take (j + 1)) = las k (lasts k (os.take j)) os[j] := by
  unfold lasts; rw [take_succ os j h, List.foldl_append]; rfl
theorem hs_drop1 (l : KV) (k : ByteArray) (h : hs (l.drop 1) k = true) : hs l k = true ∧ vl (l.drop 1) k = vl l k := by
  cases l with
  | nil => simp [hs] at h
  | cons x l =>
    simp only [List.drop_succ_cons, List.drop_zero] at h ⊢
    refine ⟨by simp only [hs, List.any_cons] at *; rw [h, Bool.or_true], ?_⟩
    exact (vl_app_yes [x] l k h).symm
theorem las_act (m : Int) (k : ByteArray) (z : Z) (g : Int × Bool) (o : Op) (H : hs z.1 k = true → g.2 = true ∧ vl z.1 k = g.1) :
    hs (act m z o).1 k = true → (las k g o).2 = true ∧ vl (act m z o).1 k = (las k g o).1 := by
  obtain ⟨kd, q, v⟩ := o
  unfold act las
  by_cases e0 : kd = 0
  · subst e0
    simp only [if_true, ge_hs, ge_vl]
    simpa using H
  · by_cases e1 : kd = 1
    · subst e1
      simp only [e0, if_false, if_true, and_true]
      have key : hs (wo z.1 q ++ [(q, v)]) k = true → (if q = k then (v, true) else if q = k ∧ (1 : Int) = 2 then (g.1, false) else g).2 = true ∧ vl (wo z.1 q ++ [(q, v)]) k = (if q = k then (v, true) else if q = k ∧ (1 : Int) = 2 then (g.1, false) else g).1 := by
        intro h
        by_cases e : q = k
        · subst e
          simp only [if_true, true_and]
          rw [vl_app_yes _ _ _ (by simp [hs_one]), vl_one]
        · simp only [e, if_false, false_and]
          rw [hs_app, hs_one, hs_wo_ne _ _ _ e] at h
          rw [vl_app_no _ _ _ (by simp [hs_one, e]), vl_wo_ne _ _ _ e]
          exact H (by simpa [e] using h)
      unfold pu
      split
      · intro h
        have h2 := hs_drop1 _ _ h
        rw [h2.2]; exact key h2.1
      · exact key
    · by_cases e2 : kd = 2
      · subst e2
        simp only [e0, e1, if_false, if_true, and_true, and_false]
        intro h
        by_cases e : q = k
        · subst e; rw [hs_wo_self] at h; cases h
        · simp only [e, if_false]
          rw [hs_wo_ne _ _ _ e] at h
          rw [vl_wo_ne _ _ _ e]
          exact H h
      · simp only [e0, e1, e2, if_false, and_false]
        exact H
theorem las_run (m : Int) (k : ByteArray) (os : List Op) : ∀ j, j ≤ os.length → hs (run m (os.take j)).1 k = true → (lasts k (os.take j)).2 = true ∧ vl (run m (os.take j)).1 k = (lasts k (os.take j)).1
  | 0, _ => by simp [run, hs]
  | j + 1, h => by
    rw [run_take m os j (by omega), lasts_take k os j (by omega)]
    exact las_act m k _ _ _ (las_run m k os j (by omega))
/-! ### two caches -/
structure Two (m n : Int) (a b : KV) : Prop where
  sub : a.Sublist b
  free : m - a.length ≤ n - b.length
theorem wo_sub {a b : KV} (k : ByteArray) (h : a.Sublist b) : (wo a k).Sublist (wo b k) := h.filter _
theorem hs_sub {a b : KV} (k : ByteArray) (h : a.Sublist b) (hh : hs a k = true) : hs b k = true := by
  rw [hs_mem] at *; exact (h.map (·.1)).mem hh
theorem vl_sub {a b : KV} (k : ByteArray) (h : a.Sublist b) (hnd : (Ky b).Nodup) (hh : hs a k = true) : vl a k = vl b k := by
  induction h with
  | slnil => rfl
  | @cons a b x h ih =>
    have hnd' := List.nodup_cons.1 (show (x.1 :: Ky b).Nodup from hnd)
    rw [ih hnd'.2 hh]
    have hb := hs_sub k h hh
    exact (vl_app_yes [x] b k hb).symm
  | @cons_cons a b x h ih =>
    have hnd' := List.nodup_cons.1 (show (x.1 :: Ky b).Nodup from hnd)
    by_cases hl : hs a k = true
    · have hb := hs_sub k h hl
      rw [show vl (x :: a) k = vl a k from vl_app_yes [x] a k hl, show vl (x :: b) k = vl b k from vl_app_yes [x] b k hb]
      exact ih hnd'.2 hl
    · have hl' : hs a k = false := by simpa using hl
      have e : x.1 = k := by simp only [hs, List.any_cons] at hh hl'; rw [hl'] at hh; simpa using hh
      have hb : hs b k = false := (hs_nmem _ _).2 (e ▸ hnd'.1)
      rw [show vl (x :: a) k = vl [x] k from vl_app_no [x] a k hl', show vl (x :: b) k = vl [x] k from vl_app_no [x] b k hb]
theorem wo_free {m n : Int} {a b : KV} (k : ByteArray) (ha : (Ky a).Nodup) (hb : (Ky b).Nodup) (h : Two m n a b) : Two m n (wo a k) (wo b k) ∧ (hs b k = false → (wo b k).length = b.length) := by
  refine ⟨⟨wo_sub k h.sub, ?_⟩, fun e => by rw [wo_none b k e]⟩
  have hf := h.free
  by_cases e : hs b k = true
  · have := wo_len_yes b k hb e
    by_cases e2 : hs a k = true
    · have := wo_len_yes a k ha e2; omega
    · rw [wo_none a k (by simpa using e2)]; omega
  · have e' : hs b k = false := by simpa using e
    have e2 : hs a k = false := by
      cases h2 : hs a k with
      | false => rfl
      | true => rw [hs_sub k h.sub h2] at e'; cases e'
    rw [wo_none a k e2, wo_none b k e']; exact hf
theorem two_act {m n : Int} {i j : Nat} {a b : Z} (hmn : m ≤ n) (hm : 0 ≤ m) (ha : Inv m i a) (hb : Inv n j b) (h : Two m n a.1 b.1) (o : Op) : Two m n (act m a o).1 (act n b o).1 := by
  obtain ⟨kd, k, v⟩ := o
  have hw := (wo_free k ha.nd hb.nd h).1
  unfold act
  by_cases e0 : kd = 0
  · simp only [e0, if_true]
    unfold ge
    by_cases ea : hs a.1 k = true
    · have eb := hs_sub k h.sub ea
      rw [if_pos ea, if_pos eb, vl_sub k h.sub hb.nd ea]
      exact ⟨hw.sub.append (List.Sublist.refl _), by have := hw.free; simp; omega⟩
    · rw [if_neg ea]
      by_cases eb : hs b.1 k = true
      · rw [if_pos eb]
        have e1 : wo a.1 k = a.1 := wo_none _ _ (by simpa using ea)
        have h1 := hw.sub
        rw [e1] at h1
        have hl := wo_len_yes b.1 k hb.nd eb
        exact ⟨h1.trans (List.sublist_append_left _ _), by have := h.free; rw [List.length_append]; simp only [List.length_cons, List.length_nil]; omega⟩
      · rw [if_neg eb]; exact h
  · by_cases e1 : kd = 1
    · simp only [e1, if_false, if_true, show ¬ (1 : Int) = 0 by omega]
      have hs' : (wo a.1 k ++ [(k, v)]).Sublist (wo b.1 k ++ [(k, v)]) := hw.sub.append (List.Sublist.refl _)
      have hf := hw.free
      have la := wo_len a.1 k
      have lb := wo_len b.1 k
      have h2 := ha.le
      have h3 := hb.le
      unfold pu
      by_cases ca : m < (wo a.1 k ++ [(k, v)]).length
      · rw [if_pos ca]
        by_cases cb : n < (wo b.1 k ++ [(k, v)]).length
        · rw [if_pos cb]
          simp only [List.length_append, List.length_cons, List.length_nil] at ca cb
          refine ⟨hs'.drop 1, ?_⟩
          simp only [List.length_drop, List.length_append, List.length_cons, List.length_nil]; omega
        · rw [if_neg cb]
          simp only [List.length_append, List.length_cons, List.length_nil] at ca cb
          refine ⟨(List.drop_sublist _ _).trans hs', ?_⟩
          simp only [List.length_drop, List.length_append, List.length_cons, List.length_nil]; omega
      · rw [if_neg ca, if_neg (by simp only [List.length_append, List.length_cons, List.length_nil] at ca ⊢; omega)]
        exact ⟨hs', by simp only [List.length_append, List.length_cons, List.length_nil]; omega⟩
    · by_cases e2 : kd = 2
      · simp only [e2, if_false, if_true, show ¬ (2 : Int) = 0 by omega, show ¬ (2 : Int) = 1 by omega]; exact hw
      · simp only [e0, e1, e2, if_false]; exact h
theorem two_run {m n : Int} (hm : 0 ≤ m) (hmn : m ≤ n) (os : List Op) : ∀ j, j ≤ os.length → Two m n (run m (os.take j)).1 (run n (os.take j)).1
  | 0, _ => ⟨by simp [run], by simp [run]; omega⟩
  | j + 1, h => by
    rw [run_take m os j (by omega), run_take n os j (by omega)]
    exact two_act hmn hm (Inv.run hm os j (by omega)) (Inv.run (by omega) os j (by omega)) (two_run hm hmn os j (by omega)) _
/-- asked for each of some keys, one behind the other -/
def asks (l : KV) (ks : List ByteArray) : KV := ks.foldl ge l
theorem asks_take (l : KV) (ks : List ByteArray) (j : Nat) (h : j < ks.length) : asks l (ks.take (j + 1)) = ge (asks l (ks.take j)) ks[j] := by
  unfold asks; rw [take_succ ks j h, List.foldl_append]; rfl
theorem asks_hs (ks : List ByteArray) : ∀ (l : KV) (q : ByteArray), hs (asks l ks) q = hs l q ∧ vl (asks l ks) q = vl l q := by
  induction ks with
  | nil => intro l q; exact ⟨rfl, rfl⟩
  | cons k ks ih => intro l q; have := ih (ge l k) q; exact ⟨this.1.trans (ge_hs _ _ _), this.2.trans (ge_vl _ _ _)⟩
theorem asks_nd (ks : List ByteArray) : ∀ {l : KV}, (Ky l).Nodup → (Ky (asks l ks)).Nodup ∧ (asks l ks).length = l.length := by
  induction ks with
  | nil => intro l h; exact ⟨h, rfl⟩
  | cons k ks ih => intro l h; have := ih (ge_nd k h); exact ⟨this.1, this.2.trans (ge_len _ _ h)⟩
end Bc
namespace Bc
/-- of the first keys those that are not this one -/
def fl (ks : List ByteArray) (k : ByteArray) (i : Nat) : List ByteArray := (ks.take i).filter fun q => !decide (q = k)
theorem fl_ne (ks : List ByteArray) (k : ByteArray) (i : Nat) (h : i < ks.length) (e : ¬ ks[i] = k) : fl ks k (i + 1) = fl ks k i ++ [ks[i]] := by
  unfold fl; rw [take_succ ks i h, List.filter_append]; simp [e]
theorem fl_eq (ks : List ByteArray) (k : ByteArray) (i : Nat) (h : i < ks.length) (e : ks[i] = k) : fl ks k (i + 1) = fl ks k i := by
  unfold fl; rw [take_succ ks i h, List.filter_append]; simp [e]
theorem fl_all (l : KV) (k : ByteArray) (n : Nat) (h : n = l.length) : fl (Ky l) k n = Ky (wo l k) := by
  subst h; unfold fl; rw [Ky_wo, List.take_of_length_le (by simp [Ky])]
theorem fl_len (ks : List ByteArray) (k : ByteArray) (i : Nat) : (fl ks k i).length ≤ ks.length := by
  unfold fl; exact Nat.le_trans (List.length_filter_le _ _) (by rw [List.length_take]; omega)
theorem wo_idem (l : KV) (k : ByteArray) : wo (wo l k) k = wo l k := wo_none _ _ (hs_wo_self l k)
theorem wo_app (l r : KV) (k : ByteArray) : wo (l ++ r) k = wo l k ++ wo r k := by unfold wo; rw [List.filter_append]
theorem wo_ge (l : KV) (k : ByteArray) : wo (ge l k) k = wo l k := by
  unfold ge; split
  · rw [wo_app, wo_idem]; simp [wo]
  · rfl
theorem hs_len (l : KV) (k : ByteArray) (h : (Ky l).Nodup) : hs l k = decide (((Ky (wo l k)).length : Int) < (l.length : Int)) := by
  have e : (Ky (wo l k)).length = (wo l k).length := by simp [Ky]
  rw [e]
  cases hh : hs l k with
  | true => have := wo_len_yes l k h hh; exact (decide_eq_true (by omega)).symm
  | false => rw [wo_none l k hh]; simp
theorem ge_last (l : KV) (k : ByteArray) (h : hs l k = true) : ((ge l k).map fun q => q.1)[(ge l k).length - 1]? = some k := by
  unfold ge; rw [if_pos h]; simp
end Bc
namespace Bc
theorem asks_step (l m : KV) (i : Nat) (h : i < l.length) : asks m ((Ky l).take (i + 1)) = ge (asks m ((Ky l).take i)) l[i].1 := by
  rw [asks_take m (Ky l) i (by simpa [Ky] using h)]; simp [Ky]
theorem hs_get (l : KV) (i : Nat) (h : i < l.length) : hs l l[i].1 = true := (hs_mem _ _).2 (List.mem_map_of_mem (List.getElem_mem h))
end Bc
