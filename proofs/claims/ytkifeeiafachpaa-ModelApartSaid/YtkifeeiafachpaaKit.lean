/- A calculus for the walks: frames as association lists, memory as a list of separate pieces. Nothing of the program stands here. -/
import Derived.WalkKit
import Derived.WalkSpells
import Derived.WalkLawsBesides
import Derived.Deep.AppendLies
import Derived.OrdersHeld
import Derived.KernelRfl
set_option linter.unusedVariables false
set_option linter.unusedSimpArgs false
namespace Go.Bz
open Go Go.RowKit

/-! ### Frames -/
def lk : List (Nat × Value) → Nat → Option Value
  | [], _ => none
  | (k, v) :: L, t => bif Nat.beq k t then some v else lk L t

structure Fr (n : Nat) (L : List (Nat × Value)) (a : Act) : Prop where
  size : a.tmps.size = n
  defers : a.defers = []
  at_ : ∀ t v, lk L t = some v → a.tmps.getD t undef = v

def ev (L : List (Nat × Value)) : Operand → Option Value
  | .tmp t => lk L t
  | .const v => some v
  | .global g => some (.pointer (some ⟨g, 0, none⟩))
  | .func f => some (.func (.func f) #[] #[])

variable {n : Nat} {L L' : List (Nat × Value)} {a : Act} {P : Program}

theorem Fr.ev (h : Fr n L a) {x : Operand} {v : Value} (e : ev L x = some v) : a.eval x = v := by
  cases x with
  | tmp t => exact h.at_ t v e
  | const u => simpa [Bz.ev, Act.eval] using e
  | global g => simpa [Bz.ev, Act.eval] using e
  | func f => simpa [Bz.ev, Act.eval] using e

theorem Fr.put (h : Fr n L a) {d : Nat} (hd : d < n) (v : Value) : Fr n ((d, v) :: L) (a.put (some d) v) := by
  refine ⟨by simp [Act.put, h.size], by simp [Act.put, h.defers], fun t u hu => ?_⟩
  unfold lk at hu
  cases hb : Nat.beq d t with
  | true =>
    rw [hb] at hu
    obtain rfl := Nat.eq_of_beq_eq_true hb
    simp only [cond_true, Option.some.injEq] at hu
    subst hu
    simp [Act.put, h.size, hd]
  | false =>
    rw [hb] at hu
    have hne : d ≠ t := fun e => by subst e; simp at hb
    have := h.at_ t u (by simpa using hu)
    simpa [Act.put, Array.getElem?_setIfInBounds_ne hne] using this

theorem Fr.putNone (h : Fr n L a) (v : Value) : Fr n L (a.put none v) := h

theorem Fr.nil (h : Fr n L a) : Fr n [] a := ⟨h.size, h.defers, fun t v e => by simp [lk] at e⟩
theorem Fr.cons (h : Fr n L a) {t : Nat} {v : Value} (e : lk L t = some v) (k : Fr n L' a) : Fr n ((t, v) :: L') a := by
  refine ⟨h.size, h.defers, fun s u hu => ?_⟩
  unfold lk at hu
  cases hb : Nat.beq t s with
  | true =>
    rw [hb] at hu
    obtain rfl := Nat.eq_of_beq_eq_true hb
    simp only [cond_true, Option.some.injEq] at hu
    subst hu
    exact h.at_ _ _ e
  | false => rw [hb] at hu; exact k.at_ s u (by simpa using hu)

/-- A frame that says what another says. -/
def Sub (L L' : List (Nat × Value)) : Prop := ∀ n a, Fr n L a → Fr n L' a
theorem Sub.nil : Sub L [] := fun _ _ h => h.nil
theorem Sub.cons {t : Nat} {v : Value} (e : lk L t = some v) (k : Sub L L') : Sub L ((t, v) :: L') := fun n a h => h.cons e (k n a h)
theorem Sub.refl : Sub L L := fun _ _ h => h

/-! ### The beginning of a call -/
theorem frame0 {args : List Value} {n : Nat} (hn : args.length ≤ n) :
    Fr n (args.zipIdx.map fun (v, i) => (i, v)) { tmps := args.toArray ++ Array.replicate (n - args.toArray.size) undef, defers := [] } := by
  refine ⟨by simp; omega, rfl, ?_⟩
  have key : ∀ (l : List Value) (k t : Nat) (v : Value), lk ((l.zipIdx k).map fun (v, i) => (i, v)) t = some v → k ≤ t ∧ l[t - k]? = some v := by
    intro l
    induction l with
    | nil => intro k t v h; simp [lk] at h
    | cons x l ih =>
      intro k t v h
      simp only [List.zipIdx_cons, List.map_cons] at h
      unfold lk at h
      cases hb : Nat.beq k t with
      | true =>
        rw [hb] at h
        obtain rfl := Nat.eq_of_beq_eq_true hb
        simpa using h
      | false =>
        rw [hb] at h
        have hne : k ≠ t := fun e => by subst e; simp at hb
        obtain ⟨h1, h2⟩ := ih (k + 1) t v (by simpa using h)
        refine ⟨by omega, ?_⟩
        have : t - k = (t - (k + 1)) + 1 := by omega
        rw [this]
        simpa using h2
  intro t v h
  obtain ⟨_, h2⟩ := key args 0 t v h
  simp only [Nat.sub_zero] at h2
  have hlt : t < args.length := (List.getElem?_eq_some_iff.1 h2).1
  simp [Array.getD_eq_getD_getElem?, Array.getElem?_append, hlt]
  rw [List.getElem?_eq_getElem hlt] at h2
  exact Option.some.inj h2

theorem calls_intro {f : FuncId} {fn : Func} {c : Code} {args : List Value} {w : World} {R : Ending → World → Prop} (hf : P.funcs[f]? = some fn) (hb : fn.body = some c)
    (hn : args.length ≤ fn.ntmps)
    (h : ∀ a, Fr fn.ntmps (args.zipIdx.map fun (v, i) => (i, v)) a → c.wp P (bodyPost P fn R) a w) : Calls P f args.toArray w R :=
  calls_of_wp hf hb (h _ (frame0 hn))

/-! ### Memory: separate pieces -/
theorem ownsRow_loc {w w' : World} {base E sz n : Nat} {v : Value} {xs : List Value} (h : w.ownsRow base E sz v n xs) (k : ∀ b, v.ownBlock = some b → w'.heap[b]? = w.heap[b]?) : w'.ownsRow base E sz v n xs := by
  refine ⟨h.1, ?_⟩
  rcases h.2 with hn | ⟨g, cap, cur, rfl, hb, hg, rest⟩
  · exact .inl hn
  · exact .inr ⟨g, cap, cur, rfl, hb, by rw [k g rfl]; exact hg, rest⟩

/-- A piece of memory: a block of cells that this call may write; a slice that it owns, with all that lies in its array; whatever else hangs on some blocks alone. -/
inductive Pc where
  | cl (b : Nat) (cs : List Value) (E : TypeId)
  | row (Ad : Option Addr) (c : Nat) (E sz n : Nat) (xs : List Value)
  | gen (A : (Nat → Prop) → World → Prop) (loc : ∀ {S : Nat → Prop} {w w' : World}, A S w → (∀ b, S b → w'.heap[b]? = w.heap[b]?) → A S w')

/-- What a piece says, and of which blocks. -/
def Pc.A : Pc → (Nat → Prop) → World → Prop
  | .cl b cs E, S, w => (∀ x, S x ↔ x = b) ∧ w.heap[b]? = some (.cells cs.toArray E (0, 0))
  | .row Ad c E sz n xs, S, w => (∀ x, S x ↔ (Value.slice Ad n c).ownBlock = some x) ∧ w.ownsRow 0 E sz (.slice Ad n c) n xs
  | .gen A _, S, w => A S w
theorem Pc.loc : ∀ (F : Pc) {S : Nat → Prop} {w w' : World}, F.A S w → (∀ b, S b → w'.heap[b]? = w.heap[b]?) → F.A S w'
  | .cl b cs E, S, w, w', ⟨h1, h2⟩, k => ⟨h1, by rw [k b ((h1 b).2 rfl)]; exact h2⟩
  | .row Ad c E sz n xs, S, w, w', ⟨h1, h2⟩, k => ⟨h1, ownsRow_loc h2 fun b hb => k b ((h1 b).2 hb)⟩
  | .gen _ loc, S, w, w', h, k => loc h k

def Sep : List Pc → (Nat → Prop) → World → Prop
  | [], T, _ => ∀ b, ¬ T b
  | F :: Fs, T, w => ∃ S T', F.A S w ∧ Sep Fs T' w ∧ (∀ b, S b → ¬ T' b) ∧ (∀ b, T b ↔ (S b ∨ T' b))

/-- w' is w but for the blocks of S and new ones. -/
structure Upd (S : Nat → Prop) (w w' : World) : Prop where
  os : w'.os = w.os
  tape : w'.tape = w.tape
  output : w'.output = w.output
  size : w.heap.size ≤ w'.heap.size
  block : ∀ k, k < w.heap.size → ¬ S k → w'.heap[k]? = w.heap[k]?

def noB : Nat → Prop := fun _ => False

theorem Upd.refl (S : Nat → Prop) (w : World) : Upd S w w := ⟨rfl, rfl, rfl, Nat.le_refl _, fun _ _ _ => rfl⟩
theorem Upd.trans {S T : Nat → Prop} {w w1 w2 : World} (h : Upd S w w1) (k : Upd T w1 w2) (hT : ∀ b, T b → b < w.heap.size → S b) : Upd S w w2 :=
  ⟨k.os.trans h.os, k.tape.trans h.tape, k.output.trans h.output, Nat.le_trans h.size k.size, fun b hb hn =>
    (k.block b (Nat.lt_of_lt_of_le hb h.size) (fun ht => hn (hT b ht hb))).trans (h.block b hb hn)⟩
theorem Upd.mono {S T : Nat → Prop} {w w' : World} (h : Upd S w w') (hT : ∀ b, S b → b < w.heap.size → T b) : Upd T w w' :=
  ⟨h.os, h.tape, h.output, h.size, fun b hb hn => h.block b hb (fun hs => hn (hT b hs hb))⟩
theorem Upd.below {w w' : World} (h : Upd noB w w') : Below w.heap.size w w' := ⟨h.os, h.tape, h.output, h.size, fun k hk => h.block k hk (fun x => x)⟩
theorem Upd.of_below {w w' : World} (h : Below w.heap.size w w') : Upd noB w w' := ⟨h.os, h.tape, h.output, h.size, fun k hk _ => h.block k hk⟩
theorem Upd.of_grownBy {w w' : World} {row : Option Nat} (h : w.grownBy w' row) : Upd (fun b => some b = row) w w' := ⟨h.os, h.tape, h.output, h.size, fun k hk hn => h.block k hk hn⟩
theorem Upd.alloc (w : World) (o : Obj) : Upd noB w (w.alloc o) := .of_below ((Below.refl _ _).alloc (Nat.le_refl _) o)
theorem Upd.drew (w : World) : Upd noB w w.drew := .of_below (Below.refl _ _).drew

theorem Sep.keep : ∀ {Fs : List Pc} {T : Nat → Prop} {w w' : World}, Sep Fs T w → (∀ b, T b → w'.heap[b]? = w.heap[b]?) → Sep Fs T w'
  | [], _, _, _, h, _ => h
  | _ :: Fs, T, w, w', ⟨S, T', hA, hS, hd, hT⟩, k =>
    ⟨S, T', Pc.loc _ hA (fun b hb => k b ((hT b).2 (.inl hb))), Sep.keep hS (fun b hb => k b ((hT b).2 (.inr hb))), hd, hT⟩

/-- The state of a call that began in w0: of what was there only the blocks of K may have turned; the pieces lie in K or in new blocks. -/
structure St (K : Nat → Prop) (w0 w : World) (Fs : List Pc) : Prop where
  upd : Upd K w0 w
  sep : ∃ T, Sep Fs T w ∧ ∀ b, T b → (K b ∨ w0.heap.size ≤ b) ∧ b < w.heap.size

variable {K : Nat → Prop} {w0 w w' : World} {F F' : Pc} {Fs : List Pc}

theorem St.begin (w : World) : St noB w w [] := ⟨.refl _ _, fun _ => False, fun _ h => h, fun _ h => h.elim⟩
theorem St.begin1 {S : Nat → Prop} (h : F.A S w) (hb : ∀ b, S b → b < w.heap.size) : St S w w [F] :=
  ⟨.refl _ _, S, ⟨S, fun _ => False, h, fun _ h => h, fun _ _ h => h, fun b => by simp⟩, fun b hS => ⟨.inl hS, hb b hS⟩⟩

theorem Sep.get : ∀ {Fs : List Pc} {T : Nat → Prop} {w : World} {k : Nat} {F : Pc}, Sep Fs T w → Fs[k]? = some F → ∃ S, F.A S w ∧ ∀ b, S b → T b
  | F :: Fs, T, w, 0, F', ⟨S, T', hA, _, _, hT⟩, e => by
    simp at e; subst e; exact ⟨S, hA, fun b hb => (hT b).2 (.inl hb)⟩
  | F :: Fs, T, w, k + 1, F', ⟨S, T', hA, hS, _, hT⟩, e => by
    obtain ⟨S', h1, h2⟩ := Sep.get (k := k) hS (by simpa using e)
    exact ⟨S', h1, fun b hb => (hT b).2 (.inr (h2 b hb))⟩

theorem St.get (h : St K w0 w Fs) {k : Nat} (e : Fs[k]? = some F) : ∃ S, F.A S w ∧ ∀ b, S b → (K b ∨ w0.heap.size ≤ b) ∧ b < w.heap.size := by
  obtain ⟨T, hs, hT⟩ := h.sep
  obtain ⟨S, hA, hS⟩ := hs.get e
  exact ⟨S, hA, fun b hb => hT b (hS b hb)⟩

/-- What a reader needs: each piece holds; of what was there only the blocks of K may have turned. -/
structure Hd (K : Nat → Prop) (w0 w : World) (Fs : List Pc) : Prop where
  upd : Upd K w0 w
  all : ∀ (k : Nat) (F : Pc), Fs[k]? = some F → ∃ S, F.A S w
theorem St.hd (h : St K w0 w Fs) : Hd K w0 w Fs := ⟨h.upd, fun k F e => let ⟨S, hA, _⟩ := h.get e; ⟨S, hA⟩⟩
theorem Hd.nil (h : Upd K w0 w) : Hd K w0 w [] := ⟨h, fun k F e => by simp at e⟩
theorem Hd.cons {k : Nat} (h : Hd K w0 w Fs) (e : Fs[k]? = some F) {Gs : List Pc} (r : Hd K w0 w Gs) : Hd K w0 w (F :: Gs) :=
  ⟨h.upd, fun j G e' => by
    cases j with
    | zero => simp at e'; subst e'; exact h.all k F e
    | succ j => exact r.all j G (by simpa using e')⟩

/-- New blocks, draws: all pieces stand. -/
theorem St.grow (h : St K w0 w Fs) (u : Upd noB w w') : St K w0 w' Fs := by
  obtain ⟨T, hs, hT⟩ := h.sep
  exact ⟨h.upd.trans u (fun b hb _ => hb.elim), T, hs.keep (fun b hb => u.block b (hT b hb).2 (fun x => x)), fun b hb => ⟨(hT b hb).1, Nat.lt_of_lt_of_le (hT b hb).2 u.size⟩⟩

theorem St.push (h : St K w0 w Fs) (u : Upd noB w w') {S : Nat → Prop} (hA : F.A S w') (hS : ∀ b, S b → w.heap.size ≤ b ∧ b < w'.heap.size) : St K w0 w' (F :: Fs) := by
  obtain ⟨T, hs, hT⟩ := h.sep
  refine ⟨h.upd.trans u (fun b hb _ => hb.elim), fun b => S b ∨ T b, ⟨S, T, hA, hs.keep (fun b hb => u.block b (hT b hb).2 (fun x => x)), fun b h1 h2 => ?_, fun b => Iff.rfl⟩, fun b hb => ?_⟩
  · have := (hS b h1).1; have := (hT b h2).2; omega
  · rcases hb with hb | hb
    · refine ⟨.inr ?_, (hS b hb).2⟩
      have := (hS b hb).1; have := h.upd.size; omega
    · exact ⟨(hT b hb).1, Nat.lt_of_lt_of_le (hT b hb).2 u.size⟩

theorem Sep.set : ∀ {Fs : List Pc} {T : Nat → Prop} {w w' : World} {k : Nat} {F F' : Pc} {N M : Nat}, Sep Fs T w → Fs[k]? = some F → (∀ b, T b → b < N) →
    (∀ S, F.A S w → (∀ b, S b → T b) → ∃ S', F'.A S' w' ∧ (∀ b, b < N → ¬ S b → w'.heap[b]? = w.heap[b]?) ∧ ∀ b, S' b → S b ∨ (N ≤ b ∧ b < M)) →
    ∃ T', Sep (Fs.set k F') T' w' ∧ ∀ b, T' b → T b ∨ (N ≤ b ∧ b < M)
  | F :: Fs, T, w, w', 0, F1, F', N, M, ⟨S, T', hA, hs, hd, hT⟩, e, hN, H => by
    simp at e; subst e
    obtain ⟨S', hA', hk, hS'⟩ := H S hA (fun b hb => (hT b).2 (.inl hb))
    refine ⟨fun b => S' b ∨ T' b, ⟨S', T', hA', hs.keep (fun b hb => hk b (hN b ((hT b).2 (.inr hb))) (fun hSb => hd b hSb hb)), fun b h1 h2 => ?_, fun b => Iff.rfl⟩, fun b hb => ?_⟩
    · rcases hS' b h1 with h | h
      · exact hd b h h2
      · have := hN b ((hT b).2 (.inr h2)); omega
    · rcases hb with hb | hb
      · rcases hS' b hb with h | h
        · exact .inl ((hT b).2 (.inl h))
        · exact .inr h
      · exact .inl ((hT b).2 (.inr hb))
  | F :: Fs, T, w, w', k + 1, F1, F', N, M, ⟨S, T', hA, hs, hd, hT⟩, e, hN, H => by
    obtain ⟨S1, hA1, hS1⟩ := Sep.get (k := k) hs (by simpa using e)
    obtain ⟨T'', hs'', hT''⟩ := Sep.set (k := k) (F' := F') (w' := w') (N := N) (M := M) hs (by simpa using e) (fun b hb => hN b ((hT b).2 (.inr hb))) (fun S2 hA2 hS2 => H S2 hA2 (fun b hb => (hT b).2 (.inr (hS2 b hb))))
    have hkeep : ∀ b, S b → w'.heap[b]? = w.heap[b]? := by
      intro b hb
      obtain ⟨_, _, hk, _⟩ := H S1 hA1 (fun b hb => (hT b).2 (.inr (hS1 b hb)))
      exact hk b (hN b ((hT b).2 (.inl hb))) (fun h1 => hd b hb (hS1 b h1))
    refine ⟨fun b => S b ∨ T'' b, ⟨S, T'', F.loc hA hkeep, hs'', fun b h1 h2 => ?_, fun b => Iff.rfl⟩, fun b hb => ?_⟩
    · rcases hT'' b h2 with h | h
      · exact hd b h1 h
      · have := hN b ((hT b).2 (.inl h1)); omega
    · rcases hb with hb | hb
      · exact .inl ((hT b).2 (.inl hb))
      · rcases hT'' b hb with h | h
        · exact .inl ((hT b).2 (.inr h))
        · exact .inr h

/-- One piece turns, in its own blocks or in new ones. -/
theorem St.upd1 (h : St K w0 w Fs) {k : Nat} (e : Fs[k]? = some F)
    (H : ∀ S, F.A S w → (∀ b, S b → b < w.heap.size) → ∃ S', F'.A S' w' ∧ Upd S w w' ∧ ∀ b, S' b → S b ∨ (w.heap.size ≤ b ∧ b < w'.heap.size)) : St K w0 w' (Fs.set k F') := by
  obtain ⟨T, hs, hT⟩ := h.sep
  obtain ⟨S1, hA1, hS1⟩ := hs.get e
  obtain ⟨S1', hA1', hu1, hb1⟩ := H S1 hA1 (fun b hb => (hT b (hS1 b hb)).2)
  obtain ⟨T', hs', hT'⟩ := Sep.set (N := w.heap.size) (M := w'.heap.size) (w' := w') (F' := F') hs e (fun b hb => (hT b hb).2) (fun S hA hS => by
    obtain ⟨S', hA', hu, hb⟩ := H S hA (fun b hb => (hT b (hS b hb)).2)
    exact ⟨S', hA', fun b hbN hn => hu.block b hbN hn, fun b hb' => hb b hb'⟩)
  refine ⟨h.upd.trans hu1 (fun b hb hlt => ?_), T', hs', fun b hb => ?_⟩
  · rcases (hT b (hS1 b hb)).1 with h | h
    · exact h
    · omega
  · rcases hT' b hb with h1 | h1
    · exact ⟨(hT b h1).1, Nat.lt_of_lt_of_le (hT b h1).2 hu1.size⟩
    · exact ⟨.inr (Nat.le_trans h.upd.size h1.1), h1.2⟩

/-- Pieces are let go, or put in another order. -/
theorem Sep.drop : ∀ {Fs : List Pc} {T : Nat → Prop} {w : World} {k : Nat}, Sep Fs T w → ∃ T', Sep (Fs.eraseIdx k) T' w ∧ ∀ b, T' b → T b
  | [], T, w, k, h => ⟨T, by simpa using h, fun _ h => h⟩
  | F :: Fs, T, w, 0, ⟨S, T', hA, hs, hd, hT⟩ => ⟨T', by simpa using hs, fun b hb => (hT b).2 (.inr hb)⟩
  | F :: Fs, T, w, k + 1, ⟨S, T', hA, hs, hd, hT⟩ => by
    obtain ⟨T2, h2, h3⟩ := Sep.drop (k := k) hs
    exact ⟨fun b => S b ∨ T2 b, ⟨S, T2, hA, h2, fun b h1 h4 => hd b h1 (h3 b h4), fun _ => Iff.rfl⟩, fun b hb => (hT b).2 (hb.imp id (h3 b))⟩
theorem St.drop (h : St K w0 w Fs) (k : Nat) : St K w0 w (Fs.eraseIdx k) := by
  obtain ⟨T, hs, hT⟩ := h.sep
  obtain ⟨T', h1, h2⟩ := hs.drop (k := k)
  exact ⟨h.upd, T', h1, fun b hb => hT b (h2 b hb)⟩
/-- The piece at k is brought to the head. -/
theorem Sep.pull : ∀ {Fs : List Pc} {T : Nat → Prop} {w : World} {k : Nat} {F : Pc}, Sep Fs T w → Fs[k]? = some F → Sep (F :: Fs.eraseIdx k) T w
  | F :: Fs, T, w, 0, F1, h, e => by simp at e; subst e; simpa using h
  | F :: Fs, T, w, k + 1, F1, ⟨S, T', hA, hs, hd, hT⟩, e => by
    obtain ⟨S1, T1, hA1, hs1, hd1, hT1⟩ := Sep.pull (k := k) hs (by simpa using e)
    refine ⟨S1, fun b => S b ∨ T1 b, hA1, ⟨S, T1, hA, hs1, fun b h1 h2 => hd b h1 ((hT1 b).2 (.inr h2)), fun _ => Iff.rfl⟩, fun b h1 h2 => ?_, fun b => ?_⟩
    · rcases h2 with h2 | h2
      · exact hd b h2 ((hT1 b).2 (.inl h1))
      · exact hd1 b h1 h2
    · rw [hT b, hT1 b]
      constructor
      · rintro (h | h | h)
        · exact .inr (.inl h)
        · exact .inl h
        · exact .inr (.inr h)
      · rintro (h | h | h)
        · exact .inr (.inl h)
        · exact .inl h
        · exact .inr (.inr h)
theorem St.pull (h : St K w0 w Fs) {k : Nat} (e : Fs[k]? = some F) : St K w0 w (F :: Fs.eraseIdx k) := by
  obtain ⟨T, hs, hT⟩ := h.sep
  exact ⟨h.upd, T, hs.pull e, hT⟩
/-- A piece is said otherwise. -/
theorem St.weak (h : St K w0 w Fs) {k : Nat} (e : Fs[k]? = some F) (H : ∀ S, F.A S w → (∀ b, S b → b < w.heap.size) → ∃ S', F'.A S' w ∧ ∀ b, S' b → S b) : St K w0 w (Fs.set k F') :=
  h.upd1 e fun S hA hb => by
    obtain ⟨S', h1, h2⟩ := H S hA hb
    exact ⟨S', h1, Upd.refl _ _, fun b hb => .inl (h2 b hb)⟩

theorem Sep.take : ∀ (m : Nat) {Fs : List Pc} {T : Nat → Prop} {w : World}, Sep Fs T w → ∃ T', Sep (Fs.take m) T' w ∧ ∀ b, T' b → T b
  | 0, Fs, T, w, _ => ⟨fun _ => False, by simp [Sep], fun _ h => h.elim⟩
  | m + 1, [], T, w, h => ⟨T, by simpa using h, fun _ h => h⟩
  | m + 1, F :: Fs, T, w, ⟨S, T', hA, hs, hd, hT⟩ => by
    obtain ⟨T2, h2, h3⟩ := Sep.take m hs
    exact ⟨fun b => S b ∨ T2 b, ⟨S, T2, hA, h2, fun b h1 h4 => hd b h1 (h3 b h4), fun _ => Iff.rfl⟩, fun b hb => (hT b).2 (hb.imp id (h3 b))⟩
theorem St.take (h : St K w0 w Fs) (m : Nat) : St K w0 w (Fs.take m) := by
  obtain ⟨T, hs, hT⟩ := h.sep
  obtain ⟨T', h1, h2⟩ := hs.take m
  exact ⟨h.upd, T', h1, fun b hb => hT b (h2 b hb)⟩

end Go.Bz
