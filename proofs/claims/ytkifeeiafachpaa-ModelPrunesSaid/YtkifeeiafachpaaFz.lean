/- Memory that is read alone, and may be shared; bytes. Nothing of the program stands here. -/
import Derived.Test.YtkifeeiafachpaaGd
import Derived.Laws.BytesString
set_option linter.unusedVariables false
set_option linter.unusedSimpArgs false
namespace Go.Bz
open Go Go.RowKit

variable {X : Cx} {ops : Array Oper} {rest : List Oper} {Q Q' : Exit → Act → World → Prop} {L L' : List (Nat × Value)} {Fs Fs' : List Pc}
variable {K : Nat → Prop} {w0 w w' wb : World} {C : List (Nat × Value) → List Pc → Prop} {g : Option (Nat × Bool)} {P : Program} {n : Nat}

abbrev Fact := Option Addr × List Value
def Fact.on (f : Fact) (S : Nat → Prop) (w : World) : Prop := f.2 = [] ∨ ∃ b o, f.1 = some ⟨b, o, none⟩ ∧ Cells w b o f.2 ∧ S b
theorem Fact.on_keep {f : Fact} {S : Nat → Prop} (h : f.on S w) (k : ∀ b, S b → w'.heap[b]? = w.heap[b]?) : f.on S w' :=
  h.imp id fun ⟨b, o, h1, h2, h3⟩ => ⟨b, o, h1, h2.keep (k b h3), h3⟩
theorem Fact.on_mono {f : Fact} {S T : Nat → Prop} (h : f.on S w) (k : ∀ b, S b → T b) : f.on T w :=
  h.imp id fun ⟨b, o, h1, h2, h3⟩ => ⟨b, o, h1, h2, k b h3⟩
theorem Fact.on_slr {f : Fact} {S : Nat → Prop} (h : f.on S w) : SlR w f.1 f.2 := h.imp id fun ⟨b, o, h1, h2, _⟩ => ⟨b, o, h1, h2⟩
/-- what lies in blocks of its own, or lay there in the world wb -/
def frz (wb : World) (l : List Fact) : Pc := .gen (fun S w => ∀ f ∈ l, SlR wb f.1 f.2 ∨ Fact.on f S w) (fun h k f hf => (h f hf).imp id fun h => Fact.on_keep h k)
def frzN (l : List Fact) : Pc := .gen (fun S w => ∀ f ∈ l, Fact.on f S w) (fun h k f hf => Fact.on_keep (h f hf) k)
theorem Hd.frz {k : Nat} {l : List Fact} (h : Hd noB w0 w Fs) (e : Fs[k]? = some (frz w0 l)) : ∀ f ∈ l, SlR w f.1 f.2 := fun f hf => by
  obtain ⟨S, hA⟩ := h.all _ _ e
  rcases hA f hf with h1 | h1
  · exact h.rd0n h1
  · exact Fact.on_slr h1
theorem Hd.frzN {k : Nat} {l : List Fact} (h : Hd K w0 w Fs) (e : Fs[k]? = some (frzN l)) : ∀ f ∈ l, SlR w f.1 f.2 := fun f hf => by
  obtain ⟨S, hA⟩ := h.all _ _ e
  exact Fact.on_slr (hA f hf)
theorem St.put0 {F : Pc} (h : St K w0 w Fs) (hF : F.A (fun _ => False) w) : St K w0 w (F :: Fs) := by
  obtain ⟨T, hs, hT⟩ := h.sep
  exact ⟨h.upd, T, ⟨fun _ => False, T, hF, hs, fun _ x => x.elim, fun b => by simp⟩, hT⟩
theorem St.frz0 (h : St K w0 w Fs) (l : List Fact) (hl : ∀ f ∈ l, SlR wb f.1 f.2) : St K w0 w (Bz.frz wb l :: Fs) := h.put0 fun f hf => .inl (hl f hf)
theorem St.frzN0 (h : St K w0 w Fs) : St K w0 w (Bz.frzN [] :: Fs) := h.put0 fun f hf => by cases hf
theorem St.two {F1 F2 F : Pc} (h : St K w0 w (F1 :: F2 :: Fs)) (k : ∀ S1 S2, F1.A S1 w → F2.A S2 w → F.A (fun b => S1 b ∨ S2 b) w) : St K w0 w (F :: Fs) := by
  obtain ⟨T, ⟨S1, T1, hA1, ⟨S2, T2, hA2, hs, hd2, hT2⟩, hd1, hT1⟩, hTb⟩ := h.sep
  refine ⟨h.upd, T, ⟨fun b => S1 b ∨ S2 b, T2, k S1 S2 hA1 hA2, hs, fun b h1 h2 => ?_, fun b => ?_⟩, hTb⟩
  · rcases h1 with h1 | h1
    · exact hd1 b h1 ((hT2 b).2 (.inr h2))
    · exact hd2 b h1 h2
  · rw [hT1 b, hT2 b, or_assoc]
theorem St.frzAdd {l l' : List Fact} (h : St K w0 w (Bz.frzN l' :: Bz.frz wb l :: Fs)) : St K w0 w (Bz.frz wb (l' ++ l) :: Fs) :=
  h.two fun S1 S2 h1 h2 f hf => by
    rcases List.mem_append.1 hf with hf | hf
    · exact .inr (Fact.on_mono (h1 f hf) fun _ => .inl)
    · exact (h2 f hf).imp id fun h => Fact.on_mono h fun _ => .inr
theorem St.frzNAdd {l l' : List Fact} (h : St K w0 w (Bz.frzN l' :: Bz.frzN l :: Fs)) : St K w0 w (Bz.frzN (l' ++ l) :: Fs) :=
  h.two fun S1 S2 h1 h2 f hf => by
    rcases List.mem_append.1 hf with hf | hf
    · exact Fact.on_mono (h1 f hf) fun _ => .inl
    · exact Fact.on_mono (h2 f hf) fun _ => .inr
theorem St.frzSub {k : Nat} {l l' : List Fact} (h : St K w0 w Fs) (e : Fs[k]? = some (Bz.frz wb l)) (hs : ∀ f ∈ l', f ∈ l) : St K w0 w (Fs.set k (Bz.frz wb l')) :=
  h.weak e fun S hA hb => ⟨S, fun f hf => hA f (hs f hf), fun _ h => h⟩
theorem St.frzNSub {k : Nat} {l l' : List Fact} (h : St K w0 w Fs) (e : Fs[k]? = some (Bz.frzN l)) (hs : ∀ f ∈ l', f ∈ l) : St K w0 w (Fs.set k (Bz.frzN l')) :=
  h.weak e fun S hA hb => ⟨S, fun f hf => hA f (hs f hf), fun _ h => h⟩
theorem St.roFrz {k : Nat} {A : Option Addr} {us : List Value} (h : St K w0 w Fs) (e : Fs[k]? = some (roP A us)) : St K w0 w (Fs.set k (Bz.frzN [(A, us)])) :=
  h.weak e fun S hA hb => ⟨S, fun f hf => by
    simp only [List.mem_singleton] at hf
    subst hf
    rcases hA with ⟨h1, _⟩ | ⟨b, o, h1, h2, h3⟩
    · exact .inl h1
    · exact .inr ⟨b, o, h1, h2, (h3 b).2 rfl⟩, fun _ h => h⟩
theorem St.rowFrz {k n' E sz c : Nat} {A : Option Addr} {xs : List Value} (h : St K w0 w Fs) (e : Fs[k]? = some (Pc.row A c E sz n' xs)) : St K w0 w (Fs.set k (Bz.frzN [(A, xs)])) := by
  have h1 := h.rowRo e
  have h2 := h1.roFrz (k := k) (A := A) (us := xs) (by
    have := (List.getElem?_eq_some_iff.1 e).1
    simp [this])
  simpa using h2

/-! ### bytes -/
def byts (b : List UInt8) : List Value := b.map fun x => .int .u8 (x.toNat : Int)
theorem byts_len (b : List UInt8) : (byts b).length = b.length := by simp [byts]
theorem byts_one (b : List UInt8) : (byts b).all Value.oneCell' = true := by simp [byts, Value.oneCell']
theorem push_all (l : List UInt8) : ∀ s : List UInt8, l.foldl (fun (r : ByteArray) n => r.push n) ⟨s.toArray⟩ = ⟨(s ++ l).toArray⟩ := by
  induction l with
  | nil => intro s; simp
  | cons x l ih =>
    intro s
    rw [List.foldl_cons, show (ByteArray.push ⟨s.toArray⟩ x) = ⟨(s ++ [x]).toArray⟩ from by simp [ByteArray.push], ih (s ++ [x])]
    simp
theorem run_bts {A : Option Addr} {n c : Nat} {b : List UInt8} (h : SlR w A (byts b)) (hl : b.length = n) : (Conv.bytesToString (.slice A n c)).run P w = .ok (.string ⟨b.toArray⟩) w := by
  cases A with
  | none =>
    rcases h with h | ⟨_, _, h, _⟩
    · have : b = [] := by simpa [byts] using h
      subst this
      rfl
    · cases h
  | some a =>
    have hc : (loadCells a n).run P w = .ok ((b.map fun x => (x.toNat : Int)).map (Value.int .u8)).toArray w := by
      have e : (b.map fun x => (x.toNat : Int)).map (Value.int .u8) = byts b := by simp [byts, Function.comp_def]
      rw [e, ← hl, ← byts_len b]
      refine run_loadCells_list (P := P) w a (byts b) fun j v hv => ?_
      rcases h with h | ⟨b', o, h, hc⟩
      · rw [h] at hv; simp at hv
      · cases h; rw [addr_add]; exact hc j v hv
    rw [run_bytesToString w a n c _ hc, List.foldl_map]
    have e : ∀ (l : List UInt8) (s : ByteArray), l.foldl (fun (r : ByteArray) x => r.push (UInt8.ofNat ((x.toNat : Int)).toNat)) s = l.foldl (fun (r : ByteArray) x => r.push x) s := fun l => by
      induction l with
      | nil => intro s; rfl
      | cons x l ih => intro s; simp only [List.foldl_cons]; rw [ih]; simp
    rw [e, show ByteArray.empty = ⟨([] : List UInt8).toArray⟩ from rfl, push_all]; simp
theorem rv_convBS {src dst e : TypeId} {ty : TypeId} {x : Operand} {A : Option Addr} {m c : Nat} {b : List UInt8} (hs : P.underlying src = some (.slice e)) (he : P.underlying e = some (.int .u8)) (hd : P.underlying dst = some .string)
    (ex : ev L x = some (.slice A m c)) (hR : ∀ w, Hd K w0 w Fs → SlR w A (byts b)) (hl : b.length = m) : RV P K w0 n L Fs (.convert src dst x) ty (.string ⟨b.toArray⟩) := fun w a hs' hf d pos af g => by
  simp only [execOp, hf.ev ex]
  have : (convert src dst (.slice A m c)).run P w = .ok (.string ⟨b.toArray⟩) w := by rw [run_convert_bytes_string w src dst e A m c hs he hd, run_bts (hR w hs') hl]
  simp only [Sem.run_bind, this, Result.andThen_ok, Sem.run_pure]
theorem ba_inj {a b : List UInt8} : ((⟨a.toArray⟩ : ByteArray) = ⟨b.toArray⟩) ↔ a = b := by
  constructor
  · intro h; have := congrArg (fun x => x.data.toList) h; simpa using this
  · intro h; rw [h]
theorem rv_rem {t t' ty : TypeId} {x y : Operand} {a b : Int} (ex : ev L x = some (.int .i64 a)) (ey : ev L y = some (.int .i64 b)) (h0 : b ≠ 0) : RV P K w0 n L Fs (.binOp .rem t x y t') ty (.int .i64 (a.tmod b)) :=
  rv_bin ex ey fun w => by simp [eqGuard, binOp, Op.intDiv, h0, go_sem]
/-- []byte of a string that is known: the row is marked, and is read alone from here on -/
theorem ot_mark {d k b t e : Nat} {m c : Nat} {x : Operand} {ty : TypeId} {pos : String} {af : Array Edge} {cs : List Value} (ht : X.P.underlying t = some (.slice e)) (he : X.P.underlying e = some (.int .u8)) (ex : ev L x = some (.slice (some ⟨b, 0, none⟩) m c)) (hk : Fs[k]? = some (Pc.cl b cs e))
    (hd : Nat.ble (d + 1) X.n = true) (h : C ((d, .slice (some ⟨b, 0, none⟩) m c) :: L) (Fs.set k (roP (some ⟨b, 0, none⟩) cs))) : OT X ⟨some d, .convert t t x, ty, pos, af, g⟩ L Fs C :=
  ot_eff (γ := Unit) (Φ := fun _ => True) (v := fun _ => .slice (some ⟨b, 0, none⟩) m c) (H := fun _ => Fs.set k (roP (some ⟨b, 0, none⟩) cs)) (fun w a hs hf => by
    have hb := hs.hd.clAt hk
    refine ⟨(), w.freeze ⟨b, cs.length, none⟩ 1, ?_, ?_, trivial⟩
    · simp only [execOp, hf.ev ex]
      have hsh : w.shape? b = some (e, cs.length) := by simp [World.shape?, hb]
      simp [convert, run_underlying ht, run_underlying he, markStringish, hsh, go_sem]
    · refine hs.upd1 hk fun S hA hbb => ⟨S, ?_, ?_, fun _ h => .inl h⟩
      · have hS := hA.1
        refine .inr ⟨b, 0, rfl, fun j u hj => ?_, hS⟩
        have hlt := (List.getElem?_eq_some_iff.1 hj).1
        simp [World.freeze, World.cell?, Array.getElem?_modify, hb, hj]
      · refine ⟨rfl, rfl, rfl, by simp [World.freeze], fun k _ hn => ?_⟩
        have hne : k ≠ b := fun e => hn ((hA.1 k).2 e)
        simp [World.freeze, Array.getElem?_modify, Ne.symm hne]) hd fun _ _ => h
theorem GD.rowForm {Kp : List Pc} {k fuel i n' E sz cc : Nat} {listed : Array Bool} {A : Option Addr} {xs : List Value} (e : Fs[i]? = some (Pc.row A cc E sz n' xs))
    (h : xs.length = n' * sz → n' ≤ cc → ((A = none ∧ n' = 0 ∧ cc = 0) ∨ ∃ b, A = some ⟨b, 0, none⟩) → GD X ops Q k Kp fuel listed L Fs) : GD X ops Q k Kp fuel listed L Fs := fun w a hs hf hΦ => by
  obtain ⟨h1, h2, h3⟩ := row_form hs.hd e
  exact h h1 h2 h3 w a hs hf hΦ
/-- a guarded operation that is left out, in a region that draws -/
theorem GD.skipG {Kp : List Pc} {k fuel i d : Nat} {listed : Array Bool} {op : Op} {ty : TypeId} {pos : String} {af : Array Edge} {gd : Option (Nat × Bool)} (hi : ops[i]? = some ⟨some d, op, ty, pos, af, gd⟩) (hg : gval ops L gd = some false)
    (hc : (Region.noSelect ops && Region.free .any ops listed i && (Region.ready .any ops listed).contains i && !(Nat.beq i k) && Nat.ble (d + 1) X.n) = true) (hQ : noPanicPut Q)
    (h : GD X ops Q k Kp fuel (listed.setIfInBounds i true) ((d, undef) :: L) Fs) : GD X ops Q k Kp (fuel + 1) listed L Fs := fun w a hs hf hΦ => by
  simp only [Bool.and_eq_true, Bool.not_eq_true'] at hc
  obtain ⟨⟨⟨⟨c1, c2⟩, c3⟩, c5⟩, c7⟩ := hc
  have hik : i ≠ k := fun e => by subst e; simp at c5
  refine wpAnyS_firstP (oi := ⟨some d, op, ty, pos, af, gd⟩) (v := undef) hi (Region.noSelect_spec c1) (fun c a w => hQ c a _ undef w) hik fuel listed a w (Region.free_spec hi c2) (by simpa using c3) (.inr ⟨wanted_gval hf hg, rfl⟩) hΦ ?_
  exact h w _ hs (hf.put (Nat.le_of_ble_eq_true c7) undef) (by rw [getD_set_ne false hik]; exact hΦ)
end Go.Bz
