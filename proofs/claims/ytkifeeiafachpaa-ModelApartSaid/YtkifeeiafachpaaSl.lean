/- Slicing, cutting out of a row of one's own, guarded operations. Nothing of the program stands here. -/
import Derived.Test.YtkifeeiafachpaaCall
set_option linter.unusedVariables false
set_option linter.unusedSimpArgs false
namespace Go.Bz
open Go Go.RowKit

variable {X : Cx} {ops : Array Oper} {rest : List Oper} {Q Q' : Exit → Act → World → Prop} {L L' : List (Nat × Value)} {Fs Fs' : List Pc}
variable {K : Nat → Prop} {w0 w : World} {C : List (Nat × Value) → List Pc → Prop} {g : Option (Nat × Bool)} {P : Program} {n : Nat} {ty : TypeId} {x y i : Operand} {v : Value} {pos : String} {af : Array Edge}

/-! ### slices of slices -/
def sAddr (A : Option Addr) (m l sz : Nat) : Option Addr := if m = l then A else A.map (·.add (l * sz))
/-- an operand that is an int from 0 to a bound, or nothing -/
def optI (L : List (Nat × Value)) : Option Operand → Option (Option Int)
  | none => some none
  | some x => match ev L x with
    | some (.int .i64 z) => some (some z)
    | _ => none
theorem run_bound {z : Int} {y : Nat} {code : BoundsCode} (h0 : 0 ≤ z) (h1 : z ≤ y) (w : World) : (Instr.sliceBound (.int .i64 z) y code).run P w = .ok z.toNat w := by
  simp [Instr.sliceBound, asIntOf, h0, h1, go_sem]
theorem optI_map {a : Act} (hf : Fr n L a) {o : Option Operand} {z : Option Int} (e : optI L o = some z) : o.map a.eval = z.map (.int .i64) := by
  cases o with
  | none =>
    have e' : some none = some z := e
    obtain rfl := (Option.some.inj e').symm
    rfl
  | some x =>
    have e' : (match ev L x with | some (.int .i64 q) => some (some q) | _ => none) = some z := e
    split at e' <;> try contradiction
    rename_i q hx
    obtain rfl := Option.some.inj e'
    simp [hf.ev hx]
/-- s[lo:hi:mx] of a slice -/
theorem rv_sl {t len cap sz : Nat} {A : Option Addr} {lo hi mx : Option Operand} {zl zh zm : Option Int} (hz : elemSz P t = some sz) (e : ev L x = some (.slice A len cap))
    (el : optI L lo = some zl) (eh : optI L hi = some zh) (em : optI L mx = some zm) (hmx : (zm.isSome && !zh.isSome) = false)
    (l h m : Nat) (hm : zm.getD cap = m) (hh : zh.getD len = h) (hl : zl.getD 0 = l) (h1 : l ≤ h) (h2 : h ≤ m) (h3 : m ≤ cap) :
    RV P K w0 n L Fs (.slice t x lo hi mx) ty (.slice (sAddr A m l sz) (h - l) (m - l)) := fun w a hs hf d pos af g => by
  unfold elemSz at hz
  split at hz <;> try contradiction
  rename_i E hu
  obtain ⟨inf, hi, rfl⟩ := Option.map_eq_some_iff.1 hz
  have e1 := optI_map hf el
  have e2 := optI_map hf eh
  have e3 := optI_map hf em
  simp only [execOp, hf.ev e, e1, e2, e3]
  have hb : (Instr.sliceBounds true len cap (zl.map (.int .i64)) (zh.map (.int .i64)) (zm.map (.int .i64))).run P w = .ok (l, h, m) w := by
    have b0 : ∀ (y q : Nat) (code : BoundsCode) (w : World), q ≤ y → (Instr.sliceBound (.int .i64 (q : Int)) y code).run P w = .ok q w := fun y q code w hq => by
      have := run_bound (P := P) (z := (q : Int)) (y := y) (code := code) (by omega) (by omega) w
      simpa using this
    have hm' : zm = none ∧ m = cap ∨ zm = some (m : Int) := by
      cases zm with
      | none => exact .inl ⟨rfl, by simp at hm; omega⟩
      | some q => exact .inr (by simp at hm; rw [hm])
    have hh' : zh = none ∧ h = len ∨ zh = some (h : Int) := by
      cases zh with
      | none => exact .inl ⟨rfl, by simp at hh; omega⟩
      | some q => exact .inr (by simp at hh; rw [hh])
    have hl' : zl = none ∧ l = 0 ∨ zl = some (l : Int) := by
      cases zl with
      | none => exact .inl ⟨rfl, by simp at hl; omega⟩
      | some q => exact .inr (by simp at hl; rw [hl])
    rcases hm' with ⟨rfl, rfl⟩ | rfl <;> rcases hh' with ⟨rfl, rfl⟩ | rfl <;> rcases hl' with ⟨rfl, rfl⟩ | rfl <;> simp at hmx <;>
      simp [Instr.sliceBounds, b0, h1, h2, h3, Sem.run_bind, Sem.run_pure, Result.andThen_ok]
  simp only [Instr.sliceAt, Sem.run_bind, run_underlying hu, Result.andThen_ok, Instr.slice, hb, run_sizeOf hi, Sem.run_pure, sAddr]

theorem sAddr_zero (A : Option Addr) (m sz : Nat) : sAddr A m 0 sz = A := by
  unfold sAddr
  split
  · rfl
  · cases A with
    | none => rfl
    | some ad => simp [Addr.add]
theorem sAddr_lt {b o m l sz : Nat} (h : l < m) : sAddr (some ⟨b, o, none⟩) m l sz = some ⟨b, o + l * sz, none⟩ := by
  unfold sAddr
  rw [if_neg (by omega)]
  simp [addr_add]
/-- s[:h] -/
theorem rv_slTo {t len cap sz : Nat} {A : Option Addr} {hi : Operand} {z : Int} (hz : elemSz P t = some sz) (e : ev L x = some (.slice A len cap)) (eh : ev L hi = some (.int .i64 z)) (h : Nat) (hh : z = h) (h2 : h ≤ cap) :
    RV P K w0 n L Fs (.slice t x none (some hi) none) ty (.slice A h cap) := by
  have := rv_sl (P := P) (K := K) (w0 := w0) (n := n) (Fs := Fs) (ty := ty) (lo := none) (hi := some hi) (mx := none) (zl := none) (zh := some z) (zm := none) hz e rfl (by simp [optI, eh]) rfl rfl 0 h cap rfl hh rfl (Nat.zero_le _) h2 (Nat.le_refl _)
  simpa [sAddr_zero] using this
/-- s[l:] -/
theorem rv_slFrom {t len cap sz : Nat} {A : Option Addr} {lo : Operand} {z : Int} (hz : elemSz P t = some sz) (e : ev L x = some (.slice A len cap)) (el : ev L lo = some (.int .i64 z)) (l : Nat) (hl : z = l) (h1 : l ≤ len) (h2 : len ≤ cap) :
    RV P K w0 n L Fs (.slice t x (some lo) none none) ty (.slice (sAddr A cap l sz) (len - l) (cap - l)) :=
  rv_sl (lo := some lo) (hi := none) (mx := none) (zl := some z) (zh := none) (zm := none) hz e (by simp [optI, el]) rfl rfl rfl l len cap rfl rfl hl h1 h2 (Nat.le_refl _)

/-! ### what a row's value looks like -/
theorem row_form {k n' E sz c : Nat} {A : Option Addr} {xs : List Value} (h : Hd K w0 w Fs) (e : Fs[k]? = some (Pc.row A c E sz n' xs)) : xs.length = n' * sz ∧ n' ≤ c ∧ ((A = none ∧ n' = 0 ∧ c = 0) ∨ ∃ b, A = some ⟨b, 0, none⟩) := by
  obtain ⟨S, hA⟩ := h.all _ _ e
  refine ⟨hA.2.1, ?_⟩
  rcases hA.2.2 with ⟨h1, h2⟩ | ⟨b, cap, cur, h1, _, _, hnc, _⟩
  · simp only [Value.slice.injEq] at h1
    exact ⟨by omega, .inl ⟨h1.1, h2, h1.2.2⟩⟩
  · simp only [Value.slice.injEq] at h1
    exact ⟨by omega, .inr ⟨b, h1.1⟩⟩
theorem GC.rowForm {c : Code} {k n' E sz cc : Nat} {A : Option Addr} {xs : List Value} (e : Fs[k]? = some (Pc.row A cc E sz n' xs))
    (h : xs.length = n' * sz → n' ≤ cc → ((A = none ∧ n' = 0 ∧ cc = 0) ∨ ∃ b, A = some ⟨b, 0, none⟩) → GC X c Q L Fs) : GC X c Q L Fs := fun w a hs hf => by
  obtain ⟨h1, h2, h3⟩ := row_form hs.hd e
  exact h h1 h2 h3 w a hs hf
theorem Hd.rowCells {k b E sz n' cap o : Nat} {xs us : List Value} (e : Fs[k]? = some (Pc.row (some ⟨b, 0, none⟩) cap E sz n' xs)) (hu : (xs.drop o).take us.length = us) (w : World) (h : Hd K w0 w Fs) : Cells w b o us := by
  intro j u hj
  have hlt := (List.getElem?_eq_some_iff.1 hj).1
  have : xs[o + j]? = some u := by
    rw [← hu] at hj
    rw [List.getElem?_take, if_pos (by omega)] at hj
    simpa using hj
  exact Hd.rowCell e this w h

theorem Hd.rowFrom {k b E sz n' cap o : Nat} {xs : List Value} (e : Fs[k]? = some (Pc.row (some ⟨b, 0, none⟩) cap E sz n' xs)) (w : World) (h : Hd K w0 w Fs) : Cells w b (0 + o) (xs.drop o) := by
  rw [Nat.zero_add]
  exact Hd.rowCells e (List.take_of_length_le (by simp)) w h
theorem one_drop {xs : List Value} (h : xs.all Value.oneCell' = true) (k : Nat) : (xs.drop k).all Value.oneCell' = true := by
  rw [List.all_eq_true] at *
  exact fun u hu => h u (List.mem_of_mem_drop hu)
theorem one_take {xs : List Value} (h : xs.all Value.oneCell' = true) (k : Nat) : (xs.take k).all Value.oneCell' = true := by
  rw [List.all_eq_true] at *
  exact fun u hu => h u (List.mem_of_mem_take hu)
/-- a row is cut to fewer elements -/
theorem St.rowCut {k b E sz n' m cap : Nat} {xs ys : List Value} (h : St K w0 w Fs) (e : Fs[k]? = some (Pc.row (some ⟨b, 0, none⟩) cap E sz n' xs)) (hm : m ≤ n') (hy : xs.take (m * sz) = ys) : St K w0 w (Fs.set k (Pc.row (some ⟨b, 0, none⟩) cap E sz m ys)) :=
  h.weak e fun S hA hb => by
    refine ⟨S, ⟨hA.1, ?_⟩, fun _ h => h⟩
    obtain ⟨hx, hr⟩ := hA.2
    have hmul := Nat.mul_le_mul_right sz hm
    subst hy
    refine ⟨by simp; omega, ?_⟩
    rcases hr with ⟨h, _⟩ | ⟨b', cap', cur, h, hb0, hg, hnc, hcm, hcs, htake⟩
    · cases h
    simp only [Value.slice.injEq, Option.some.injEq, Addr.mk.injEq, and_true] at h
    obtain ⟨hbb, _, hcc⟩ := h
    subst hbb hcc
    exact .inr ⟨b, cap, cur, rfl, hb0, hg, by omega, hcm, hcs, by rw [← htake, List.take_take, Nat.min_eq_left hmul]⟩

/-! ### writing within a row of one's own -/
theorem repl_eq : ∀ (vs cs : List Value) (o : Nat), o + vs.length ≤ cs.length → repl cs o vs = cs.take o ++ vs ++ cs.drop (o + vs.length)
  | [], cs, o, h => by simp [repl]
  | v :: vs, cs, o, h => by
    simp only [List.length_cons] at h
    rw [repl, repl_eq vs _ _ (by simp; omega)]
    apply List.ext_getElem?
    intro j
    simp only [List.getElem?_append, List.length_append, List.length_take, List.length_set, List.getElem?_take, List.getElem?_set, List.getElem?_drop, List.length_cons]
    have e1 : min (o + 1) cs.length = o + 1 := by omega
    have e2 : min o cs.length = o := by omega
    rw [e1, e2]
    by_cases h1 : j < o
    · simp [h1, show j < o + 1 by omega, show ¬ o = j by omega, show j < o + 1 + vs.length by omega, show j < o + (vs.length + 1) by omega]
    · by_cases h2 : j = o
      · subst h2; simp [show j < cs.length by omega, show j < j + 1 + vs.length by omega]
      · by_cases h3 : j < o + 1 + vs.length
        · have e3 : j - o = (j - (o + 1)) + 1 := by omega
          simp [h1, h3, show ¬ j < o + 1 by omega, show j < o + (vs.length + 1) by omega, e3]
        · simp [h1, h3, show ¬ j < o + 1 by omega, show ¬ j < o + (vs.length + 1) by omega, show ¬ (o = o + 1 + vs.length + (j - (o + 1 + vs.length))) by omega]
          congr 1; omega

/-- cells are stored into a row that is owned -/
theorem row_store {k b E sz n' cap o : Nat} {xs vs : List Value} (hs : St K w0 w Fs) (e : Fs[k]? = some (Pc.row (some ⟨b, 0, none⟩) cap E sz n' xs)) (h1 : vs.all Value.oneCell' = true) (hl : o + vs.length ≤ xs.length) :
    ∃ w', (storeCells ⟨b, o, none⟩ vs).run P w = .ok () w' ∧ St K w0 w' (Fs.set k (Pc.row (some ⟨b, 0, none⟩) cap E sz n' (xs.take o ++ vs ++ xs.drop (o + vs.length)))) := by
  obtain ⟨S, hA, hSb⟩ := hs.get e
  obtain ⟨hx, hrow⟩ := hA.2
  rcases hrow with ⟨h, _⟩ | ⟨b', cap', cur, h, hb0, hg, hnc, hcm, hcs, htake⟩
  · cases h
  simp only [Value.slice.injEq, Option.some.injEq, Addr.mk.injEq, and_true] at h
  obtain ⟨hbb, hcc⟩ := h
  replace hcc := hcc.2
  subst hbb hcc
  have hlen : o + vs.length ≤ cur.toList.length := by
    have : xs.length ≤ cur.toList.length := by rw [← htake]; simp; omega
    omega
  obtain ⟨w', hr, hb', hu, hsz⟩ := run_storeCells_cl (P := P) vs cur.toList o 0 w (by simpa using hg) (by simpa using hlen) (fun u hu => List.all_eq_true.1 h1 u hu)
  refine ⟨w', hr, hs.upd1 e fun S hA hb => ⟨S, ⟨hA.1, ⟨?_, .inr ⟨b, cap, _, rfl, hb0, hb', hnc, hcm, ?_, ?_⟩⟩⟩, hu.mono fun q hq _ => (hA.1 q).2 (by subst hq; rfl), fun b hb => .inl hb⟩⟩
  · simp; omega
  · rw [Nat.add_zero, repl_eq vs _ _ hlen]; simp at hlen ⊢; omega
  · rw [Nat.add_zero, repl_eq vs _ _ hlen]
    apply List.ext_getElem?
    intro j
    have hxj : ∀ j, xs[j]? = if j < n' * sz then cur.toList[j]? else none := fun j => by rw [← htake, List.getElem?_take]
    have e2 : min o cur.toList.length = o := by omega
    have e3 : min o xs.length = o := by omega
    simp only [List.getElem?_take, List.getElem?_append, List.length_append, List.length_take, List.getElem?_drop, e2, e3, hxj]
    by_cases q1 : j < o
    · simp [q1, show j < o + vs.length by omega, show j < n' * sz by omega]
    · by_cases q2 : j < o + vs.length
      · simp [q1, q2, show j < n' * sz by omega]
      · simp [q1, q2]
        by_cases q3 : j < n' * sz
        · simp [q3, show o + vs.length + (j - (o + vs.length)) < n' * sz by omega]
        · simp [q3, show ¬ o + vs.length + (j - (o + vs.length)) < n' * sz by omega]

/-- append(s[:l], src...) where the row has room: src is read first -/
theorem ot_appendIn {d k t E sz by_ n' m c cap l b : Nat} {A : Option Addr} {xs news : List Value} (hE : elemInfo X.P t = some (E, sz, by_)) (ex : ev L x = some (.slice (some ⟨b, 0, none⟩) l cap)) (ey : ev L y = some (.slice A m c))
    (hk : Fs[k]? = some (Pc.row (some ⟨b, 0, none⟩) cap E sz n' xs)) (hnews : ∀ w, Hd X.K X.w0 w Fs → m = 0 ∨ ∃ b o, A = some ⟨b, o, none⟩ ∧ Cells w b o news) (hl : news.length = m * sz) (h1 : news.all Value.oneCell' = true) (hin : l + m ≤ n') (hcap : n' ≤ cap) (hxs : xs.length = n' * sz)
    (hd : Nat.ble (d + 1) X.n = true)
    (h : C ((d, .slice (some ⟨b, 0, none⟩) (l + m) cap) :: L) (Fs.set k (Pc.row (some ⟨b, 0, none⟩) cap E sz n' (xs.take (l * sz) ++ news ++ xs.drop ((l + m) * sz))))) :
    OT X ⟨some d, .call { callee := .builtin .append, args := #[x, y], argTypes := #[t, t] }, ty, pos, af, g⟩ L Fs C :=
  ot_eff (γ := Unit) (Φ := fun _ => True) (v := fun _ => .slice (some ⟨b, 0, none⟩) (l + m) cap) (H := fun _ => Fs.set k (Pc.row (some ⟨b, 0, none⟩) cap E sz n' (xs.take (l * sz) ++ news ++ xs.drop ((l + m) * sz)))) (fun w a hs hf => by
    obtain ⟨inf, z, hu, hi, hz, hsz, hby', hzs, hpos⟩ := elemInfo_spec hE
    have hmul : (l + m) * sz ≤ n' * sz := Nat.mul_le_mul_right _ hin
    have hms : (l + m) * sz = l * sz + m * sz := Nat.add_mul _ _ _
    obtain ⟨w', hr, hs'⟩ := row_store (P := X.P) (o := l * sz) (vs := news) hs hk h1 (by rw [hxs, hl]; omega)
    rw [hl, ← hms] at hs'
    refine ⟨(), w', ?_, hs', trivial⟩
    simp only [execOp, resolve, List.map_toArray, List.map_cons, List.map_nil, hf.ev ex, hf.ev ey, invoke, builtin, Sem.run_bind, Sem.run_pure, Result.andThen_ok]
    have hfirst : (Builtin.firstCells sz m (.slice A m c)).run X.P w = .ok news.toArray w := by
      rcases hnews w hs.hd with h0 | ⟨b', o', rfl, hcl⟩
      · subst h0
        have : news = [] := List.eq_nil_of_length_eq_zero (by simpa using hl)
        subst this
        cases A <;> simp [Builtin.firstCells, loadCells, loadCellsFrom, go_sem]
      · have := run_loadCells_list (P := X.P) w ⟨b', o', none⟩ news (fun j v hv => by rw [addr_add]; exact hcl j v hv)
        rw [hl] at this
        simpa [Builtin.firstCells] using this
    have hap : (Builtin.append_ #[t, t] ty #[.slice (some ⟨b, 0, none⟩) l cap, .slice A m c]).run X.P w = .ok (.slice (some ⟨b, 0, none⟩) (l + m) cap) w' := by
      have hroom : l + m ≤ cap := by omega
      simp [Builtin.append_, run_underlying hu, run_sizeOf hi, hsz, Builtin.lenOf, hroom, hfirst, addr_add, hr, Sem.run_bind, Sem.run_pure, Result.andThen_ok]
    rw [hap]; rfl) hd fun _ _ => h

/-- clear(s[l:h]) in a row of one's own -/
theorem ot_clear {k t E sz by_ n' cap c l m b : Nat} {A : Option Addr} {xs : List Value} {z : Value} (hE : elemInfo X.P t = some (E, sz, by_)) (hz0 : zeroB X.P E = some z) (ex : ev L x = some (.slice A m c))
    (hk : Fs[k]? = some (Pc.row (some ⟨b, 0, none⟩) cap E sz n' xs)) (hA : m = 0 ∨ A = some ⟨b, l * sz, none⟩) (hin : l + m ≤ n') (hxs : xs.length = n' * sz) (hz1 : z.cells.toList.all Value.oneCell' = true)
    (h : C L (Fs.set k (Pc.row (some ⟨b, 0, none⟩) cap E sz n' (xs.take (l * sz) ++ (Builtin.zeroCells z.cells m).toList ++ xs.drop ((l + m) * sz))))) :
    OT X ⟨none, .call { callee := .builtin .clear, args := #[x], argTypes := #[t] }, ty, pos, af, g⟩ L Fs C := fun w a hs hf N Q hN => by
  obtain ⟨inf, z', hu, hi, hz, hsz, hby', hzs, hpos⟩ := elemInfo_spec hE
  have hzz : z' = z := by
    unfold zeroB at hz0; rw [hi] at hz0; simp [hz] at hz0; exact hz0
  subst hzz
  have hmul : (l + m) * sz ≤ n' * sz := Nat.mul_le_mul_right _ hin
  have hms : (l + m) * sz = l * sz + m * sz := Nat.add_mul _ _ _
  have hlen : (Builtin.zeroCells z'.cells m).toList.length = m * sz := by simp [Builtin.zeroCells, hzs]
  have h1 : (Builtin.zeroCells z'.cells m).toList.all Value.oneCell' = true := by
    rw [List.all_eq_true]
    intro u hu
    simp only [Builtin.zeroCells, Array.toList_map, List.mem_map] at hu
    obtain ⟨j, _, rfl⟩ := hu
    have hlt : j % z'.cells.size < z'.cells.size := Nat.mod_lt _ (by omega)
    have := List.all_eq_true.1 hz1 (z'.cells[j % z'.cells.size]'hlt) (by simp)
    rw [getElem!_pos z'.cells (j % z'.cells.size) hlt]
    exact this
  obtain ⟨w', hr, hs'⟩ := row_store (P := X.P) (o := l * sz) (vs := (Builtin.zeroCells z'.cells m).toList) hs hk h1 (by rw [hlen, hxs]; omega)
  rw [hlen, ← hms] at hs'
  have hrun : (Builtin.clear_ #[t] ty #[.slice A m c]).run X.P w = .ok (.tuple #[]) w' := by
    have hzr := run_zero (P := X.P) hz0 w
    by_cases hm : m = 0
    · subst hm
      have hw : w' = w := by
        have : (Builtin.zeroCells z'.cells 0).toList = [] := by simp [Builtin.zeroCells]
        rw [this] at hr
        simpa [storeCells, go_sem] using hr.symm
      subst hw
      cases A <;> simp [Builtin.clear_, run_underlying hu, go_sem]
    · obtain rfl := hA.resolve_left hm
      obtain ⟨m', rfl⟩ : ∃ m', m = m' + 1 := ⟨m - 1, by omega⟩
      simp [Builtin.clear_, run_underlying hu, hzr, hr, Sem.run_bind, Sem.run_pure, Result.andThen_ok]
  unfold Oper.wp
  have hx : (execOp a.eval ⟨none, .call { callee := .builtin .clear, args := #[x], argTypes := #[t] }, ty, pos, af, g⟩).run X.P w = .ok (.value (.tuple #[])) w' := by
    simp only [execOp, resolve, List.map_toArray, List.map_cons, List.map_nil, hf.ev ex, invoke, builtin, Sem.run_bind, Sem.run_pure, Result.andThen_ok, hrun]
  rw [hx, Oper.upon_value]
  exact hN _ _ h w' _ hs' hf

theorem del_eq {α : Type} (xs ys zs us : List α) {a b c : Nat} (ha : a ≤ b) (hb : b ≤ xs.length) (hc : c = a + (xs.length - b)) : (((xs.take a ++ xs.drop b ++ ys).take c ++ zs ++ us).take c) = xs.take a ++ xs.drop b := by
  have hl : (xs.take a ++ xs.drop b).length = c := by simp; omega
  have h1 : (xs.take a ++ xs.drop b ++ ys).take c = xs.take a ++ xs.drop b := by rw [List.take_append_of_le_length (by omega), List.take_of_length_le (by omega)]
  rw [h1, List.append_assoc, List.take_append_of_le_length (by omega), List.take_of_length_le (by omega)]

/-! ### guarded operations -/
def gval (ops : Array Oper) (L : List (Nat × Value)) : Option (Nat × Bool) → Option Bool
  | none => some true
  | some (j, want) => match (ops[j]?).bind (·.dst) with
    | some t => match lk L t with
      | some (.bool b) => some (b == want)
      | _ => none
    | none => none
theorem wanted_gval {a : Act} (hf : Fr n L a) {o : Oper} {b : Bool} (h : gval ops L o.guard = some b) : Region.wanted o (yielded ops a.tmps) = b := by
  unfold gval at h
  unfold Region.wanted
  split at h
  · rename_i hg; rw [hg]; simpa using h
  · rename_i j want hg
    rw [hg]
    split at h <;> try contradiction
    rename_i t ht
    split at h <;> try contradiction
    rename_i b' hb'
    simp only [Option.some.injEq] at h
    subst h
    have := hf.at_ t _ hb'
    show (yielded ops a.tmps j == some want) = _
    unfold yielded
    rw [ht]
    have h2 : a.tmps[t]? = some (.bool b') := by
      rw [Array.getD_eq_getD_getElem?] at this
      cases hh : a.tmps[t]? with
      | none => rw [hh] at this; simp [undef] at this
      | some u => rw [hh] at this; simp at this; rw [this]
    rw [Option.bind_some, h2]
    cases b' <;> cases want <;> rfl
/-- A guarded operation: what it yields, or nothing. -/
theorem GL.valG {d : Nat} {op : Op} {gd : Option (Nat × Bool)} {b : Bool} (hg : gval ops L gd = some b) (hv : b = true → RV X.P X.K X.w0 X.n L Fs op ty v) (hd : Nat.ble (d + 1) X.n = true) (h : GL X ops rest Q ((d, bif b then v else undef) :: L) Fs) :
    GL X ops (⟨some d, op, ty, pos, af, gd⟩ :: rest) Q L Fs := fun w a hs hf => by
  have hw := wanted_gval (o := ⟨some d, op, ty, pos, af, gd⟩) hf hg
  refine wpList_step fun N hN => ?_
  rw [hw]
  cases b with
  | true =>
    rw [if_pos rfl]
    unfold Oper.wp
    rw [hv rfl w a hs.hd hf, Oper.upon_value]
    exact hN _ _ (h w _ hs (hf.put (Nat.le_of_ble_eq_true hd) v))
  | false =>
    rw [if_neg (by simp)]
    exact hN _ _ (h w _ hs (hf.put (Nat.le_of_ble_eq_true hd) undef))
theorem rv_pick {c : Operand} {b : Bool} {u v : Value} (ec : ev L c = some (.bool b)) (ex : ev L x = some u) (ey : ev L y = some v) : RV P K w0 n L Fs (.pick c x y) ty (bif b then u else v) := fun w a hs hf d pos af g => by
  simp only [execOp, hf.ev ec, hf.ev ex, hf.ev ey, asBool, Sem.run_bind, Sem.run_pure, Result.andThen_ok]
  cases b <;> rfl
theorem rv_pickAnd {c : Operand} {b r : Bool} {u : Value} (ec : ev L c = some (.bool b)) (ex : ev L x = some (bif (b == true) then .bool r else u)) (ey : ev L y = some (.bool false)) : RV P K w0 n L Fs (.pick c x y) ty (.bool (b && r)) := by
  have := rv_pick (P := P) (K := K) (w0 := w0) (n := n) (Fs := Fs) (ty := ty) ec ex ey
  cases b <;> exact this
theorem rv_pickOr {c : Operand} {b r : Bool} {u : Value} (ec : ev L c = some (.bool b)) (ex : ev L x = some (.bool true)) (ey : ev L y = some (bif (b == false) then .bool r else u)) : RV P K w0 n L Fs (.pick c x y) ty (.bool (b || r)) := by
  have := rv_pick (P := P) (K := K) (w0 := w0) (n := n) (Fs := Fs) (ty := ty) ec ex ey
  cases b <;> exact this
theorem rv_max0 {t : TypeId} {a b : Int} (hu : P.underlying t = some (.int .i64)) (ex : ev L x = some (.int .i64 a)) (ey : ev L y = some (.int .i64 b)) : RV P K w0 n L Fs (.call { callee := .builtin .max, args := #[x, y], argTypes := #[t, t] }) ty (.int .i64 (max a b)) := fun w a' hs hf d pos af g => by
  simp only [execOp, resolve, List.map_toArray, List.map_cons, List.map_nil, hf.ev ex, hf.ev ey]
  have : (Builtin.max_ #[t, t] ty #[.int .i64 a, .int .i64 b]).run P w = .ok (.int .i64 (max a b)) w := by
    have e : (if b > a then b else a) = max a b := by rw [Int.max_def]; split <;> split <;> omega
    simp [Builtin.max_, Builtin.max2, e, go_sem]
  simp only [invoke, builtin, Sem.run_bind, Sem.run_pure, Result.andThen_ok, this]
theorem run_eqPtrNil {t e : TypeId} {ad : Addr} (hu : P.underlying t = some (.pointer e)) (w : World) : (Op.equal t (.pointer (some ad)) (.pointer none)).run P w = .ok false w := by
  unfold Op.equal
  rw [show Op.maxDepth = 9999 + 1 from rfl]
  unfold Op.equalIn
  rw [Sem.run_bind, run_underlying hu]; rfl
theorem rv_ptrNil {t t' e : TypeId} {ad : Addr} (ex : ev L x = some (.pointer (some ad))) (ey : ev L y = some (.pointer none)) (hu : P.underlying t = some (.pointer e)) : RV P K w0 n L Fs (.binOp .eql t x y t') ty (.bool false) :=
  rv_bin ex ey fun w => by
    have e1 : (eqGuard .eql t x y (.pointer (some ad)) (.pointer none)).run P w = .ok () w := rfl
    have e2 : binOp .eql t (.pointer (some ad)) (.pointer none) = (do pure (.bool (← Op.equal t (.pointer (some ad)) (.pointer none)))) := rfl
    rw [Sem.run_bind, e1, Result.andThen_ok, e2, Sem.run_bind, run_eqPtrNil hu w]; rfl
theorem run_eqBool {t : TypeId} {a b : Bool} (hu : P.underlying t = some .bool) (w : World) : (Op.equal t (.bool a) (.bool b)).run P w = .ok (decide (a = b)) w := by
  unfold Op.equal
  rw [show Op.maxDepth = 9999 + 1 from rfl]
  unfold Op.equalIn
  rw [Sem.run_bind, run_underlying hu]
  cases a <;> cases b <;> rfl
/-- a slice against nil -/
theorem rv_slNil {t t' E : TypeId} {A : Option Addr} {l c : Nat} (hu : P.underlying t = some (.slice E)) (ex : ev L x = some (.slice A l c)) (ey : ev L y = some (.slice none 0 0)) : RV P K w0 n L Fs (.binOp .eql t x y t') ty (.bool A.isNone) :=
  rv_bin ex ey fun w => by
    have e1 : (eqGuard .eql t x y (.slice A l c) (.slice none 0 0)).run P w = .ok () w := rfl
    have e2 : binOp .eql t (.slice A l c) (.slice none 0 0) = (do pure (.bool (← Op.equal t (.slice A l c) (.slice none 0 0)))) := rfl
    have e3 : (Op.equal t (.slice A l c) (.slice none 0 0)).run P w = .ok A.isNone w := by
      unfold Op.equal
      rw [show Op.maxDepth = 9999 + 1 from rfl]
      unfold Op.equalIn
      rw [Sem.run_bind, run_underlying hu]
      cases A <;> rfl
    rw [Sem.run_bind, e1, Result.andThen_ok, e2, Sem.run_bind, e3]; rfl
theorem rv_slNotNil {t t' E : TypeId} {A : Option Addr} {l c : Nat} (hu : P.underlying t = some (.slice E)) (ex : ev L x = some (.slice A l c)) (ey : ev L y = some (.slice none 0 0)) : RV P K w0 n L Fs (.binOp .neq t x y t') ty (.bool A.isSome) :=
  rv_bin ex ey fun w => by
    have e1 : (eqGuard .neq t x y (.slice A l c) (.slice none 0 0)).run P w = .ok () w := rfl
    have e2 : binOp .neq t (.slice A l c) (.slice none 0 0) = (do pure (.bool (!(← Op.equal t (.slice A l c) (.slice none 0 0))))) := rfl
    have e3 : (Op.equal t (.slice A l c) (.slice none 0 0)).run P w = .ok A.isNone w := by
      unfold Op.equal
      rw [show Op.maxDepth = 9999 + 1 from rfl]
      unfold Op.equalIn
      rw [Sem.run_bind, run_underlying hu]
      cases A <;> rfl
    rw [Sem.run_bind, e1, Result.andThen_ok, e2, Sem.run_bind, e3]; cases A <;> rfl
end Go.Bz
