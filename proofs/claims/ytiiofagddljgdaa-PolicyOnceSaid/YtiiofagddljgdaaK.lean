import Derived.Test.YtiiofagddljgdaaJ
import Derived.MapKept
set_option linter.unusedVariables false
set_option linter.unusedSimpArgs false
namespace Go.Proofs.Ytiiofagddljgdaa
open Go Go.RowKit Go.Bz
theorem zb_62 : zeroB Try.prog 62 = some (.int .u32 0) := by kernel_rfl
/-! a map that is made of known keys -/
variable {X : Cx} {L : List (Nat × Value)} {Fs : List Pc} {C : List (Nat × Value) → List Pc → Prop} {gd : Option (Nat × Bool)} {ty : TypeId} {x y i : Operand} {pos : String} {af : Array Edge}
def mapP (r : Nat) (es : List MapEntry) (clock : Nat) : Pc := .gen (fun S w => (∀ q, S q ↔ q = r) ∧ w.heap[r]? = some (.map es.toArray clock)) (fun ⟨h1, h2⟩ k => ⟨h1, by rw [k r ((h1 r).2 rfl)]; exact h2⟩)
theorem ot_makeMap {d t : Nat} (hd : Nat.ble (d + 1) X.n = true) (h : ∀ r, C ((d, .map (some r)) :: L) (mapP r [] 0 :: Fs)) : OT X ⟨some d, .makeMap t none, ty, pos, af, gd⟩ L Fs C :=
  ot_eff (γ := Nat) (Φ := fun _ => True) (v := fun r => .map (some r)) (H := fun r => mapP r [] 0 :: Fs) (fun w a hs hf => by
    refine ⟨w.heap.size, w.alloc (.map #[] 0), rfl, hs.push (.alloc w _) (S := fun q => q = w.heap.size) ⟨fun _ => Iff.rfl, heap_new w _⟩ fun b hb => by subst hb; simp, trivial⟩) hd fun r _ => h r
theorem run_ck {P : Program} {w : World} {kt : TypeId} {q : IntKind} {z : Int} (hkt : P.underlying kt = some (.int q)) (e : Bool) : (Instr.checkKey e 10000 kt (.int q z)).run P w = .ok () w := by
  rw [show 10000 = 9999 + 1 from rfl]
  unfold Instr.checkKey
  simp only [Sem.run_bind, run_underlying hkt, Result.andThen_ok]
  rfl
theorem run_fk {P : Program} {w : World} {kt : TypeId} {q : IntKind} {z : Int} {es : List MapEntry} {o : Option (Nat × Value)} (hkt : P.underlying kt = some (.int q)) (hf : Instr.findNow (.int q) (.int q z) es 0 = some o) : (Instr.findKey kt (.int q z) es).run P w = .ok o w := by
  unfold Instr.findKey
  simp only [Sem.run_bind, run_underlying hkt, Result.andThen_ok, hf]
  rfl
theorem ot_insert {k t kt et r clock : Nat} {q : IntKind} {z : Int} {val : Value} {es : List MapEntry} {m key xv : Operand} (ht : X.P.underlying t = some (.map kt et)) (hkt : X.P.underlying kt = some (.int q)) (em : ev L m = some (.map (some r))) (ek : ev L key = some (.int q z)) (ex : ev L xv = some val)
    (hk : Fs[k]? = some (mapP r es clock)) (hf : Instr.findNow (.int q) (.int q z) es 0 = some none) (h : C L (Fs.set k (mapP r (es ++ [{ key := .int q z, val := val, born := clock }]) (clock + 1)))) : OT X ⟨none, .insert t m key xv, ty, pos, af, gd⟩ L Fs C :=
  ot_eff0 (fun w a hs hfr => by
    obtain ⟨S, hA, hSb⟩ := hs.get hk
    have hb : w.heap[r]? = some (.map es.toArray clock) := hA.2
    have h1 : (getObj r).run X.P w = .ok (.map es.toArray clock) w := by simp [getObj, Sem.run, hb]
    have h2 : ∀ o, (setObj r o).run X.P w = .ok () { w with heap := w.heap.setIfInBounds r o } := fun o => by simp [setObj, Sem.run, hb]
    have hrun : (Instr.mapUpdate t (.map (some r)) (.int q z) val).run X.P w = .ok () { w with heap := w.heap.setIfInBounds r (.map (es.toArray.push { key := .int q z, val := val, born := clock }) (clock + 1)) } := by
      unfold Instr.mapUpdate
      simp only [Sem.run_bind, run_underlying ht, Result.andThen_ok, h1, run_ck hkt, run_fk hkt hf, h2]
    refine ⟨{ w with heap := w.heap.setIfInBounds r (.map (es.toArray.push { key := .int q z, val := val, born := clock }) (clock + 1)) }, ?_, hs.upd1 hk fun S hA hbb => ⟨S, ⟨hA.1, ?_⟩, ⟨rfl, rfl, rfl, by simp, fun j _ hn => ?_⟩, fun b hb => .inl hb⟩⟩
    · simp only [execOp, hfr.ev em, hfr.ev ek, hfr.ev ex, Sem.run_bind, hrun, Result.andThen_ok, Sem.run_pure]
    · have hlt : r < w.heap.size := hbb r ((hA.1 r).2 rfl)
      simp [hlt]
    · have hne : r ≠ j := fun e => hn ((hA.1 j).2 e.symm)
      simp [hne]) h
theorem rv_lookup {K : Nat → Prop} {w0 : World} {n k t kt et r clock : Nat} {P : Program} {q : IntKind} {z : Int} {es : List MapEntry} {m key : Operand} {o : Option (Nat × Value)} {zv : Value} {v : Value} {ok : Bool} (ht : P.underlying t = some (.map kt et)) (hkt : P.underlying kt = some (.int q)) (em : ev L m = some (.map (some r))) (ek : ev L key = some (.int q z))
    (hk : Fs[k]? = some (mapP r es clock)) (hz : zeroB P et = some zv) (hf : Instr.findNow (.int q) (.int q z) es 0 = some o) (ho : (match o with | some (_, u) => (u, true) | none => (zv, false)) = (v, ok)) : RV P K w0 n L Fs (.lookup t m key true) ty (.tuple #[v, .bool ok]) := fun w a hs hfr d pos af g => by
  obtain ⟨S, hA⟩ := hs.all _ _ hk
  have hb : w.heap[r]? = some (.map es.toArray clock) := hA.2
  have h1 : (getObj r).run P w = .ok (.map es.toArray clock) w := by simp [getObj, Sem.run, hb]
  have h2 := run_zero (P := P) hz w
  have hl : (Instr.lookup t (.map (some r)) (.int q z) true).run P w = .ok (.tuple #[v, .bool ok]) w := by
    unfold Instr.lookup
    simp only [Sem.run_bind, run_underlying ht, Result.andThen_ok, h1, Sem.run_pure, run_ck hkt, run_fk hkt hf]
    cases o with
    | none =>
      simp only [Prod.mk.injEq] at ho
      obtain ⟨rfl, rfl⟩ := ho
      simp only [Sem.run_bind, h2, Result.andThen_ok, Sem.run_pure, if_true]
    | some p =>
      simp only [Prod.mk.injEq] at ho
      obtain ⟨rfl, rfl⟩ := ho
      simp only [Sem.run_pure, Result.andThen_ok, if_true]
      rfl
  simp only [execOp, hfr.ev em, hfr.ev ek, Sem.run_bind, hl, Result.andThen_ok, Sem.run_pure]
def kind : Sh.B → UInt8
  | [] => 0
  | c :: r => if (c = 69 ∧ r.length = 0) ∨ ((c = 76 ∨ c = 78) ∧ r.length = 64) ∨ (c = 82 ∧ r.length = 104) ∨ (c = 86 ∧ 48 ≤ r.length ∧ r.length ≤ 1073741823) then c else 0
theorem kind_if (c : UInt8) (r : Sh.B) (p : Prop) [Decidable p] (h : ((c = 69 ∧ r.length = 0) ∨ ((c = 76 ∨ c = 78) ∧ r.length = 64) ∨ (c = 82 ∧ r.length = 104) ∨ (c = 86 ∧ 48 ≤ r.length ∧ r.length ≤ 1073741823)) ↔ p) : kind (c :: r) = if decide p = true then c else 0 := by
  rw [kind]
  by_cases hp : p
  · rw [if_pos (h.2 hp), if_pos (decide_eq_true hp)]
  · rw [if_neg (fun q => hp (h.1 q)), if_neg (by simp [hp])]

end Go.Proofs.Ytiiofagddljgdaa
