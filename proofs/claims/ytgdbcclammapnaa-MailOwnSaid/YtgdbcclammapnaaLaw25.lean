/- Parcels, plain and as they lie. -/
import Derived.Test.YtgdbcclammapnaaFz
set_option linter.unusedVariables false
set_option linter.unusedSimpArgs false
namespace Ml
open Go Go.Bz
abbrev Pp := Int × Int × List UInt8
abbrev Pv := Pp × (Option Addr × Nat)
def pcell (q : Pv) : List Value := [.int .i64 q.1.1, .int .i64 q.1.2.1, .slice q.2.1 q.1.2.2.length q.2.2]
def pcs (ps : List Pv) : List Value := ps.flatMap pcell
def bfact (q : Pv) : Fact := (q.2.1, byts q.1.2.2)
def pfs (A : Option Addr) (ps : List Pv) : List Fact := (A, pcs ps) :: ps.map bfact
def pl (ps : List Pv) : List Pp := ps.map (·.1)
theorem pl_len (ps : List Pv) : (pl ps).length = ps.length := by simp [pl]
theorem pcs_len (ps : List Pv) : (pcs ps).length = ps.length * 3 := by
  induction ps with
  | nil => rfl
  | cons q ps ih => simp only [pcs, List.flatMap_cons, List.length_append, pcell, List.length_cons, List.length_nil] at *; omega
theorem pcs_one (ps : List Pv) : (pcs ps).all Value.oneCell' = true := by
  simp [pcs, pcell, Value.oneCell']
theorem pcs_app (ps qs : List Pv) : pcs (ps ++ qs) = pcs ps ++ pcs qs := by simp [pcs]
theorem pcs_get : ∀ (ps : List Pv) (j : Nat) (h : j < ps.length) (i : Nat), i < 3 → (pcs ps)[j * 3 + i]? = (pcell ps[j])[i]?
  | q :: ps, 0, h, i, hi => by
    show (pcell q ++ pcs ps)[0 * 3 + i]? = _
    rw [List.getElem?_append_left (by simp [pcell]; omega)]; simp
  | q :: ps, j + 1, h, i, hi => by
    show (pcell q ++ pcs ps)[(j + 1) * 3 + i]? = _
    rw [List.getElem?_append_right (by simp [pcell]; omega), show (j + 1) * 3 + i - (pcell q).length = j * 3 + i by simp [pcell]; omega]
    rw [pcs_get ps j (by simpa using h) i hi]; simp
theorem pcC {w : World} {b o j : Nat} {ps : List Pv} (hC : Cells w b o (pcs ps)) (h : j < ps.length) : Cells w b (o + j * 3) (pcell ps[j]) := fun i u hu => by
  have hi : i < 3 := by have := (List.getElem?_eq_some_iff.1 hu).1; simpa [pcell] using this
  rw [Nat.add_assoc]; exact hC (j * 3 + i) u (by rw [pcs_get ps j h i hi]; exact hu)
theorem pc0 {w : World} {b o j : Nat} {ps : List Pv} (hC : Cells w b o (pcs ps)) (h : j < ps.length) : w.cell? ⟨b, o + j * 3 + 0, none⟩ = some (.int .i64 ps[j].1.1) := hC (j * 3 + 0) _ (pcs_get ps j h 0 (by omega))
theorem pc1 {w : World} {b o j : Nat} {ps : List Pv} (hC : Cells w b o (pcs ps)) (h : j < ps.length) : w.cell? ⟨b, o + j * 3 + 1, none⟩ = some (.int .i64 ps[j].1.2.1) := hC (j * 3 + 1) _ (pcs_get ps j h 1 (by omega))
theorem pc2 {w : World} {b o j : Nat} {ps : List Pv} (hC : Cells w b o (pcs ps)) (h : j < ps.length) : w.cell? ⟨b, o + j * 3 + 2, none⟩ = some (.slice ps[j].2.1 ps[j].1.2.2.length ps[j].2.2) := hC (j * 3 + 2) _ (pcs_get ps j h 2 (by omega))
theorem pHead {A : Option Addr} {ps : List Pv} {w : World} (hR : SlR w A (pcs ps)) : ps.length = 0 ∨ ∃ b o, A = some ⟨b, o, none⟩ ∧ Cells w b o (pcs ps) := hR.imp (fun h => by have := congrArg List.length h; rw [pcs_len] at this; simp only [List.length_nil] at this; omega) id
theorem bmem {ps : List Pv} {j : Nat} (h : j < ps.length) (A : Option Addr) : bfact ps[j] ∈ pfs A ps := List.mem_cons_of_mem _ (List.mem_map_of_mem (List.getElem_mem h))
theorem take_succ' {α : Type} (l : List α) (j : Nat) (h : j < l.length) : l.take (j + 1) = l.take j ++ [l[j]] := by rw [List.take_succ_eq_append_getElem h]
theorem pl_get (ps : List Pv) (j : Nat) (h : j < ps.length) : (pl ps)[j]'(by rw [pl_len]; exact h) = ps[j].1 := by simp [pl]
/-! ### plain -/
def cnt (l : List Pp) (to : Int) : Nat := l.countP fun p => decide (p.2.1 = to)
theorem cnt_take (l : List Pp) (to : Int) (j : Nat) (h : j < l.length) : cnt (l.take (j + 1)) to = cnt (l.take j) to + (if l[j].2.1 = to then 1 else 0) := by
  unfold cnt; rw [take_succ' l j h, List.countP_append]; simp [List.countP_cons]
theorem cnt_le (l : List Pp) (to : Int) : cnt l to ≤ l.length := List.countP_le_length
def zero : Pp := (0, 0, [])
/-- which parcel a number means -/
def place (l : List Pp) (n : Int) : Int × Int := if l.length = 0 then (0, 7) else if n < 0 then (0, 2) else (n.tmod l.length, 0)
def send (l : List Pp) (p : Pp) : List Pp × Int :=
  if p.1 < 0 ∨ 7 < p.1 ∨ p.2.1 < 0 ∨ 7 < p.2.1 then ([], 2) else if 1048576 < p.2.2.length then ([], 1) else if 256 ≤ l.length then ([], 9) else (l ++ [p], 0)
def take (l : List Pp) (n : Int) : List Pp × Pp × Int :=
  if l.length = 0 then ([], zero, 7) else if n < 0 then ([], zero, 2) else (l.eraseIdx (n.tmod l.length).toNat, l.getD (n.tmod l.length).toNat zero, 0)
def double (l : List Pp) (n : Int) : List Pp × Int :=
  if l.length = 0 then ([], 7) else if n < 0 then ([], 2) else send l (l.getD (n.tmod l.length).toNat zero)
theorem tm_lt {n : Int} {m : Nat} (h0 : ¬ m = 0) (h : ¬ n < 0) : 0 ≤ n.tmod m ∧ n.tmod m < m ∧ (n.tmod m).toNat < m ∧ ((n.tmod m).toNat : Int) = n.tmod m := by
  have h1 : 0 ≤ n.tmod m := Int.tmod_nonneg _ (by omega : 0 ≤ n)
  have h2 : n.tmod m < m := Int.tmod_lt_of_pos _ (by omega : (0 : Int) < (m : Int))
  refine ⟨h1, h2, by omega, by omega⟩
theorem take_err {l : List Pp} {z : Int} (h : (place l z).2 ≠ 0) : take l z = ([], zero, (place l z).2) := by
  unfold place take at *
  split
  · rfl
  · split
    · rfl
    · rename_i h0 h1
      rw [if_neg h0, if_neg h1] at h; exact absurd rfl h
theorem double_err {l : List Pp} {z : Int} (h : (place l z).2 ≠ 0) : double l z = ([], (place l z).2) := by
  unfold place double at *
  split
  · rfl
  · split
    · rfl
    · rename_i h0 h1
      rw [if_neg h0, if_neg h1] at h; exact absurd rfl h
theorem place_ok {ps : List Pv} {z : Int} (h : ¬ (place (pl ps) z).2 ≠ 0) : ∃ k : Nat, ∃ hk : k < ps.length, (place (pl ps) z).1 = (k : Int) ∧ take (pl ps) z = ((pl ps).eraseIdx k, ps[k].1, 0) ∧ double (pl ps) z = send (pl ps) ps[k].1 := by
  have hpl := pl_len ps
  unfold place at h
  unfold place take double
  rw [hpl] at h ⊢
  by_cases h0 : ps.length = 0
  · rw [if_pos h0] at h; simp at h
  · rw [if_neg h0] at h
    by_cases h1 : z < 0
    · rw [if_pos h1] at h; simp at h
    · obtain ⟨_, _, h4, h5⟩ := tm_lt h0 h1
      simp only [if_neg h0, if_neg h1]
      refine ⟨_, h4, h5.symm, ?_, ?_⟩
      · rw [List.getD_eq_getElem?_getD, List.getElem?_eq_getElem (by rw [hpl]; exact h4), pl_get ps _ h4]; rfl
      · rw [List.getD_eq_getElem?_getD, List.getElem?_eq_getElem (by rw [hpl]; exact h4), pl_get ps _ h4]; rfl
end Ml
