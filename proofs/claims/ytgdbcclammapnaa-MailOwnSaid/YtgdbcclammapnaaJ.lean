import Derived.Test.YtgdbcclammapnaaI
set_option linter.unusedVariables false
set_option linter.unusedSimpArgs false
namespace Go.Proofs.Ytgdbcclammapnaa
open Go Go.RowKit Go.Bz

theorem send_ok {l : List Ml.Pp} {p : Ml.Pp} (h : (Ml.send l p).2 = 0) : (Ml.send l p).1 = l ++ [p] := by
  unfold Ml.send at *
  split
  · rename_i h1; rw [if_pos h1] at h; simp at h
  · rename_i h1
    rw [if_neg h1] at h
    split
    · rename_i h2; rw [if_pos h2] at h; simp at h
    · rename_i h2
      rw [if_neg h2] at h
      split
      · rename_i h3; rw [if_pos h3] at h; simp at h
      · rfl
theorem take_ok' {l : List Ml.Pp} {z : Int} (h : (Ml.take l z).2.2 = 0) : (Ml.take l z).1.length + 1 = l.length ∧ (∀ q ∈ (Ml.take l z).1, q ∈ l) ∧ (Ml.take l z).2.1 ∈ l := by
  unfold Ml.take at *
  split
  · rename_i h1; rw [if_pos h1] at h; simp at h
  · rename_i h1
    rw [if_neg h1] at h
    split
    · rename_i h2; rw [if_pos h2] at h; simp at h
    · rename_i h2
      obtain ⟨_, _, h4, _⟩ := Ml.tm_lt h1 h2
      dsimp only
      refine ⟨by rw [List.length_eraseIdx_of_lt h4]; omega, fun q hq => List.mem_of_mem_eraseIdx hq, ?_⟩
      rw [List.getD_eq_getElem?_getD, List.getElem?_eq_getElem h4]; exact List.getElem_mem h4
theorem double_ok {l : List Ml.Pp} {z : Int} (h : (Ml.double l z).2 = 0) : ∃ p ∈ l, (Ml.double l z).1 = l ++ [p] := by
  unfold Ml.double at *
  split
  · rename_i h1; rw [if_pos h1] at h; simp at h
  · rename_i h1
    rw [if_neg h1] at h
    split
    · rename_i h2; rw [if_pos h2] at h; simp at h
    · rename_i h2
      rw [if_neg h2] at h
      obtain ⟨_, _, h4, _⟩ := Ml.tm_lt h1 h2
      refine ⟨_, ?_, send_ok h⟩
      rw [List.getD_eq_getElem?_getD, List.getElem?_eq_getElem h4]; exact List.getElem_mem h4
theorem ocP {w : World} {b o j : Nat} {os : List Ov} (hC : Cells w b o (ocs os)) (h : j < os.length) : Cells w b (o + j * 5 + 2) (Ml.pcell os[j].2) := fun i u hu => by
  have hi : i < 3 := by have := (List.getElem?_eq_some_iff.1 hu).1; simpa [Ml.pcell] using this
  have e := ocs_get os j h (2 + i) (by omega)
  rw [show o + j * 5 + 2 + i = o + (j * 5 + (2 + i)) by omega]
  refine hC (j * 5 + (2 + i)) u (e.trans ?_)
  rw [← hu]; unfold ocell; rw [show 2 + i = i + 1 + 1 by omega]; rfl
theorem oc0 {w : World} {b o j : Nat} {os : List Ov} (hC : Cells w b o (ocs os)) (h : j < os.length) : w.cell? ⟨b, o + j * 5 + 0, none⟩ = some (.int .i64 os[j].1.1) := hC (j * 5 + 0) _ (ocs_get os j h 0 (by omega))
theorem oc1 {w : World} {b o j : Nat} {os : List Ov} (hC : Cells w b o (ocs os)) (h : j < os.length) : w.cell? ⟨b, o + j * 5 + 1, none⟩ = some (.int .i64 os[j].1.2) := hC (j * 5 + 1) _ (ocs_get os j h 1 (by omega))
end Go.Proofs.Ytgdbcclammapnaa
