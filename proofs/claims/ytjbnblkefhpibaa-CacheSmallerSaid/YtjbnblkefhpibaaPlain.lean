/- The cache's plain law: lists alone. -/
namespace Bc
/-- where a key stands; behind all if it stands nowhere -/
def ix : List ByteArray → ByteArray → Nat
  | [], _ => 0
  | x :: l, k => if k = x then 0 else ix l k + 1
theorem ix_le (l : List ByteArray) (k : ByteArray) : ix l k ≤ l.length := by
  induction l with
  | nil => simp [ix]
  | cons x l ih => simp only [ix, List.length_cons]; split <;> omega
theorem ix_drop (l : List ByteArray) (k : ByteArray) (i : Nat) (h : i < l.length) : ix (l.drop i) k = if k = l[i] then 0 else ix (l.drop (i + 1)) k + 1 := by
  rw [List.drop_eq_getElem_cons h, ix]
theorem ix_get (l : List ByteArray) (k : ByteArray) (h : ix l k < l.length) : l[ix l k] = k := by
  induction l with
  | nil => simp at h
  | cons x l ih =>
    by_cases e : k = x
    · subst e; simp [ix]
    · simp only [ix, e, if_false] at h ⊢
      simp only [List.length_cons] at h
      simpa using ih (by omega)
end Bc
namespace Bc
abbrev KV := List (ByteArray × Int)
def wo (l : KV) (k : ByteArray) : KV := l.filter fun p => !decide (p.1 = k)
def vl (l : KV) (k : ByteArray) : Int := l.foldl (fun a p => if p.1 = k then p.2 else a) 0
def hs (l : KV) (k : ByteArray) : Bool := l.any fun p => decide (p.1 = k)
theorem take_succ {α : Type} (l : List α) (j : Nat) (h : j < l.length) : l.take (j + 1) = l.take j ++ [l[j]] := by rw [List.take_succ_eq_append_getElem h]
theorem wo_ne (l : KV) (k : ByteArray) (j : Nat) (h : j < l.length) (e : ¬ l[j].1 = k) : wo (l.take (j + 1)) k = wo (l.take j) k ++ [l[j]] := by
  unfold wo; rw [take_succ l j h, List.filter_append]; simp [e]
theorem wo_eq (l : KV) (k : ByteArray) (j : Nat) (h : j < l.length) (e : l[j].1 = k) : wo (l.take (j + 1)) k = wo (l.take j) k := by
  unfold wo; rw [take_succ l j h, List.filter_append]; simp [e]
theorem vl_ne (l : KV) (k : ByteArray) (j : Nat) (h : j < l.length) (e : ¬ l[j].1 = k) : vl (l.take (j + 1)) k = vl (l.take j) k := by
  unfold vl; rw [take_succ l j h, List.foldl_append]; simp [e]
theorem vl_eq (l : KV) (k : ByteArray) (j : Nat) (h : j < l.length) (e : l[j].1 = k) : vl (l.take (j + 1)) k = l[j].2 := by
  unfold vl; rw [take_succ l j h, List.foldl_append]; simp [e]
theorem hs_ne (l : KV) (k : ByteArray) (j : Nat) (h : j < l.length) (e : ¬ l[j].1 = k) : hs (l.take (j + 1)) k = hs (l.take j) k := by
  unfold hs; rw [take_succ l j h, List.any_append]; simp [e]
theorem hs_eq (l : KV) (k : ByteArray) (j : Nat) (h : j < l.length) (e : l[j].1 = k) : hs (l.take (j + 1)) k = true := by
  unfold hs; rw [take_succ l j h, List.any_append]; simp [e]
theorem wo_len (l : KV) (k : ByteArray) : (wo l k).length ≤ l.length := List.length_filter_le _ _
end Bc
