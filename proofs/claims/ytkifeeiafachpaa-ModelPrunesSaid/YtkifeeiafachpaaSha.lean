/- SHA-256 of byte lists, plain. -/
import Derived.Test.YtkifeeiafachpaaMo
set_option linter.unusedVariables false
set_option linter.unusedSimpArgs false
namespace Sh
open Go Go.Bz
abbrev W := List UInt32
abbrev B := List UInt8
def rotr (x : UInt32) (r : Nat) : UInt32 := (x >>> UInt32.ofNat r) ||| (x <<< UInt32.ofNat (32 - r))
def sg0 (x : UInt32) : UInt32 := rotr x 7 ^^^ rotr x 18 ^^^ (x >>> UInt32.ofNat 3)
def sg1 (x : UInt32) : UInt32 := rotr x 17 ^^^ rotr x 19 ^^^ (x >>> UInt32.ofNat 10)
def ext1 (w : W) (t : Nat) : W := w.set t (w.getD (t - 16) 0 + sg0 (w.getD (t - 15) 0) + w.getD (t - 7) 0 + sg1 (w.getD (t - 2) 0))
def extTo (w : W) : Nat → W
  | 0 => w
  | k + 1 => ext1 (extTo w k) (16 + k)
theorem extTo_len (w : W) : ∀ k, (extTo w k).length = w.length
  | 0 => rfl
  | k + 1 => by unfold extTo ext1; rw [List.length_set]; exact extTo_len w k
/-- the words of a block, byte by byte -/
def lwTo (b : B) : Nat → W
  | 0 => List.replicate 64 0
  | i + 1 => (lwTo b i).set (i / 4) ((lwTo b i).getD (i / 4) 0 * 256 + (b.getD i 0).toUInt32)
theorem lwTo_len (b : B) : ∀ k, (lwTo b k).length = 64
  | 0 => by simp [lwTo]
  | k + 1 => by unfold lwTo; rw [List.length_set]; exact lwTo_len b k
/-- four bytes as a word -/
def word (a b c d : UInt8) : UInt32 := (a.toUInt32 <<< UInt32.ofNat 24) ||| (b.toUInt32 <<< UInt32.ofNat 16) ||| (c.toUInt32 <<< UInt32.ofNat 8) ||| d.toUInt32
def wordAt (b : B) (o : Nat) : UInt32 := word (b.getD o 0) (b.getD (o + 1) 0) (b.getD (o + 2) 0) (b.getD (o + 3) 0)
theorem word_eq (a b c d : UInt8) : word a b c d = (((0 * 256 + a.toUInt32) * 256 + b.toUInt32) * 256 + c.toUInt32) * 256 + d.toUInt32 := by
  have ha := a.toNat_lt; have hb := b.toNat_lt; have hc := c.toNat_lt; have hd := d.toNat_lt
  apply UInt32.toNat_inj.1
  have e24 : (UInt32.ofNat 24).toNat = 24 := rfl
  have e16 : (UInt32.ofNat 16).toNat = 16 := rfl
  have e8 : (UInt32.ofNat 8).toNat = 8 := rfl
  have h1 : a.toNat <<< 24 % 2 ^ 32 = a.toNat * 16777216 := by rw [Nat.shiftLeft_eq]; omega
  have h2 : b.toNat <<< 16 % 2 ^ 32 = b.toNat * 65536 := by rw [Nat.shiftLeft_eq]; omega
  have h3 : c.toNat <<< 8 % 2 ^ 32 = c.toNat * 256 := by rw [Nat.shiftLeft_eq]; omega
  unfold word
  simp only [UInt32.toNat_or, UInt32.toNat_shiftLeft, UInt8.toNat_toUInt32, e24, e16, e8]
  have o1 : a.toNat * 16777216 ||| b.toNat * 65536 = a.toNat * 16777216 + b.toNat * 65536 := by
    have := Nat.two_pow_add_eq_or_of_lt (i := 24) (b := b.toNat * 65536) (by omega) a.toNat
    rw [show (2 : Nat) ^ 24 = 16777216 from rfl] at this
    rw [Nat.mul_comm a.toNat 16777216]; exact this.symm
  have o2 : (a.toNat * 16777216 + b.toNat * 65536) ||| c.toNat * 256 = a.toNat * 16777216 + b.toNat * 65536 + c.toNat * 256 := by
    have := Nat.two_pow_add_eq_or_of_lt (i := 16) (b := c.toNat * 256) (by omega) (a.toNat * 256 + b.toNat)
    rw [show (2 : Nat) ^ 16 = 65536 from rfl] at this
    rw [show a.toNat * 16777216 + b.toNat * 65536 = 65536 * (a.toNat * 256 + b.toNat) by omega]; exact this.symm
  have o3 : (a.toNat * 16777216 + b.toNat * 65536 + c.toNat * 256) ||| d.toNat = a.toNat * 16777216 + b.toNat * 65536 + c.toNat * 256 + d.toNat := by
    have := Nat.two_pow_add_eq_or_of_lt (i := 8) (b := d.toNat) (by omega) (a.toNat * 65536 + b.toNat * 256 + c.toNat)
    rw [show (2 : Nat) ^ 8 = 256 from rfl] at this
    rw [show a.toNat * 16777216 + b.toNat * 65536 + c.toNat * 256 = 256 * (a.toNat * 65536 + b.toNat * 256 + c.toNat) by omega]; exact this.symm
  rw [show 24 % 32 = 24 from rfl, show 16 % 32 = 16 from rfl, show 8 % 32 = 8 from rfl, h1, h2, h3, o1, o2, o3]
  simp only [UInt32.toNat_add, UInt32.toNat_mul, UInt8.toNat_toUInt32]
  have e256 : (256 : UInt32).toNat = 256 := rfl
  have e0 : (0 : UInt32).toNat = 0 := rfl
  rw [e256, e0]
  omega
/-- word by word -/
def iwTo (b : B) : Nat → W
  | 0 => List.replicate 64 0
  | t + 1 => (iwTo b t).set t (wordAt b (4 * t))
theorem iwTo_len (b : B) : ∀ k, (iwTo b k).length = 64
  | 0 => by simp [iwTo]
  | k + 1 => by unfold iwTo; rw [List.length_set]; exact iwTo_len b k
theorem iwTo_zero (b : B) : ∀ k j, k ≤ j → (iwTo b k).getD j 0 = 0
  | 0, j, _ => by
    show (List.replicate 64 (0 : UInt32)).getD j 0 = 0
    rw [List.getD_eq_getElem?_getD, List.getElem?_replicate]; split <;> rfl
  | k + 1, j, h => by
    unfold iwTo
    rw [List.getD_eq_getElem?_getD, List.getElem?_set_ne (by omega), ← List.getD_eq_getElem?_getD]
    exact iwTo_zero b k j (by omega)
theorem getD_set_self {α : Type} (l : List α) (j : Nat) (a d : α) (h : j < l.length) : (l.set j a).getD j d = a := by
  rw [List.getD_eq_getElem?_getD, List.getElem?_set_self h]; rfl
theorem lw_iw (b : B) : ∀ t, t ≤ 16 → lwTo b (4 * t) = iwTo b t
  | 0, _ => rfl
  | t + 1, h => by
    have ih := lw_iw b t (by omega)
    have hl := iwTo_len b t
    show lwTo b (4 * t + 1 + 1 + 1 + 1) = _
    simp only [lwTo]
    rw [show (4 * t + 1 + 1 + 1) / 4 = t by omega, show (4 * t + 1 + 1) / 4 = t by omega, show (4 * t + 1) / 4 = t by omega, show 4 * t / 4 = t by omega, ih]
    have e : ∀ (x y : UInt32), ((iwTo b t).set t x).set t y = (iwTo b t).set t y := fun x y => List.set_set ..
    have g : ∀ (x : UInt32), ((iwTo b t).set t x).getD t 0 = x := fun x => getD_set_self _ _ _ _ (by omega)
    simp only [e, g, iwTo_zero b t t (Nat.le_refl _)]
    show _ = (iwTo b t).set t (wordAt b (4 * t))
    unfold wordAt
    rw [word_eq]
def sched (b : B) : W := extTo (iwTo b 16) 48
theorem sched_len (b : B) : (sched b).length = 64 := by unfold sched; rw [extTo_len, iwTo_len]
def K64 : W := [0x428a2f98, 0x71374491, 0xb5c0fbcf, 0xe9b5dba5, 0x3956c25b, 0x59f111f1, 0x923f82a4, 0xab1c5ed5,
  0xd807aa98, 0x12835b01, 0x243185be, 0x550c7dc3, 0x72be5d74, 0x80deb1fe, 0x9bdc06a7, 0xc19bf174,
  0xe49b69c1, 0xefbe4786, 0x0fc19dc6, 0x240ca1cc, 0x2de92c6f, 0x4a7484aa, 0x5cb0a9dc, 0x76f988da,
  0x983e5152, 0xa831c66d, 0xb00327c8, 0xbf597fc7, 0xc6e00bf3, 0xd5a79147, 0x06ca6351, 0x14292967,
  0x27b70a85, 0x2e1b2138, 0x4d2c6dfc, 0x53380d13, 0x650a7354, 0x766a0abb, 0x81c2c92e, 0x92722c85,
  0xa2bfe8a1, 0xa81a664b, 0xc24b8b70, 0xc76c51a3, 0xd192e819, 0xd6990624, 0xf40e3585, 0x106aa070,
  0x19a4c116, 0x1e376c08, 0x2748774c, 0x34b0bcb5, 0x391c0cb3, 0x4ed8aa4a, 0x5b9cca4f, 0x682e6ff3,
  0x748f82ee, 0x78a5636f, 0x84c87814, 0x8cc70208, 0x90befffa, 0xa4506ceb, 0xbef9a3f7, 0xc67178f2]
theorem K64_len : K64.length = 64 := rfl
def H0 : W := [0x6a09e667, 0xbb67ae85, 0x3c6ef372, 0xa54ff53a, 0x510e527f, 0x9b05688c, 0x1f83d9ab, 0x5be0cd19]
def xx (k w : UInt32) (v : W) : UInt32 :=
  v.getD 7 0 + (rotr (v.getD 4 0) 6 ^^^ rotr (v.getD 4 0) 11 ^^^ rotr (v.getD 4 0) 25) + ((v.getD 4 0 &&& v.getD 5 0) ^^^ ((v.getD 4 0 ^^^ 0xffffffff) &&& v.getD 6 0)) + k + w
def zz (v : W) : UInt32 := rotr (v.getD 0 0) 2 ^^^ rotr (v.getD 0 0) 13 ^^^ rotr (v.getD 0 0) 22
def mm (v : W) : UInt32 := (v.getD 0 0 &&& v.getD 1 0) ^^^ (v.getD 0 0 &&& v.getD 2 0) ^^^ (v.getD 1 0 &&& v.getD 2 0)
def rnd (k w : UInt32) (v : W) : W := [xx k w v + zz v + mm v, v.getD 0 0, v.getD 1 0, v.getD 2 0, v.getD 3 0 + xx k w v, v.getD 4 0, v.getD 5 0, v.getD 6 0]
def rounds (ws v : W) : Nat → W
  | 0 => v
  | t + 1 => rnd (K64.getD t 0) (ws.getD t 0) (rounds ws v t)
theorem rounds_len (ws v : W) (h : v.length = 8) : ∀ t, (rounds ws v t).length = 8
  | 0 => h
  | t + 1 => rfl
theorem not_xor (x : UInt32) : x ^^^ 0xffffffff = ~~~ x := by
  apply UInt32.toBitVec_inj.1
  show x.toBitVec ^^^ BitVec.allOnes 32 = ~~~ x.toBitVec
  exact BitVec.xor_allOnes
def addTo (h v : W) : Nat → W
  | 0 => h
  | i + 1 => (addTo h v i).set i ((addTo h v i).getD i 0 + v.getD i 0)
theorem addTo_len (h v : W) : ∀ k, (addTo h v k).length = h.length
  | 0 => rfl
  | k + 1 => by unfold addTo; rw [List.length_set]; exact addTo_len h v k
def compress (h : W) (b : B) : W := addTo h (rounds (sched b) h 64) 8
theorem compress_len (h : W) (b : B) : (compress h b).length = h.length := addTo_len _ _ _
def hb (m : B) : Nat → W
  | 0 => H0
  | k + 1 => compress (hb m k) ((m.drop (64 * k)).take 64)
theorem hb_len (m : B) : ∀ k, (hb m k).length = 8
  | 0 => rfl
  | k + 1 => by unfold hb; rw [compress_len]; exact hb_len m k
theorem hb_app (m x : B) : ∀ k, 64 * k ≤ m.length → hb (m ++ x) k = hb m k
  | 0, _ => rfl
  | k + 1, h => by
    unfold hb
    rw [hb_app m x k (by omega), List.drop_append_of_le_length (by omega), List.take_append_of_le_length (by rw [List.length_drop]; omega)]
/-- how many noughts stand in a pad -/
def padz (n : UInt64) : Nat := (119 - n.toNat % 64) % 64
def lenb (n : UInt64) : Nat → B
  | 0 => []
  | i + 1 => lenb n i ++ [((n * 8) >>> UInt64.ofNat (56 - 8 * i)).toUInt8]
def pad (n : UInt64) : B := 128 :: List.replicate (padz n) 0 ++ lenb n 8
theorem lenb_len (n : UInt64) : ∀ i, (lenb n i).length = i
  | 0 => rfl
  | i + 1 => by unfold lenb; rw [List.length_append, lenb_len n i]; rfl
theorem pad_len (n : UInt64) : (pad n).length = padz n + 9 := by
  unfold pad; simp [lenb_len]
theorem pad_mod (m : B) (h : m.length < 18446744073709551616) : (m ++ pad (UInt64.ofNat m.length)).length % 64 = 0 := by
  have e : (UInt64.ofNat m.length).toNat = m.length := by rw [UInt64.toNat_ofNat']; exact Nat.mod_eq_of_lt h
  rw [List.length_append, pad_len]; unfold padz; rw [e]; omega
theorem padz_go (n : UInt64) (z : Nat) (h : z ≤ padz n) : ((n + UInt64.ofNat (1 + z)) % 64 ≠ 56) ↔ z < padz n := by
  have hz : padz n < 64 := Nat.mod_lt _ (by omega)
  have e1 : (UInt64.ofNat (1 + z)).toNat = 1 + z := by rw [UInt64.toNat_ofNat']; exact Nat.mod_eq_of_lt (by omega)
  have e2 : ((n + UInt64.ofNat (1 + z)) % 64).toNat = (n.toNat + (1 + z)) % 64 := by
    rw [UInt64.toNat_mod, UInt64.toNat_add, e1]
    show (n.toNat + (1 + z)) % 18446744073709551616 % 64 = _
    omega
  have e3 : ((n + UInt64.ofNat (1 + z)) % 64 = 56) ↔ (n.toNat + (1 + z)) % 64 = 56 := by
    rw [← UInt64.toNat_inj, e2]; rfl
  rw [Ne, e3]
  unfold padz at *
  omega
def outTo (h : W) : Nat → B
  | 0 => List.replicate 32 0
  | i + 1 => (outTo h i).set i (h.getD (i / 4) 0 >>> UInt32.ofNat (24 - 8 * (i % 4))).toUInt8
theorem outTo_len (h : W) : ∀ k, (outTo h k).length = 32
  | 0 => by simp [outTo]
  | k + 1 => by unfold outTo; rw [List.length_set]; exact outTo_len h k
def fin (m : B) : W := hb m (m.length / 64)
def sum (m : B) : B := outTo (fin (m ++ pad (UInt64.ofNat m.length))) 32
theorem sum_len (m : B) : (sum m).length = 32 := outTo_len _ _
theorem eight (v : W) (h : v.length = 8) : ∃ a0 a1 a2 a3 a4 a5 a6 a7, v = [a0, a1, a2, a3, a4, a5, a6, a7] := by
  match v, h with
  | [a0, a1, a2, a3, a4, a5, a6, a7], _ => exact ⟨a0, a1, a2, a3, a4, a5, a6, a7, rfl⟩
theorem ext_step (w : W) (t : Nat) (h : 16 ≤ t) : extTo w (t + 1 - 16) = ext1 (extTo w (t - 16)) t := by
  rw [show t + 1 - 16 = (t - 16) + 1 by omega]
  show ext1 _ (16 + (t - 16)) = _
  rw [show 16 + (t - 16) = t by omega]
theorem rot_and : ∀ r : Nat, r < 32 → 0 < r → (UInt64.ofNat (18446744073709551616 - r) &&& 31).toNat = 32 - r := by decide
/-- a hash, as it lies -/
def hc (h : W) (blk : B) (hv : Nat) (n : UInt64) : List Value := ws32 h ++ (byts blk ++ [.int .i64 (hv : Int), v64 n])
theorem hc_len {h : W} {blk : B} {hv : Nat} {n : UInt64} (h8 : h.length = 8) (hb : blk.length = 64) : (hc h blk hv n).length = 74 := by unfold hc; simp [ws32_len, byts_len, h8, hb]
theorem hc_h {h : W} {blk : B} {hv : Nat} {n : UInt64} (h8 : h.length = 8) (hb : blk.length = 64) {i : Nat} (hi : i < 8) : (hc h blk hv n)[i]? = some (v32 (h.getD i 0)) := by
  unfold hc; rw [List.getElem?_append_left (by rw [ws32_len]; omega)]; exact ws32_get (by omega)
theorem hc_hs {h : W} {blk : B} {hv : Nat} {n : UInt64} (h8 : h.length = 8) (hb : blk.length = 64) : ((hc h blk hv n).drop 0).take (ws32 h).length = ws32 h := by unfold hc; simp
theorem hc_b {h : W} {blk : B} {hv : Nat} {n : UInt64} (h8 : h.length = 8) (hb : blk.length = 64) : ((hc h blk hv n).drop 8).take (byts blk).length = byts blk := by
  unfold hc; rw [List.drop_append_of_le_length (by rw [ws32_len]; omega), List.drop_of_length_le (by rw [ws32_len]; omega)]; simp
theorem hc_v {h : W} {blk : B} {hv : Nat} {n : UInt64} (h8 : h.length = 8) (hb : blk.length = 64) : (hc h blk hv n)[72]? = some (.int .i64 (hv : Int)) := by
  unfold hc; rw [List.getElem?_append_right (by rw [ws32_len]; omega), List.getElem?_append_right (by rw [ws32_len, byts_len]; omega), ws32_len, byts_len, h8, hb]; rfl
theorem hc_n {h : W} {blk : B} {hv : Nat} {n : UInt64} (h8 : h.length = 8) (hb : blk.length = 64) : (hc h blk hv n)[73]? = some (v64 n) := by
  unfold hc; rw [List.getElem?_append_right (by rw [ws32_len]; omega), List.getElem?_append_right (by rw [ws32_len, byts_len]; omega), ws32_len, byts_len, h8, hb]; rfl
theorem hc_seth {h : W} {blk : B} {hv : Nat} {n : UInt64} (h8 : h.length = 8) (hb : blk.length = 64) (i : Nat) (x : UInt32) (hi : i < 8) : (hc h blk hv n).set i (v32 x) = hc (h.set i x) blk hv n := by
  unfold hc; rw [List.set_append_left _ _ (by rw [ws32_len]; omega), ws32_set]
theorem hc_setv {h : W} {blk : B} {hv : Nat} {n : UInt64} (h8 : h.length = 8) (hb : blk.length = 64) (m : Nat) : (hc h blk hv n).set 72 (.int .i64 (m : Int)) = hc h blk m n := by
  unfold hc; rw [List.set_append_right _ _ (by rw [ws32_len]; omega), List.set_append_right _ _ (by rw [ws32_len, byts_len]; omega), ws32_len, byts_len, h8, hb]; rfl
theorem hc_setn {h : W} {blk : B} {hv : Nat} {n : UInt64} (h8 : h.length = 8) (hb : blk.length = 64) (m : UInt64) : (hc h blk hv n).set 73 (v64 m) = hc h blk hv m := by
  unfold hc; rw [List.set_append_right _ _ (by rw [ws32_len]; omega), List.set_append_right _ _ (by rw [ws32_len, byts_len]; omega), ws32_len, byts_len, h8, hb]; rfl
theorem hc_copy {h : W} {blk : B} {hv : Nat} {n : UInt64} (h8 : h.length = 8) (hb : blk.length = 64) (o : Nat) (us : B) (ho : o + us.length ≤ 64) : repl (hc h blk hv n) (8 + o) (byts us) = hc h (blk.take o ++ us ++ blk.drop (o + us.length)) hv n := by
  rw [repl_eq _ _ _ (by rw [hc_len h8 hb, byts_len]; omega), byts_len]
  unfold hc
  rw [List.take_append, List.drop_append, ws32_len, h8, List.take_of_length_le (l := ws32 h) (by rw [ws32_len]; omega), List.drop_of_length_le (l := ws32 h) (by rw [ws32_len]; omega)]
  rw [show 8 + o - 8 = o by omega, show 8 + o + us.length - 8 = o + us.length by omega, List.take_append_of_le_length (by rw [byts_len]; omega), List.drop_append_of_le_length (by rw [byts_len]; omega)]
  simp [byts]
theorem byC {w : World} {b o j : Nat} {bs : B} (hC : Cells w b o (byts bs)) (h : j < bs.length) : w.cell? ⟨b, o + j, none⟩ = some (v8 (bs.getD j 0)) :=
  hC j _ (by rw [byts_ws]; exact ws8_get h)
theorem sixteen_zero : lwTo [] 0 = List.replicate 64 0 := rfl
end Sh
namespace Sh
open Go Go.Bz
theorem pad_z (z : Nat) : byts (128 :: List.replicate z 0) ++ [v8 0] = byts (128 :: List.replicate (z + 1) 0) := by
  rw [List.replicate_succ']; simp [byts]
theorem pad_i (n : UInt64) (l : B) (i : Nat) (h : i < 8) : byts (l ++ lenb n i) ++ [v8 ((n * 8) >>> UInt64.ofNat (56 - 8 * i)).toUInt8] = byts (l ++ lenb n (i + 1)) := by
  show _ = byts (l ++ (lenb n i ++ [_])); simp [byts]
theorem shl3 (n : UInt64) : n <<< UInt64.ofNat 3 = n * 8 := by
  apply UInt64.toNat_inj.1
  rw [UInt64.toNat_shiftLeft, UInt64.toNat_mul]
  have e : (UInt64.ofNat 3).toNat % 64 = 3 := rfl
  have e8 : (8 : UInt64).toNat = 8 := rfl
  rw [e, e8, Nat.shiftLeft_eq]
/-- what a hash holds of what was written -/
structure Rep (m : B) (h : W) (blk : B) (hv : Nat) : Prop where
  h8 : h.length = 8
  bl : blk.length = 64
  hh : h = hb m (m.length / 64)
  hm : hv = m.length % 64
  hk : blk.take hv = m.drop (64 * (m.length / 64))
theorem Rep.begin : Rep [] H0 (List.replicate 64 0) 0 := ⟨rfl, by simp, rfl, rfl, by simp⟩
def blk2 (blk : B) (hv : Nat) (us : B) : B := blk.take hv ++ us ++ blk.drop (hv + us.length)
theorem blk2_len {blk : B} {hv : Nat} {us : B} (hb : blk.length = 64) (h : hv + us.length ≤ 64) : (blk2 blk hv us).length = 64 := by unfold blk2; simp; omega
theorem Rep.lt {m : B} {h : W} {blk : B} {hv : Nat} (r : Rep m h blk hv) : hv < 64 := by rw [r.hm]; exact Nat.mod_lt _ (by omega)
theorem Rep.part {m : B} {h : W} {blk us : B} {hv : Nat} (r : Rep m h blk hv) (hu : hv + us.length < 64) : Rep (m ++ us) h (blk2 blk hv us) (hv + us.length) := by
  have hv' := r.hm
  have hd : (m ++ us).length / 64 = m.length / 64 := by rw [List.length_append]; omega
  refine ⟨r.h8, blk2_len r.bl (by omega), ?_, ?_, ?_⟩
  · rw [hd, hb_app _ _ _ (by omega)]; exact r.hh
  · rw [List.length_append]; omega
  · rw [hd, List.drop_append_of_le_length (by omega), ← r.hk]
    have hb' := r.bl
    have hl : (blk.take hv ++ us).length = hv + us.length := by simp; omega
    unfold blk2; rw [List.take_append_of_le_length (by omega), List.take_of_length_le (by omega)]
theorem Rep.full {m : B} {h : W} {blk us : B} {hv : Nat} (r : Rep m h blk hv) (hu : hv + us.length = 64) : Rep (m ++ us) (compress h (blk2 blk hv us)) (blk2 blk hv us) 0 := by
  have hv' := r.hm
  have hd : (m ++ us).length / 64 = m.length / 64 + 1 := by rw [List.length_append]; omega
  have hb' := r.bl
  have hdr : (m ++ us).drop (64 * (m.length / 64)) = blk.take hv ++ us := by rw [List.drop_append_of_le_length (by omega), ← r.hk]
  refine ⟨(compress_len _ _).trans r.h8, blk2_len r.bl (by omega), ?_, ?_, ?_⟩
  · rw [hd]
    show _ = compress (hb (m ++ us) (m.length / 64)) (((m ++ us).drop (64 * (m.length / 64))).take 64)
    rw [hb_app _ _ _ (by omega), ← r.hh, hdr]
    congr 1
    unfold blk2
    rw [hu, List.drop_of_length_le (by omega), List.append_nil]
    exact (List.take_of_length_le (by simp; omega)).symm
  · rw [List.length_append]; omega
  · rw [hd, List.drop_of_length_le (by rw [List.length_append]; omega)]; rfl
theorem Rep.fin {m : B} {h : W} {blk : B} {hv : Nat} (r : Rep m h blk hv) : h = fin m := r.hh
theorem out_step (h : W) (i k : Nat) (hk : k < 4) : outTo h (4 * i + (k + 1)) = (outTo h (4 * i + k)).set (4 * i + k) (h.getD i 0 >>> UInt32.ofNat (24 - 8 * k)).toUInt8 := by
  show (outTo h (4 * i + k)).set (4 * i + k) (h.getD ((4 * i + k) / 4) 0 >>> UInt32.ofNat (24 - 8 * ((4 * i + k) % 4))).toUInt8 = _
  rw [show (4 * i + k) / 4 = i by omega, show (4 * i + k) % 4 = k by omega]
theorem ofNat_len (m us : B) : UInt64.ofNat m.length + UInt64.ofNat us.length = UInt64.ofNat (m ++ us).length := by
  rw [List.length_append, UInt64.ofNat_add]
theorem take_more (bs : B) (j k : Nat) : bs.take (j + k) = bs.take j ++ (bs.drop j).take k := by rw [List.take_add]
theorem byts_take (b : B) (k : Nat) : byts (b.take k) = (byts b).take k := by simp [byts]
theorem byts_drop (b : B) (k : Nat) : byts (b.drop k) = (byts b).drop k := by simp [byts]
theorem byts_app (a b : B) : byts (a ++ b) = byts a ++ byts b := by simp [byts]
theorem pad_eq (n : UInt64) : 128 :: List.replicate (padz n) 0 ++ lenb n 8 = pad n := rfl
end Sh
namespace Sh
open Go Go.Bz
theorem hc_one (h : W) (blk : B) (hv : Nat) (n : UInt64) : (hc h blk hv n).all Value.oneCell' = true := by
  unfold hc; rw [List.all_append, ws32_one, List.all_append, byts_one]; rfl
end Sh
