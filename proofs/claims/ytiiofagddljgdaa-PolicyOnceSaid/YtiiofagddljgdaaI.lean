import Derived.Test.YtiiofagddljgdaaH
set_option linter.unusedVariables false
set_option linter.unusedSimpArgs false
namespace Go.Proofs.Ytiiofagddljgdaa
open Go Go.RowKit Go.Bz

def rcell (e : UInt64) (p t x : Sh.B) : List Value := v64 e :: (ws8 p ++ (ws8 t ++ ws8 x))
theorem rc_p {e : UInt64} {p t x : Sh.B} (hp : p.length = 32) : ((rcell e p t x).drop 1).take (byts p).length = byts p := by
  unfold rcell; rw [List.drop_succ_cons, List.drop_zero]; exact List.take_left
theorem rc_t {e : UInt64} {p t x : Sh.B} (hp : p.length = 32) : ((rcell e p t x).drop 33).take (byts t).length = byts t := by
  unfold rcell; rw [List.drop_succ_cons, List.drop_append, List.drop_of_length_le (by rw [ws8_len]; omega), ws8_len, hp]; exact List.take_left
theorem rc_x {e : UInt64} {p t x : Sh.B} (hp : p.length = 32) (ht : t.length = 32) : ((rcell e p t x).drop 65).take (byts x).length = byts x := by
  unfold rcell
  rw [List.drop_succ_cons, List.drop_append, List.drop_of_length_le (by rw [ws8_len]; omega), ws8_len, hp, List.nil_append, List.drop_append, List.drop_of_length_le (by rw [ws8_len]; omega), ws8_len, ht, List.nil_append]
  exact List.take_of_length_le (by simp [byts, ws8])
def rbytes (e : UInt64) (p t x : Sh.B) : Sh.B := 82 :: (num e ++ (p ++ (t ++ x)))
def bcell (nm : ByteArray) (key : Sh.B) (kA : Option Addr) (kc : Nat) (ser : UInt64) : List Value := [.string nm, .slice kA key.length kc, v64 ser]
def vbytes (salt : Sh.B) (nm : ByteArray) (key : Sh.B) (ser : UInt64) : Sh.B := 86 :: (salt ++ (num (UInt64.ofNat nm.size) ++ (nm.data.toList ++ (num ser ++ key))))
end Go.Proofs.Ytiiofagddljgdaa
