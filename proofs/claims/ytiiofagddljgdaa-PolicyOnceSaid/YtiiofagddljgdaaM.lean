import Derived.Test.YtiiofagddljgdaaL
set_option linter.unusedVariables false
set_option linter.unusedSimpArgs false
namespace Go.Proofs.Ytiiofagddljgdaa
open Go Go.RowKit Go.Bz

variable {L : List (Nat × Value)} {Fs : List Pc} {ty : TypeId} {x y : Operand}
theorem rv_neB {P : Program} {K : Nat → Prop} {w0 : World} {n : Nat} {t t' : TypeId} {a b : Bool} (ex : ev L x = some (.bool a)) (ey : ev L y = some (.bool b)) (h : ∀ w, (Op.equal t (.bool a) (.bool b)).run P w = .ok (decide (a = b)) w) : RV P K w0 n L Fs (.binOp .neq t x y t') ty (.bool (!decide (a = b))) :=
  rv_bin ex ey fun w => by
    have e1 : (eqGuard .neq t x y (.bool a) (.bool b)).run P w = .ok () w := rfl
    have e2 : binOp .neq t (.bool a) (.bool b) = (do pure (.bool (!(← Op.equal t (.bool a) (.bool b))))) := rfl
    rw [Sem.run_bind, e1, Result.andThen_ok, e2, Sem.run_bind, h w]; rfl
def two (a b : Sh.B) : List Value := ws8 a ++ ws8 b
theorem two_0 {a b : Sh.B} : ((two a b).drop 0).take (ws8 a).length = ws8 a := by unfold two; simp
theorem two_1 {a b : Sh.B} (h : a.length = 32) : ((two a b).drop 32).take (ws8 b).length = ws8 b := by
  unfold two
  have hl : (ws8 a).length = 32 := by rw [ws8_len, h]
  rw [List.drop_append, List.drop_of_length_le (by omega), hl]; simp
end Go.Proofs.Ytiiofagddljgdaa
