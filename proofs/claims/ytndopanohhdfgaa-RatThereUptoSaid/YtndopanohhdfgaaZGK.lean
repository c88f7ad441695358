/- zint.word: a magnitude of at most two words as a number of 64 bits. -/
import Derived.Test.YtndopanohhdfgaaZEK
import Derived.Test.YtndopanohhdfgaaZDK
import Derived.Test.YtndopanohhdfgaaPAx0K
import Derived.Outline
namespace Go.Proofs.Ytndopanohhdfgaa.PA
open Go Go.Proofs.Ytndopanohhdfgaa.Nums Go.RowKit Go.Proofs.YtndopanohhdfgaaW.PrintWords Go.Proofs.YtndopanohhdfgaaW.PrintLast Go.Proofs.YtndopanohhdfgaaW.PrintMore
set_option linter.unusedVariables false
set_option linter.unusedSimpArgs false
theorem list_unwantU {P : Program} {a : Act} {o : Oper} {W : World} {Q : Exit → Act → World → Prop} {ops : Array Oper} {r : List Oper} {j d : Nat} {b : Bool} (hg : o.guard = some (j, b)) (hs : (ops[j]?).bind (·.dst) = some d) (he : a.tmps[d]? = some undef) (h : wpList P ops Q r (a.put o.dst undef) W) : wpList P ops Q (o :: r) a W := by
  have e : Region.wanted o (yielded ops a.tmps) = false := by
    unfold Region.wanted yielded
    rw [hg]
    simp only
    rw [hs]
    simp only [Option.bind_some, he]
    rfl
  unfold wpList
  simp only [e]
  exact h
section
variable {a : Act} {o : Oper} {W : World} {p q : Operand}
end
end Go.Proofs.Ytndopanohhdfgaa.PA


/- The walk of zint.Small. -/
namespace Go.Proofs.Ytndopanohhdfgaa.PA
open Go Go.Proofs.Ytndopanohhdfgaa.Nums Go.RowKit Go.Proofs.YtndopanohhdfgaaW.PrintWords Go.Proofs.YtndopanohhdfgaaW.PrintLast Go.Proofs.YtndopanohhdfgaaW.PrintMore
set_option linter.unusedVariables false
set_option linter.unusedSimpArgs false
end Go.Proofs.Ytndopanohhdfgaa.PA


/- More of single operations, with what they come to. -/
namespace Go.Proofs.Ytndopanohhdfgaa.PA
open Go Go.Proofs.Ytndopanohhdfgaa.Nums Go.RowKit Go.Proofs.YtndopanohhdfgaaW.PrintWords Go.Proofs.YtndopanohhdfgaaW.PrintLast Go.Proofs.YtndopanohhdfgaaW.PrintMore
set_option linter.unusedVariables false
section
variable {a : Act} {o : Oper} {W : World} {p q : Operand}
theorem run_sub' {x y z : Int} (h : wrap64 (x - y) = z) (ho : o.op = .binOp .sub 3 p q 3) (he : a.eval p = .int .i64 x) (he2 : a.eval q = .int .i64 y) : (execOp a.eval o).run Try.prog W = .ok (.value (.int .i64 z)) W := by
  subst h
  exact run_sub ho he he2
end
theorem val_drop_cons {l : List Int} {j : Nat} (hj : j < l.length) : val (l.drop j) = l.getD j 0 + 4294967296 * val (l.drop (j + 1)) := by
  rw [List.drop_eq_getElem_cons hj]
  simp only [val]
  rw [show l.getD j 0 = l[j] by simp [List.getD, hj]]
end Go.Proofs.Ytndopanohhdfgaa.PA

