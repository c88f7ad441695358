/- zint.two: a power of 2 as words of its own. -/
import Derived.Outline
import Derived.Test.YtmbmbmkmjbpcpaaZGK
import Derived.Test.YtmbmbmkmjbpcpaaPAx0K
import Derived.Test.YtmbmbmkmjbpcpaaPAx13K
import Derived.Test.YtmbmbmkmjbpcpaaZFK
namespace Go.Proofs.Ytmbmbmkmjbpcpaa.PA
open Go Go.Proofs.Ytmbmbmkmjbpcpaa.Nums Go.RowKit Go.Proofs.YtmbmbmkmjbpcpaaW.PrintWords Go.Proofs.YtmbmbmkmjbpcpaaW.PrintLast Go.Proofs.YtmbmbmkmjbpcpaaW.PrintMore
set_option linter.unusedVariables false
section
variable {a : Act} {o : Oper} {W : World} {p q : Operand}
end
section
variable {a : Act} {o : Oper} {W : World} {p q : Operand}
end
end Go.Proofs.Ytmbmbmkmjbpcpaa.PA


/- The walks of Top and of the reference's Two. -/
namespace Go.Proofs.Ytmbmbmkmjbpcpaa.PA
open Go Go.Proofs.Ytmbmbmkmjbpcpaa.Nums Go.RowKit Go.Proofs.YtmbmbmkmjbpcpaaW.PrintWords Go.Proofs.YtmbmbmkmjbpcpaaW.PrintLast Go.Proofs.YtmbmbmkmjbpcpaaW.PrintMore
set_option linter.unusedVariables false
set_option linter.unusedSimpArgs false
theorem Bd.two {E k : Nat} (h : E < k) : Bd k (2 ^ E) := by
  unfold Bd
  rw [Int.natAbs_pow]
  exact Nat.pow_lt_pow_right (by decide) h
end Go.Proofs.Ytmbmbmkmjbpcpaa.PA

