/- The contract of one digit of a quotient (nat.digit): on a window of a row of the caller's own; for rows of at most 70368744177664 words, the divisor's top word not 0, the window below the divisor times 2^32. -/
import Derived.Test.YtmbmbmkmjbpcpaaRowkK
import Derived.Test.YtmbmbmkmjbpcpaaNatDigK
import Derived.Test.YtmbmbmkmjbpcpaaPAx0K
namespace Go.Proofs.Ytmbmbmkmjbpcpaa.PA
open Go Go.Proofs.Ytmbmbmkmjbpcpaa.Nums Go.RowKit Go.Proofs.YtmbmbmkmjbpcpaaW.PrintWords Go.Proofs.YtmbmbmkmjbpcpaaW.PrintLast Go.Proofs.YtmbmbmkmjbpcpaaW.PrintMore
theorem min2_mn (k k' : IntKind) (x y : Int) : Builtin.min2 (.int k x) (.int k' y) = pure (.int k (mn x y)) := by rw [min2_int]; rfl
attribute [local go_sem] min2_mn min_two
set_option linter.unusedVariables false
set_option linter.unusedSimpArgs false
end Go.Proofs.Ytmbmbmkmjbpcpaa.PA

