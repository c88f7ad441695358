/- Greatest common divisors and square roots of numbers of words, of the program and of the reference; for lists of at most 10000000 limbs. -/
import Derived.Test.YtmbmbmkmjbpcpaaNatDivK
import Derived.Test.YtmbmbmkmjbpcpaaPAx14K
import Derived.Test.YtmbmbmkmjbpcpaaPAx16K
import Derived.Test.YtmbmbmkmjbpcpaaPAx17K
import Derived.Test.YtmbmbmkmjbpcpaaPAx2K
namespace Go.Proofs.Ytmbmbmkmjbpcpaa.PA
open Go Go.RowKit Go.Proofs.YtmbmbmkmjbpcpaaW.PrintWords Go.Proofs.YtmbmbmkmjbpcpaaW.PrintLast Go.Proofs.YtmbmbmkmjbpcpaaW.PrintMore
open Go.Proofs.Ytmbmbmkmjbpcpaa.Nums
set_option linter.unusedVariables false
/-! ### roots -/
end Go.Proofs.Ytmbmbmkmjbpcpaa.PA

