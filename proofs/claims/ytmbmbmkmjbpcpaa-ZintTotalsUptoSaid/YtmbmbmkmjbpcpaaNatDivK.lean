/- Quotient and rest of numbers of words, of the program and of the reference; for lists of at most 1000000 limbs (the reference: 100000000). -/
import Derived.Test.YtmbmbmkmjbpcpaaDivCK
import Derived.Test.YtmbmbmkmjbpcpaaNatBK
import Derived.Test.YtmbmbmkmjbpcpaaPAx13K
import Derived.Test.YtmbmbmkmjbpcpaaPAx15K
import Derived.Test.YtmbmbmkmjbpcpaaPAx6K
namespace Go.Proofs.Ytmbmbmkmjbpcpaa.PA
open Go Go.RowKit Go.Proofs.YtmbmbmkmjbpcpaaW.PrintWords Go.Proofs.YtmbmbmkmjbpcpaaW.PrintLast Go.Proofs.YtmbmbmkmjbpcpaaW.PrintMore
open Go.Proofs.Ytmbmbmkmjbpcpaa.Nums
set_option linter.unusedVariables false
end Go.Proofs.Ytmbmbmkmjbpcpaa.PA

