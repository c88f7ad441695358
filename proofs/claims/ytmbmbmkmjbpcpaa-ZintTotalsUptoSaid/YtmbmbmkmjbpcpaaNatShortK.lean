/- Quotient and rest by one limb, of the program and of the reference. -/
import Derived.Laws.BitsLemmas
import Derived.Test.YtmbmbmkmjbpcpaaNatR1K
import Derived.Test.YtmbmbmkmjbpcpaaPAx7K
import Derived.Test.YtmbmbmkmjbpcpaaPAx9K
namespace Go.Proofs.Ytmbmbmkmjbpcpaa.PA
open Go Go.RowKit Go.Proofs.YtmbmbmkmjbpcpaaW.PrintWords Go.Proofs.YtmbmbmkmjbpcpaaW.PrintLast Go.Proofs.YtmbmbmkmjbpcpaaW.PrintMore
open Go.Proofs.Ytmbmbmkmjbpcpaa.Nums

end Go.Proofs.Ytmbmbmkmjbpcpaa.PA

