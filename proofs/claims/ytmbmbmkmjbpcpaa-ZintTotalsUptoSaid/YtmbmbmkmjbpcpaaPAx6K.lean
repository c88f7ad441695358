-- printed by a program of this session
import Derived.Test.YtmbmbmkmjbpcpaaPAx0K
import Derived.Test.YtmbmbmkmjbpcpaaPAx1K
import Derived.Test.YtmbmbmkmjbpcpaaPAx3K
namespace Go.Proofs.Ytmbmbmkmjbpcpaa.PA
open Go.RowKit Go.Proofs.YtmbmbmkmjbpcpaaW.PrintWords Go.Proofs.YtmbmbmkmjbpcpaaW.PrintLast Go.Proofs.YtmbmbmkmjbpcpaaW.PrintMore
attribute [local go_sem] max2_int min2_int max_two min_two max_three min_three max_four min_four   -- for this text's walks alone
set_option linter.unusedVariables false
set_option linter.unusedSimpArgs false

-- NOT PRINTED: function 24 (trammelref02_Mul)

-- NOT PRINTED: function 27 (zint_Abs)

-- NOT PRINTED: function 28 (trammelref02_Abs)

-- NOT PRINTED: function 29 (trammellaw02_kept)

-- NOT PRINTED: function 4 (trammellaw02_ZintSums)

-- NOT PRINTED: function 30 (zint_Of)

-- NOT PRINTED: function 32 (zint_Form)

-- NOT PRINTED: function 33 (trammelref02_Norm)

-- NOT PRINTED: function 36 (zint_Sign)

end Go.Proofs.Ytmbmbmkmjbpcpaa.PA

