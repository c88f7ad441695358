-- printed by a program of this session
import Derived.Test.YtmbmbmkmjbpcpaaPAx0K
import Derived.Test.YtmbmbmkmjbpcpaaPAx3K
namespace Go.Proofs.Ytmbmbmkmjbpcpaa.PA
open Go.RowKit Go.Proofs.YtmbmbmkmjbpcpaaW.PrintWords Go.Proofs.YtmbmbmkmjbpcpaaW.PrintLast Go.Proofs.YtmbmbmkmjbpcpaaW.PrintMore
attribute [local go_sem] max2_int min2_int max_two min_two max_three min_three max_four min_four   -- for this text's walks alone
set_option linter.unusedVariables false
set_option linter.unusedSimpArgs false

-- NOT PRINTED: function 20 (trammelref02_Add)

-- NOT PRINTED: function 31 (trammelref02_Of)

-- NOT PRINTED: function 18 (trammelref02_Sum)

-- NOT PRINTED: function 3 (trammellaw02_ZintTotals)

-- NOT PRINTED: function 25 (zint_Neg)

-- NOT PRINTED: function 21 (zint_Sub)

-- NOT PRINTED: function 26 (trammelref02_Neg)

-- NOT PRINTED: function 22 (trammelref02_Sub)

end Go.Proofs.Ytmbmbmkmjbpcpaa.PA

