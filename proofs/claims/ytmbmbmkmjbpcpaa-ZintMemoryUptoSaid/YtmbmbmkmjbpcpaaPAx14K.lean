-- printed by a program of this session
import Derived.Test.YtmbmbmkmjbpcpaaPAx0K
import Derived.Test.YtmbmbmkmjbpcpaaPAx3K
import Derived.Test.YtmbmbmkmjbpcpaaPAx6K
import Derived.Test.YtmbmbmkmjbpcpaaPAx13K
namespace Go.Proofs.Ytmbmbmkmjbpcpaa.PA
open Go.RowKit Go.Proofs.YtmbmbmkmjbpcpaaW.PrintWords Go.Proofs.YtmbmbmkmjbpcpaaW.PrintLast Go.Proofs.YtmbmbmkmjbpcpaaW.PrintMore
attribute [local go_sem] max2_int min2_int max_two min_two max_three min_three max_four min_four   -- for this text's walks alone
set_option linter.unusedVariables false
set_option linter.unusedSimpArgs false

-- NOT PRINTED: function 46 (trammelref02_Root)

-- NOT PRINTED: function 47 (zint_Bits)

-- NOT PRINTED: function 48 (trammelref02_Bits)

-- NOT PRINTED: function 90 (zint_two)

-- NOT PRINTED: function 49 (zint_Top)

end Go.Proofs.Ytmbmbmkmjbpcpaa.PA

