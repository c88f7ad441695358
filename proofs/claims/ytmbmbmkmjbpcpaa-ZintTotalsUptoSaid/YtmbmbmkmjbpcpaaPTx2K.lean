-- printed by a program of this session
import Derived.Test.YtmbmbmkmjbpcpaaPTx0K
namespace Go.Proofs.Ytmbmbmkmjbpcpaa.PT
open Go.RowKit Go.Proofs.YtmbmbmkmjbpcpaaW.PrintWords Go.Proofs.YtmbmbmkmjbpcpaaW.PrintLast Go.Proofs.YtmbmbmkmjbpcpaaW.PrintMore
attribute [local go_sem] max2_int min2_int max_two min_two max_three min_three max_four min_four   -- for this text's walks alone
set_option linter.unusedVariables false
set_option linter.unusedSimpArgs false

-- NOT PRINTED: function 69 (zint_made)

-- NOT PRINTED: function 95 (nat_trim)

-- NOT PRINTED: function 127 (nat_trim_own)

-- NOT PRINTED: function 70 (nat_Add)

-- NOT PRINTED: function 71 (nat_Cmp)

-- NOT PRINTED: function 96 (nat_less)

-- NOT PRINTED: function 72 (nat_Sub)

-- NOT PRINTED: function 80 (trammelref01_Norm)

-- NOT PRINTED: function 73 (trammelref02_made)

-- NOT PRINTED: function 97 (trammelref01_most)

-- NOT PRINTED: function 98 (trammelref01_limb)

-- NOT PRINTED: function 74 (trammelref01_Add)

-- NOT PRINTED: function 75 (trammelref01_Cmp)

-- NOT PRINTED: function 99 (trammelref01_less)

-- NOT PRINTED: function 76 (trammelref01_Sub)

end Go.Proofs.Ytmbmbmkmjbpcpaa.PT

