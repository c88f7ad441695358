-- printed by a program of this session
import Derived.Test.YtmbmbmkmjbpcpaaPAx0K
import Derived.Test.YtmbmbmkmjbpcpaaPAx3K
import Derived.Test.YtmbmbmkmjbpcpaaPAx15K
namespace Go.Proofs.Ytmbmbmkmjbpcpaa.PA
open Go.RowKit Go.Proofs.YtmbmbmkmjbpcpaaW.PrintWords Go.Proofs.YtmbmbmkmjbpcpaaW.PrintLast Go.Proofs.YtmbmbmkmjbpcpaaW.PrintMore
attribute [local go_sem] max2_int min2_int max_two min_two max_three min_three max_four min_four   -- for this text's walks alone
set_option linter.unusedVariables false
set_option linter.unusedSimpArgs false

-- NOT PRINTED: function 55 (trammelref02_Floor)

-- NOT PRINTED: function 91 (trammelref02_Two)

-- NOT PRINTED: function 50 (trammelref02_Top)

-- NOT PRINTED: function 8 (trammellaw02_ZintTops)

-- NOT PRINTED: function 51 (zint_Floor)

-- NOT PRINTED: function 52 (zint_Near)

-- NOT PRINTED: function 53 (zint_Exact)

-- NOT PRINTED: function 54 (trammelref02_Exact)

-- NOT PRINTED: function 56 (trammelref02_Near)

-- NOT PRINTED: function 9 (trammellaw02_ZintQuotients)

-- NOT PRINTED: function 57 (zint_Gcd)

-- NOT PRINTED: function 58 (trammelref02_Gcd)

-- NOT PRINTED: function 59 (zint_Bezout)

-- NOT PRINTED: function 60 (trammelref02_Bezout)

-- NOT PRINTED: function 10 (trammellaw02_ZintDivisors)

-- NOT PRINTED: function 61 (zint_Power)

-- NOT PRINTED: function 62 (trammelref02_Power)

-- NOT PRINTED: function 63 (zint_Shift)

-- NOT PRINTED: function 64 (trammelref02_Shift)

-- NOT PRINTED: function 11 (trammellaw02_ZintPowers)

-- NOT PRINTED: function 12 (trammellaw02_ZintRests)

-- NOT PRINTED: function 65 (trammellaw02_room)

-- NOT PRINTED: function 66 (trammellaw02_spoil)

-- NOT PRINTED: function 67 (trammellaw02_quiet)

-- NOT PRINTED: function 13 (trammellaw02_ZintMemory)

-- NOT PRINTED: function 14 (trammellaw02_ZintBack)

end Go.Proofs.Ytmbmbmkmjbpcpaa.PA

