-- printed by a program of this session
import Derived.Test.YtndopanohhdfgaaPAx0K
import Derived.Test.YtndopanohhdfgaaPAx9K
import Derived.Test.YtndopanohhdfgaaPAx12K
import Derived.Test.YtndopanohhdfgaaPAx13K
namespace Go.Proofs.Ytndopanohhdfgaa.PA
open Go.RowKit Go.Proofs.YtndopanohhdfgaaW.PrintWords Go.Proofs.YtndopanohhdfgaaW.PrintLast Go.Proofs.YtndopanohhdfgaaW.PrintMore
attribute [local go_sem] max2_int min2_int max_two min_two max_three min_three max_four min_four   -- for this text's walks alone
set_option linter.unusedVariables false
set_option linter.unusedSimpArgs false

-- NOT PRINTED: function 62 (trammelref02_Add)

-- NOT PRINTED: function 25 (trammelref03_Add)

-- NOT PRINTED: function 63 (trammelref03_Neg)

-- NOT PRINTED: function 26 (trammelref03_Sub)

-- NOT PRINTED: function 22 (trammelref03_Cmp)

-- NOT PRINTED: function 5 (trammellaw03_RatOrders)

-- NOT PRINTED: function 56 (rat_two)

-- NOT PRINTED: function 23 (rat_Add)

-- NOT PRINTED: function 24 (rat_Sub)

-- NOT PRINTED: function 6 (trammellaw03_RatSums)

-- NOT PRINTED: function 27 (rat_Mul)

-- NOT PRINTED: function 28 (rat_Div)

-- NOT PRINTED: function 29 (trammelref03_Mul)

-- NOT PRINTED: function 30 (trammelref03_Div)

-- NOT PRINTED: function 7 (trammellaw03_RatProducts)

-- NOT PRINTED: function 8 (trammellaw03_RatNear)

-- NOT PRINTED: function 67 (zint_Abs)

-- NOT PRINTED: function 34 (rat_Dist)

-- NOT PRINTED: function 96 (trammelref02_Sub)

-- NOT PRINTED: function 68 (trammelref02_Floor)

-- NOT PRINTED: function 36 (trammelref03_Floor)

-- NOT PRINTED: function 69 (trammelref03_Half)

-- NOT PRINTED: function 37 (trammelref03_Near)

-- NOT PRINTED: function 70 (trammelref03_Abs)

-- NOT PRINTED: function 38 (trammelref03_Dist)

-- NOT PRINTED: function 9 (trammellaw03_RatRounds)

-- NOT PRINTED: function 10 (trammellaw03_RatField)

-- NOT PRINTED: function 73 (rat_digits)

-- NOT PRINTED: function 111 (zint_nines)

-- NOT PRINTED: function 99 (zint_Read)

-- NOT PRINTED: function 74 (rat_number)

-- NOT PRINTED: function 40 (rat_Read)

-- NOT PRINTED: function 11 (trammellaw03_RatThere)

end Go.Proofs.Ytndopanohhdfgaa.PA

