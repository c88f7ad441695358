-- printed by a program of this session
import Derived.Test.YtndopanohhdfgaaPAx0K
import Derived.Test.YtndopanohhdfgaaPAx1K
namespace Go.Proofs.Ytndopanohhdfgaa.PA
open Go.RowKit Go.Proofs.YtndopanohhdfgaaW.PrintWords Go.Proofs.YtndopanohhdfgaaW.PrintLast Go.Proofs.YtndopanohhdfgaaW.PrintMore
attribute [local go_sem] max2_int min2_int max_two min_two max_three min_three max_four min_four   -- for this text's walks alone
set_option linter.unusedVariables false
set_option linter.unusedSimpArgs false

-- NOT PRINTED: function 55 (zint_Mul)

-- NOT PRINTED: function 20 (rat_Cmp)

-- NOT PRINTED: function 65 (trammelref03_Valid)

-- NOT PRINTED: function 31 (trammellaw03_ok)

-- NOT PRINTED: function 21 (trammellaw03_both)

-- NOT PRINTED: function 61 (trammelref02_Mul)

end Go.Proofs.Ytndopanohhdfgaa.PA

