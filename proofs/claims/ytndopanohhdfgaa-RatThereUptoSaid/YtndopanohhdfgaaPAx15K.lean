-- printed by a program of this session
import Derived.Test.YtndopanohhdfgaaPAx0K
import Derived.Test.YtndopanohhdfgaaPAx9K
import Derived.Test.YtndopanohhdfgaaPAx14K
namespace Go.Proofs.Ytndopanohhdfgaa.PA
open Go.RowKit Go.Proofs.YtndopanohhdfgaaW.PrintWords Go.Proofs.YtndopanohhdfgaaW.PrintLast Go.Proofs.YtndopanohhdfgaaW.PrintMore
attribute [local go_sem] max2_int min2_int max_two min_two max_three min_three max_four min_four   -- for this text's walks alone
set_option linter.unusedVariables false
set_option linter.unusedSimpArgs false

-- NOT PRINTED: function 17 (trammelref03_Make)

-- NOT PRINTED: function 51 (zint_Form)

-- NOT PRINTED: function 18 (rat_Of)

-- NOT PRINTED: function 53 (trammelref03_one)

-- NOT PRINTED: function 19 (trammelref03_Of)

-- NOT PRINTED: function 4 (trammellaw03_RatMakes)

end Go.Proofs.Ytndopanohhdfgaa.PA

