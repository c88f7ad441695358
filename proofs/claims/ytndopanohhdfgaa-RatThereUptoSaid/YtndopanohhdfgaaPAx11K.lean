-- printed by a program of this session
import Derived.Test.YtndopanohhdfgaaPAx0K
import Derived.Test.YtndopanohhdfgaaPAx9K
namespace Go.Proofs.Ytndopanohhdfgaa.PA
open Go.RowKit Go.Proofs.YtndopanohhdfgaaW.PrintWords Go.Proofs.YtndopanohhdfgaaW.PrintLast Go.Proofs.YtndopanohhdfgaaW.PrintMore
attribute [local go_sem] max2_int min2_int max_two min_two max_three min_three max_four min_four   -- for this text's walks alone
set_option linter.unusedVariables false
set_option linter.unusedSimpArgs false

end Go.Proofs.Ytndopanohhdfgaa.PA

