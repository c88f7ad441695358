/- The reference's product as numbers. -/
import Derived.Test.YtndopanohhdfgaaNatR1K
import Derived.Test.YtndopanohhdfgaaPAx12K
namespace Go.Proofs.Ytndopanohhdfgaa.PA
open Go Go.RowKit Go.Proofs.YtndopanohhdfgaaW.PrintWords Go.Proofs.YtndopanohhdfgaaW.PrintLast Go.Proofs.YtndopanohhdfgaaW.PrintMore
open Go.Proofs.Ytndopanohhdfgaa.Nums

end Go.Proofs.Ytndopanohhdfgaa.PA

