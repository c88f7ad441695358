/- The reference's Cmp, Add, less, Sub as numbers; for limbs that are 32-bit words, of lengths below the bounds that each lemma names. -/
import Derived.Test.YtndopanohhdfgaaNatR1K
import Derived.Test.YtndopanohhdfgaaNatA2K
import Derived.Test.YtndopanohhdfgaaPAx12K
import Derived.Test.YtndopanohhdfgaaPAx13K
import Derived.Test.YtndopanohhdfgaaPAx17K
namespace Go.Proofs.Ytndopanohhdfgaa.PA
open Go Go.RowKit Go.Proofs.YtndopanohhdfgaaW.PrintWords Go.Proofs.YtndopanohhdfgaaW.PrintLast Go.Proofs.YtndopanohhdfgaaW.PrintMore
open Go.Proofs.Ytndopanohhdfgaa.Nums
/-! ### the reference: sums, differences -/
theorem addB {P B c m q v x y S T : Int} (inv : P + B * c = S + T) (hc : B * m + 4294967296 * B * q = B * v) (hv : v = c + x + y) : P + B * m + 4294967296 * B * q = S + B * x + (T + B * y) := by
  subst hv; grind
end Go.Proofs.Ytndopanohhdfgaa.PA

