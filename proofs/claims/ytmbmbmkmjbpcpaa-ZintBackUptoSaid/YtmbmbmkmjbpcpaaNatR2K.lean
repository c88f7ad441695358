/- The reference's Cmp, Add, less, Sub as numbers; for limbs that are 32-bit words, of lengths below the bounds that each lemma names. -/
import Derived.Test.YtmbmbmkmjbpcpaaNatR1K
import Derived.Test.YtmbmbmkmjbpcpaaNatA2K
import Derived.Test.YtmbmbmkmjbpcpaaPAx3K
import Derived.Test.YtmbmbmkmjbpcpaaPAx4K
namespace Go.Proofs.Ytmbmbmkmjbpcpaa.PA
open Go Go.RowKit Go.Proofs.YtmbmbmkmjbpcpaaW.PrintWords Go.Proofs.YtmbmbmkmjbpcpaaW.PrintLast Go.Proofs.YtmbmbmkmjbpcpaaW.PrintMore
open Go.Proofs.Ytmbmbmkmjbpcpaa.Nums
/-! ### the reference: sums, differences -/
theorem addB {P B c m q v x y S T : Int} (inv : P + B * c = S + T) (hc : B * m + 4294967296 * B * q = B * v) (hv : v = c + x + y) : P + B * m + 4294967296 * B * q = S + B * x + (T + B * y) := by
  subst hv; grind
end Go.Proofs.Ytmbmbmkmjbpcpaa.PA

