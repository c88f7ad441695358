/- The printed Cmp, less, Sub of layer 1 as numbers; for limbs that are 32-bit words, of lengths below the bounds that each lemma names. -/
import Derived.Test.YtmbmbmkmjbpcpaaNatAK
import Derived.Test.YtmbmbmkmjbpcpaaPAx2K
import Derived.Test.YtmbmbmkmjbpcpaaPAx3K
namespace Go.Proofs.Ytmbmbmkmjbpcpaa.PA
open Go Go.RowKit Go.Proofs.YtmbmbmkmjbpcpaaW.PrintWords Go.Proofs.YtmbmbmkmjbpcpaaW.PrintLast Go.Proofs.YtmbmbmkmjbpcpaaW.PrintMore
open Go.Proofs.Ytmbmbmkmjbpcpaa.Nums

/-! ### differences -/
theorem borrow {B v : Int} (h0 : -4294967296 ≤ v) (h1 : v < 4294967296) : B * ((v % 18446744073709551616) % 4294967296) - 4294967296 * B * ((v % 18446744073709551616) / 9223372036854775808) = B * v := by
  have h : (v % 18446744073709551616) % 4294967296 - 4294967296 * ((v % 18446744073709551616) / 9223372036854775808) = v := by omega
  have : B * ((v % 18446744073709551616) % 4294967296) - 4294967296 * B * ((v % 18446744073709551616) / 9223372036854775808) = B * ((v % 18446744073709551616) % 4294967296 - 4294967296 * ((v % 18446744073709551616) / 9223372036854775808)) := by grind
  rw [this, h]
end Go.Proofs.Ytmbmbmkmjbpcpaa.PA

