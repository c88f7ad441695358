/- Lengths of sums' and products' limbs; the row's words are 32-bit words. -/
import Derived.Test.YtmbmbmkmjbpcpaaNatAK
import Derived.Test.YtmbmbmkmjbpcpaaPAx0K
namespace Go.Proofs.Ytmbmbmkmjbpcpaa.PA
open Go Go.RowKit Go.Proofs.YtmbmbmkmjbpcpaaW.PrintWords Go.Proofs.YtmbmbmkmjbpcpaaW.PrintLast Go.Proofs.YtmbmbmkmjbpcpaaW.PrintMore
open Go.Proofs.Ytmbmbmkmjbpcpaa.Nums
theorem ok_of {l : List Int} (h : ∀ x ∈ l, (Lit.int .u32 x).wf = true) : Ok l := by
  intro x hx
  have := h x hx
  simp [Lit.wf, IntKind.min, IntKind.max, IntKind.signed, IntKind.bits] at this
  omega
end Go.Proofs.Ytmbmbmkmjbpcpaa.PA

