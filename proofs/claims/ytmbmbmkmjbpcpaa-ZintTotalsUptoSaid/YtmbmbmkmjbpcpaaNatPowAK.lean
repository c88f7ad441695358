/- Plain lemmas on powers, and products of numbers written as limbs. -/
import Derived.Laws.BitsLemmas
import Derived.Test.YtmbmbmkmjbpcpaaNatR3K
import Derived.Test.YtmbmbmkmjbpcpaaNatBitsK
import Derived.Test.YtmbmbmkmjbpcpaaNatBK
import Derived.Test.YtmbmbmkmjbpcpaaPAx5K
import Derived.Test.YtmbmbmkmjbpcpaaPAx6K
namespace Go.Proofs.Ytmbmbmkmjbpcpaa.PA
open Go Go.RowKit Go.Proofs.YtmbmbmkmjbpcpaaW.PrintWords Go.Proofs.YtmbmbmkmjbpcpaaW.PrintLast Go.Proofs.YtmbmbmkmjbpcpaaW.PrintMore
open Go.Proofs.Ytmbmbmkmjbpcpaa.Nums

theorem bl_len {l : List Int} (ho : Ok l) {N : Nat} (hl : l.length ≤ N) : bl (val l).toNat ≤ 32 * N := by
  apply bl_le
  rw [pow32]
  have h1 := val_lt ho
  have h2 := Bp_le hl
  rw [Bp_nat N] at h2
  have := val_nonneg ho
  omega
end Go.Proofs.Ytmbmbmkmjbpcpaa.PA

