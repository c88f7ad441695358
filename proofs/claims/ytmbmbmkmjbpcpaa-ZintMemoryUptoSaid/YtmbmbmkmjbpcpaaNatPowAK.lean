/- Plain lemmas on powers, and products of numbers written as limbs. -/
import Derived.Laws.BitsLemmas
import Derived.Test.YtmbmbmkmjbpcpaaNatR3K
import Derived.Test.YtmbmbmkmjbpcpaaNatBitsK
import Derived.Test.YtmbmbmkmjbpcpaaNatBK
import Derived.Test.YtmbmbmkmjbpcpaaPAx5K
import Derived.Test.YtmbmbmkmjbpcpaaPAx6K
namespace Go.Proofs.Ytmbmbmkmjbpcpaa.PA
open Go Go.RowKit Go.Proofs.YtmbmbmkmjbpcpaaW.PrintWords Go.Proofs.YtmbmbmkmjbpcpaaW.PrintLast Go.Proofs.YtmbmbmkmjbpcpaaW.PrintMore
open Go.Proofs.Ytmbmbmkmjbpcpaa.Nums

/-! ### powers -/
theorem wraps_i64 (n : Int) (h0 : 0 ≤ n) (h1 : n < 2 ^ 63) : IntKind.i64.wrap n = n := by rw [IntKind.wrap_i64]; omega
theorem and1 {x : Int} (h0 : 0 ≤ x) (h1 : x < 9223372036854775808) : Go.bits .and .i64 x 1 = x % 2 :=
  bits_mask .i64 63 (by decide) wraps_i64 1 (by decide) x h0 (by omega)
theorem pow_one_le {b : Int} (hb : 1 ≤ b) (n : Nat) : 1 ≤ b ^ n := by
  have := Int.pow_pos (n := b) (m := n) (by omega)
  omega
theorem le_mul_right {x y : Int} (hx : 0 ≤ x) (hy : 1 ≤ y) : x ≤ x * y := by
  have : x * 1 ≤ x * y := Int.mul_le_mul_of_nonneg_left hy hx
  omega
theorem bl_len {l : List Int} (ho : Ok l) {N : Nat} (hl : l.length ≤ N) : bl (val l).toNat ≤ 32 * N := by
  apply bl_le
  rw [pow32]
  have h1 := val_lt ho
  have h2 := Bp_le hl
  rw [Bp_nat N] at h2
  have := val_nonneg ho
  omega
end Go.Proofs.Ytmbmbmkmjbpcpaa.PA

