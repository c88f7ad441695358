/- Plain lemmas on powers, and products of numbers written as limbs. -/
import Derived.Laws.BitsLemmas
import Derived.Test.YtndopanohhdfgaaNatR3K
import Derived.Test.YtndopanohhdfgaaNatBitsK
import Derived.Test.YtndopanohhdfgaaNatBK
import Derived.Test.YtndopanohhdfgaaPAx12K
import Derived.Test.YtndopanohhdfgaaPAx16K
namespace Go.Proofs.Ytndopanohhdfgaa.PA
open Go Go.RowKit Go.Proofs.YtndopanohhdfgaaW.PrintWords Go.Proofs.YtndopanohhdfgaaW.PrintLast Go.Proofs.YtndopanohhdfgaaW.PrintMore
open Go.Proofs.Ytndopanohhdfgaa.Nums

theorem pow_one_le {b : Int} (hb : 1 ≤ b) (n : Nat) : 1 ≤ b ^ n := by
  have := Int.pow_pos (n := b) (m := n) (by omega)
  omega
theorem le_mul_right {x y : Int} (hx : 0 ≤ x) (hy : 1 ≤ y) : x ≤ x * y := by
  have : x * 1 ≤ x * y := Int.mul_le_mul_of_nonneg_left hy hx
  omega
theorem bl_len {l : List Int} (ho : Ok l) {N : Nat} (hl : l.length ≤ N) : bl (val l).toNat ≤ 32 * N := by
  apply bl_le
  rw [pow32]
  have h1 := val_lt ho
  have h2 := Bp_le hl
  rw [Bp_nat N] at h2
  have := val_nonneg ho
  omega
end Go.Proofs.Ytndopanohhdfgaa.PA

