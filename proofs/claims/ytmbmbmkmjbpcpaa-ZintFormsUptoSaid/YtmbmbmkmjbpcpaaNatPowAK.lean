/- Plain lemmas on powers, and products of numbers written as limbs. -/
import Derived.Laws.BitsLemmas
import Derived.Test.YtmbmbmkmjbpcpaaNatR3K
import Derived.Test.YtmbmbmkmjbpcpaaNatBitsK
import Derived.Test.YtmbmbmkmjbpcpaaNatBK
import Derived.Test.YtmbmbmkmjbpcpaaPAx5K
import Derived.Test.YtmbmbmkmjbpcpaaPAx6K
namespace Go.Proofs.Ytmbmbmkmjbpcpaa.PA
open Go Go.RowKit Go.Proofs.YtmbmbmkmjbpcpaaW.PrintWords Go.Proofs.YtmbmbmkmjbpcpaaW.PrintLast Go.Proofs.YtmbmbmkmjbpcpaaW.PrintMore
open Go.Proofs.Ytmbmbmkmjbpcpaa.Nums

/-! ### powers -/
theorem wraps_i64 (n : Int) (h0 : 0 ≤ n) (h1 : n < 2 ^ 63) : IntKind.i64.wrap n = n := by rw [IntKind.wrap_i64]; omega
theorem and1 {x : Int} (h0 : 0 ≤ x) (h1 : x < 9223372036854775808) : Go.bits .and .i64 x 1 = x % 2 :=
  bits_mask .i64 63 (by decide) wraps_i64 1 (by decide) x h0 (by omega)
theorem lm_one : lm 1 = [1] := by
  have h : Ok [1] := by intro x hx; simp at hx; omega
  have hn : Nrm [1] := by intro x hx; simp at hx; omega
  have := lm_of h hn
  rwa [val_single] at this
theorem pow_one_le {b : Int} (hb : 1 ≤ b) (n : Nat) : 1 ≤ b ^ n := by
  have := Int.pow_pos (n := b) (m := n) (by omega)
  omega
theorem pow_le_self {b : Int} (hb : 1 ≤ b) {m n : Nat} (h : m ≤ n) : b ^ m ≤ b ^ n := by
  obtain ⟨k, rfl⟩ : ∃ k, n = m + k := ⟨n - m, by omega⟩
  rw [Int.pow_add]
  have h1 := pow_one_le hb m
  have h2 := pow_one_le hb k
  have : b ^ m * 1 ≤ b ^ m * b ^ k := Int.mul_le_mul_of_nonneg_left h2 (by omega)
  omega
theorem le_mul_left {x y : Int} (hx : 1 ≤ x) (hy : 0 ≤ y) : y ≤ x * y := by
  have : 1 * y ≤ x * y := Int.mul_le_mul_of_nonneg_right hx hy
  omega
theorem le_mul_right {x y : Int} (hx : 0 ≤ x) (hy : 1 ≤ y) : x ≤ x * y := by
  have : x * 1 ≤ x * y := Int.mul_le_mul_of_nonneg_left hy hx
  omega
theorem mul_lm {x y : Int} (hx : 0 ≤ x) (hy : 0 ≤ y) (h1 : (lm x).length ≤ 35184372088831) (h2 : (lm y).length ≤ 35184372088831) : Ev (fun k => nat_Mul.f k (lm x) (lm y)) (lm (x * y)) := by
  have := mul_f (lm x) (lm y) (lm_ok x) (lm_ok y) (by omega)
  rwa [lm_val hx, lm_val hy] at this
theorem rmul_lm {x y : Int} (hx : 0 ≤ x) (hy : 0 ≤ y) (h1 : (lm x).length ≤ 10000000000) (h2 : (lm y).length ≤ 10000000000) : Ev (fun k => trammelref01_Mul.f k (lm x) (lm y)) (lm (x * y)) := by
  have := rmul_f (lm x) (lm y) (lm_ok x) (lm_ok y) (by omega)
  rwa [lm_val hx, lm_val hy] at this
theorem pow_half (b : Int) (n : Nat) : (b * b) ^ (n / 2) * b ^ (n % 2) = b ^ n := by
  have h : b ^ n = b ^ (n / 2 + n / 2 + n % 2) := by congr 1; omega
  rw [h, Int.pow_add, Int.pow_add, Int.mul_pow]
theorem pow_boundq {a : Int} (ha : 0 ≤ a) {n q : Nat} (h : (bl a.toNat : Int) * (n : Int) ≤ 32 * (q : Int)) : a ^ n < Bp q ∨ n = 0 := by
  by_cases h0 : n = 0
  · exact .inr h0
  · left
    have h1 := bl_lt a.toNat
    have h2 : a.toNat ^ n < (2 ^ bl a.toNat) ^ n := Nat.pow_lt_pow_left h1 h0
    rw [← Nat.pow_mul] at h2
    have h3 : bl a.toNat * n ≤ 32 * q := by
      have : ((bl a.toNat * n : Nat) : Int) ≤ 32 * (q : Int) := by rw [Int.natCast_mul]; exact h
      omega
    have h4 : 2 ^ (bl a.toNat * n) ≤ 2 ^ (32 * q) := Nat.pow_le_pow_right (by omega) h3
    rw [pow32] at h4
    rw [Bp_nat]
    have h5 : a ^ n = ((a.toNat ^ n : Nat) : Int) := by
      rw [Int.natCast_pow]; congr 1; omega
    rw [h5]
    exact Int.ofNat_lt.mpr (Nat.lt_of_lt_of_le h2 h4)
theorem bl_len {l : List Int} (ho : Ok l) {N : Nat} (hl : l.length ≤ N) : bl (val l).toNat ≤ 32 * N := by
  apply bl_le
  rw [pow32]
  have h1 := val_lt ho
  have h2 := Bp_le hl
  rw [Bp_nat N] at h2
  have := val_nonneg ho
  omega
theorem bl_two {a : Int} (h : 1 < bl a.toNat) : 2 ≤ a := by
  have := le_bl (show 1 < bl a.toNat from h)
  simp at this; omega
end Go.Proofs.Ytmbmbmkmjbpcpaa.PA
