/- The inner shifts of the program, the reference's power of two and its shift to the right, for lists of at most 1000000000 limbs. -/
import Derived.Laws.BitsLemmas
import Derived.Test.YtmbmbmkmjbpcpaaNatPowAK
import Derived.Test.YtmbmbmkmjbpcpaaNatShortK
import Derived.Test.YtmbmbmkmjbpcpaaNatR2K
import Derived.Test.YtmbmbmkmjbpcpaaPAx11K
import Derived.Test.YtmbmbmkmjbpcpaaPAx12K
import Derived.Test.YtmbmbmkmjbpcpaaPAx13K
import Derived.Test.YtmbmbmkmjbpcpaaPAx14K
namespace Go.Proofs.Ytmbmbmkmjbpcpaa.PA
open Go Go.RowKit Go.Proofs.YtmbmbmkmjbpcpaaW.PrintWords Go.Proofs.YtmbmbmkmjbpcpaaW.PrintLast Go.Proofs.YtmbmbmkmjbpcpaaW.PrintMore
open Go.Proofs.Ytmbmbmkmjbpcpaa.Nums
set_option linter.unusedVariables false

theorem getD_set_self (l : List Int) (n : Nat) (v : Int) (h : n < l.length) : (l.set n v).getD n 0 = v := by simp [List.getD, h]
theorem getD_zeros (n j : Nat) : (List.replicate n (0 : Int)).getD j 0 = 0 := by
  simp only [List.getD]
  by_cases h : j < n
  · simp [h]
  · simp [h]
theorem drop_getD (a : List Int) (w i : Nat) : (a.drop w).getD i 0 = a.getD (i + w) 0 := by
  simp only [List.getD, List.getElem?_drop]; congr 2; omega
theorem take_len_any (a : List Int) (n : Nat) (h : a.length ≤ n) : a.take n = a := List.take_of_length_le h
theorem lm_bl_len {v : Int} (h0 : 0 ≤ v) {q : Nat} (h : bl v.toNat ≤ 32 * q) : (lm v).length ≤ q := by
  apply lm_len_le h0
  have h1 := bl_lt v.toNat
  have h2 : (2 : Nat) ^ bl v.toNat ≤ 2 ^ (32 * q) := Nat.pow_le_pow_right (by omega) h
  rw [pow32] at h2
  rw [Bp_nat]
  have h3 : ((v.toNat : Nat) : Int) < ((4294967296 ^ q : Nat) : Int) := Int.ofNat_lt.mpr (by omega)
  omega
end Go.Proofs.Ytmbmbmkmjbpcpaa.PA

