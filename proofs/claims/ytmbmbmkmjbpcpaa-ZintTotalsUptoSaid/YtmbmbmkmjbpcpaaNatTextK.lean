/- Decimal texts of numbers of words, of the program and of the reference; for lists of at most 10000000 limbs. -/
import Derived.Test.YtmbmbmkmjbpcpaaNatShiftAK
import Derived.Test.YtmbmbmkmjbpcpaaPAx8K
import Derived.Test.YtmbmbmkmjbpcpaaPAx9K
namespace Go.Proofs.Ytmbmbmkmjbpcpaa.PA
open Go Go.RowKit Go.Proofs.YtmbmbmkmjbpcpaaW.PrintWords Go.Proofs.YtmbmbmkmjbpcpaaW.PrintLast Go.Proofs.YtmbmbmkmjbpcpaaW.PrintMore
open Go.Proofs.Ytmbmbmkmjbpcpaa.Nums
set_option linter.unusedVariables false
/-- i signs from either end have changed places -/
structure RV (L cur : List Int) (i : Nat) : Prop where
  len : cur.length = L.length
  at_ : ∀ j, j < L.length → cur.getD j 0 = if j < i ∨ L.length - 1 - i < j then L.getD (L.length - 1 - j) 0 else L.getD j 0
theorem RV.done {L cur : List Int} {i : Nat} (h : RV L cur i) (hi : L.length ≤ 2 * i + 1) : cur = L.reverse := by
  apply List.ext_getElem
  · simp [h.len]
  · intro j h1 h2
    have hj : j < L.length := by rw [h.len] at h1; exact h1
    have hx := h.at_ j hj
    simp only [List.getD, List.getElem?_eq_getElem h1, Option.getD_some] at hx
    rw [hx, List.getElem_reverse]
    split
    · rw [List.getElem?_eq_getElem (by omega), Option.getD_some]
    · rw [List.getElem?_eq_getElem hj, Option.getD_some]
      have : j = L.length - 1 - j := by omega
      congr 1
theorem RV.step {L cur : List Int} {i : Nat} (h : RV L cur i) (hi : 2 * i + 1 < L.length) : RV L ((cur.set i (cur.getD (L.length - 1 - i) 0)).set (L.length - 1 - i) (cur.getD i 0)) (i + 1) := by
  have hl := h.len
  refine ⟨by simp [hl], fun j hj => ?_⟩
  by_cases h1 : j = L.length - 1 - i
  · subst h1
    rw [getD_set_self _ _ _ (by simp; omega), h.at_ i (by omega), if_neg (by omega), if_pos (by omega)]
    congr 1; omega
  · rw [getD_set_ne _ _ _ _ (by omega)]
    by_cases h2 : j = i
    · subst h2
      rw [getD_set_self _ _ _ (by omega), h.at_ _ (by omega), if_neg (by omega), if_pos (by omega)]
    · rw [getD_set_ne _ _ _ _ (by omega), h.at_ j hj]
      by_cases h3 : j < i ∨ L.length - 1 - i < j
      · rw [if_pos h3, if_pos (by omega)]
      · rw [if_neg h3, if_neg (by omega)]
end Go.Proofs.Ytmbmbmkmjbpcpaa.PA

