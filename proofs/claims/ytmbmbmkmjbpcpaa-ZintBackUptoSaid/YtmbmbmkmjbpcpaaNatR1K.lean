/- The reference's Norm as numbers; splittings of a list's number. -/
import Derived.Test.YtmbmbmkmjbpcpaaNatAK
import Derived.Test.YtmbmbmkmjbpcpaaPAx3K
namespace Go.Proofs.Ytmbmbmkmjbpcpaa.PA
open Go Go.RowKit Go.Proofs.YtmbmbmkmjbpcpaaW.PrintWords Go.Proofs.YtmbmbmkmjbpcpaaW.PrintLast Go.Proofs.YtmbmbmkmjbpcpaaW.PrintMore
open Go.Proofs.Ytmbmbmkmjbpcpaa.Nums

/-! ### the reference: Norm, limbs, order -/
theorem trim_snoc_ne (zs : List Int) {x : Int} (hx : x ≠ 0) : trim (zs ++ [x]) = zs ++ [x] := by
  have hne : ∀ zs : List Int, trim (zs ++ [x]) ≠ [] := by
    intro zs
    induction zs with
    | nil => simp [trim, hx]
    | cons z zs ih3 => simp only [List.cons_append, trim, ih3, and_false, if_false]; simp
  induction zs with
  | nil => simp [trim, hx]
  | cons z zs ih3 => simp only [List.cons_append, trim, hne, and_false, if_false]; rw [ih3]
theorem getD_ge (l : List Int) (n : Nat) (h : l.length ≤ n) : l.getD n 0 = 0 := by simp [List.getD, h]
theorem val_drop_any (l : List Int) (n : Nat) : val (l.drop n) = l.getD n 0 + 4294967296 * val (l.drop (n + 1)) := by
  by_cases h : n < l.length
  · exact val_drop_cons l n h
  · rw [List.drop_of_length_le (by omega), List.drop_of_length_le (by omega), getD_ge l n (by omega), val_nil]; rfl
theorem val_take_any (l : List Int) (n : Nat) : val (l.take (n + 1)) = val (l.take n) + Bp n * l.getD n 0 := by
  by_cases h : n < l.length
  · exact val_take_succ l n h
  · rw [List.take_of_length_le (by omega), List.take_of_length_le (by omega), getD_ge l n (by omega)]; simp
theorem val_split (l : List Int) (n : Nat) : val l = val (l.take n) + Bp n * val (l.drop n) := by
  by_cases h : n ≤ l.length
  · exact val_take_drop l n h
  · rw [List.take_of_length_le (by omega), List.drop_of_length_le (by omega), val_nil]; simp
theorem take_lt {l : List Int} (h : Ok l) (n : Nat) : val (l.take n) < Bp n := by
  have h1 := val_lt (ok_take h n)
  have h2 := Bp_le (show (l.take n).length ≤ n by rw [List.length_take]; omega)
  omega
end Go.Proofs.Ytmbmbmkmjbpcpaa.PA

