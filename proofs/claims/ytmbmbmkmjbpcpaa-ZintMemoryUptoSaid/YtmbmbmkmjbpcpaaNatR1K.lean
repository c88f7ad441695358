/- The reference's Norm as numbers; splittings of a list's number. -/
import Derived.Test.YtmbmbmkmjbpcpaaNatAK
import Derived.Test.YtmbmbmkmjbpcpaaPAx3K
namespace Go.Proofs.Ytmbmbmkmjbpcpaa.PA
open Go Go.RowKit Go.Proofs.YtmbmbmkmjbpcpaaW.PrintWords Go.Proofs.YtmbmbmkmjbpcpaaW.PrintLast Go.Proofs.YtmbmbmkmjbpcpaaW.PrintMore
open Go.Proofs.Ytmbmbmkmjbpcpaa.Nums

/-! ### the reference: Norm, limbs, order -/
theorem trim_snoc_ne (zs : List Int) {x : Int} (hx : x ≠ 0) : trim (zs ++ [x]) = zs ++ [x] := by
  have hne : ∀ zs : List Int, trim (zs ++ [x]) ≠ [] := by
    intro zs
    induction zs with
    | nil => simp [trim, hx]
    | cons z zs ih3 => simp only [List.cons_append, trim, ih3, and_false, if_false]; simp
  induction zs with
  | nil => simp [trim, hx]
  | cons z zs ih3 => simp only [List.cons_append, trim, hne, and_false, if_false]; rw [ih3]
theorem rnorm_l1 (l : List Int) (m : Nat) (hm : m ≤ l.length) (hl : l.length ≤ 35184372088831) (d : Nat) : ∀ n : Nat, m - n = d → n ≤ m →
    Ev (fun k => trammelref01_Norm.l1 k l (m : Int) (l.take n) (n : Int)) (l.take m) := by
  induction d with
  | zero =>
    intro n hd hn
    have : n = m := by omega
    subst this
    refine Ev.step (fun k => by rw [trammelref01_Norm.l1]) ?_
    exact ev_neg (by omega) (ev_now rfl)
  | succ d ih =>
    intro n hd hn
    refine Ev.step (fun k => by rw [trammelref01_Norm.l1]) ?_
    refine ev_pos (by omega) ?_
    refine ev_pos (by omega) ?_
    refine ev_pos (by omega) ?_
    refine ev_pos (by rw [List.length_take]; omega) ?_
    have := ih (n + 1) (by omega) (by omega)
    rw [w64 (by omega) (by omega), rd_getD, ← take_succ' l n (by omega)]
    simpa using this
theorem rnorm_j1 (l : List Int) (m : Nat) (hm : m ≤ l.length) (hl : l.length ≤ 35184372088831) : Ev (fun k => trammelref01_Norm.j1 k l (m : Int)) (l.take m) := by
  refine Ev.step (fun k => by rw [trammelref01_Norm.j1]) ?_
  have := rnorm_l1 l m hm hl m 0 (by omega) (by omega)
  simpa using this
theorem rnorm_l0 (l : List Int) (hl : l.length ≤ 35184372088831) (n : Nat) : n ≤ l.length → Ev (fun k => trammelref01_Norm.l0 k l (n : Int)) (trim (l.take n)) := by
  induction n with
  | zero =>
    intro hn
    refine Ev.step (fun k => by rw [trammelref01_Norm.l0]) ?_
    refine ev_neg (by omega) ?_
    have := rnorm_j1 l 0 (by omega) hl
    simpa [trim] using this
  | succ n ih =>
    intro hn
    have hw : wrap64 (((n + 1 : Nat) : Int) - 1) = (n : Int) := by rw [w64 (by omega) (by omega)]; omega
    refine Ev.step (fun k => by rw [trammelref01_Norm.l0, hw]) ?_
    refine ev_pos (by omega) ?_
    refine ev_pos (by omega) ?_
    refine ev_pos (by omega) ?_
    rw [take_succ' l n (by omega), ← rd_getD]
    by_cases e : rd l n = 0
    · refine ev_pos e ?_
      rw [e, trim_snoc_zero]
      exact ih (by omega)
    · refine ev_neg e ?_
      rw [trim_snoc_ne _ e, rd_getD, ← take_succ' l n (by omega)]
      exact rnorm_j1 l (n + 1) hn hl
theorem rnorm_f (l : List Int) (hl : l.length ≤ 35184372088831) : Ev (fun k => trammelref01_Norm.f k l) (trim l) := by
  have := rnorm_l0 l hl l.length (Nat.le_refl _)
  rw [List.take_of_length_le (Nat.le_refl _)] at this
  exact this
theorem tmod32 {n : Int} (h : 0 ≤ n) : Int.tmod n 4294967296 = n % 4294967296 := Int.tmod_eq_emod_of_nonneg h
theorem tdiv32 {n : Int} (h : 0 ≤ n) : Int.tdiv n 4294967296 = n / 4294967296 := Int.tdiv_eq_ediv_of_nonneg h
theorem getD_ge (l : List Int) (n : Nat) (h : l.length ≤ n) : l.getD n 0 = 0 := by simp [List.getD, h]
theorem val_drop_any (l : List Int) (n : Nat) : val (l.drop n) = l.getD n 0 + 4294967296 * val (l.drop (n + 1)) := by
  by_cases h : n < l.length
  · exact val_drop_cons l n h
  · rw [List.drop_of_length_le (by omega), List.drop_of_length_le (by omega), getD_ge l n (by omega), val_nil]; rfl
theorem val_take_any (l : List Int) (n : Nat) : val (l.take (n + 1)) = val (l.take n) + Bp n * l.getD n 0 := by
  by_cases h : n < l.length
  · exact val_take_succ l n h
  · rw [List.take_of_length_le (by omega), List.take_of_length_le (by omega), getD_ge l n (by omega)]; simp
theorem val_split (l : List Int) (n : Nat) : val l = val (l.take n) + Bp n * val (l.drop n) := by
  by_cases h : n ≤ l.length
  · exact val_take_drop l n h
  · rw [List.take_of_length_le (by omega), List.drop_of_length_le (by omega), val_nil]; simp
theorem take_lt {l : List Int} (h : Ok l) (n : Nat) : val (l.take n) < Bp n := by
  have h1 := val_lt (ok_take h n)
  have h2 := Bp_le (show (l.take n).length ≤ n by rw [List.length_take]; omega)
  omega
end Go.Proofs.Ytmbmbmkmjbpcpaa.PA

