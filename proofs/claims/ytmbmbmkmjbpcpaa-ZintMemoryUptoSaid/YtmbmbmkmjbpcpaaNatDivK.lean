/- Quotient and rest of numbers of words, of the program and of the reference; for lists of at most 1000000 limbs (the reference: 100000000). -/
import Derived.Test.YtmbmbmkmjbpcpaaDivCK
import Derived.Test.YtmbmbmkmjbpcpaaNatBK
import Derived.Test.YtmbmbmkmjbpcpaaPAx13K
import Derived.Test.YtmbmbmkmjbpcpaaPAx15K
import Derived.Test.YtmbmbmkmjbpcpaaPAx6K
namespace Go.Proofs.Ytmbmbmkmjbpcpaa.PA
open Go Go.RowKit Go.Proofs.YtmbmbmkmjbpcpaaW.PrintWords Go.Proofs.YtmbmbmkmjbpcpaaW.PrintLast Go.Proofs.YtmbmbmkmjbpcpaaW.PrintMore
open Go.Proofs.Ytmbmbmkmjbpcpaa.Nums
set_option linter.unusedVariables false
/-- what a quotient answers -/
def divR (a b : List Int) : List Int × List Int × Int := if val b = 0 then ([], [], 11) else (lm (val a / val b), lm (val a % val b), 0)
theorem trim_pos {b : List Int} (ob : Ok b) (h : trim b ≠ []) : 0 < val b := by
  have h1 := nrm_top (trim_ok ob) (trim_nrm b) h
  have h2 := Bp_pos ((trim b).length - 1)
  rw [trim_val] at h1; omega
theorem trim_nil {b : List Int} (ob : Ok b) (h : val b = 0) : trim b = [] := by rw [trim_lm ob, h, lm_zero]
theorem len_one {b : List Int} (h : b.length = 1) : b = [rd b 0] := by
  match b, h with
  | [x], _ => simp [rd]
theorem div_f (a b : List Int) (oa : Ok a) (ob : Ok b) (hla : a.length ≤ 35184372088000) (hlb : b.length ≤ 35184372088000) : Ev (fun k => nat_Div.f k a b) (divR a b) := by
  unfold nat_Div.f
  have ta := trim_len a
  have tb := trim_len b
  by_cases hL : LongCond a b
  · refine ev_pos hL (ev_now ?_)
    obtain ⟨-, -, -, -, h2, -⟩ := hL
    have := trim_pos ob (by intro e; rw [e] at h2; simp at h2)
    unfold divR; rw [if_neg (by omega)]
  · refine ev_neg hL ?_
    unfold nat_DivP.f
    refine Ev.bind (trim_f a (by omega)) (Ev.bind (trim_f b (by omega)) ?_)
    by_cases h0 : val b = 0
    · refine ev_pos (by rw [trim_nil ob h0]; rfl) (ev_now ?_)
      unfold divR; rw [if_pos h0]
    · have hb0 := val_nonneg ob
      have ha0 := val_nonneg oa
      have hne : trim b ≠ [] := by intro e; rw [trim_lm ob] at e; exact h0 ((lm_eq_nil hb0).mp e)
      have hl1 : 1 ≤ (trim b).length := by
        rcases Nat.eq_zero_or_pos (trim b).length with h | h
        · exact absurd (List.length_eq_zero_iff.mp h) hne
        · exact h
      unfold divR
      rw [if_neg h0]
      refine ev_neg (by omega) ?_
      refine Ev.bind (cmp_f (trim a) (trim b) (trim_ok oa) (trim_ok ob) (by omega) (by omega)) ?_
      rw [trim_val, trim_val]
      by_cases hlt : val a < val b
      · refine ev_pos (by unfold cmp; rw [if_pos hlt]; omega) ?_
        refine Ev.bind (norm_f (trim a) (by omega)) (ev_now ?_)
        rw [trim_lm (trim_ok oa), trim_val, Int.ediv_eq_zero_of_lt ha0 hlt, Int.emod_eq_of_lt ha0 hlt, lm_zero]
      · refine ev_neg (by unfold cmp; rw [if_neg hlt]; split <;> omega) ?_
        have hl : (trim b).length = 1 := by
          have : ¬ 2 ≤ (trim b).length := fun h2 => hL ⟨oa, ob, hla, hlb, h2, by omega⟩
          omega
        have hb : val b = rd (trim b) 0 := by rw [← trim_val b, len_one hl]; simp [val, rd]
        have hr := rd_ok (trim_ok ob) 0
        refine ev_pos (by omega) (ev_pos (by omega) ?_)
        rw [← hb] at hr ⊢
        refine Ev.bind (short_f (trim a) (trim_ok oa) (by omega) (val b) (by omega) hr.2) ?_
        rw [trim_val]
        have hm0 : 0 ≤ val a % val b := Int.emod_nonneg _ h0
        have hm1 : val a % val b < val b := Int.emod_lt_of_pos _ (by omega)
        have or : Ok [val a % val b] := ok_cons.mpr ⟨⟨hm0, by omega⟩, ok_nil⟩
        refine Ev.bind (trim_own_f _ (by simp)) (ev_now ?_)
        simp only []
        rw [trim_lm or, val_single]
end Go.Proofs.Ytmbmbmkmjbpcpaa.PA

