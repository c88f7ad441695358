/- Greatest common divisors and square roots of numbers of words, of the program and of the reference; for lists of at most 10000000 limbs. -/
import Derived.Test.YtmbmbmkmjbpcpaaNatDivK
import Derived.Test.YtmbmbmkmjbpcpaaPAx14K
import Derived.Test.YtmbmbmkmjbpcpaaPAx16K
import Derived.Test.YtmbmbmkmjbpcpaaPAx17K
import Derived.Test.YtmbmbmkmjbpcpaaPAx2K
namespace Go.Proofs.Ytmbmbmkmjbpcpaa.PA
open Go Go.RowKit Go.Proofs.YtmbmbmkmjbpcpaaW.PrintWords Go.Proofs.YtmbmbmkmjbpcpaaW.PrintLast Go.Proofs.YtmbmbmkmjbpcpaaW.PrintMore
open Go.Proofs.Ytmbmbmkmjbpcpaa.Nums
set_option linter.unusedVariables false
def gcdI (a b : Int) : Int := (Nat.gcd a.toNat b.toNat : Nat)
theorem gcdI_zero {a : Int} (h : 0 ≤ a) : gcdI a 0 = a := by unfold gcdI; simp; omega
theorem gcdI_step {a b : Int} (ha : 0 ≤ a) (hb : 0 < b) : gcdI a b = gcdI b (a % b) := by
  unfold gcdI
  have e : (a % b).toNat = a.toNat % b.toNat := by
    obtain ⟨m, rfl⟩ := Int.eq_ofNat_of_zero_le ha
    obtain ⟨n, rfl⟩ := Int.eq_ofNat_of_zero_le (Int.le_of_lt hb)
    rfl
  rw [e, Nat.gcd_comm a.toNat, Nat.gcd_rec b.toNat, Nat.gcd_comm]
theorem lm_len_mono {x y : Int} (h0 : 0 ≤ x) (h : x ≤ y) : (lm x).length ≤ (lm y).length := by
  refine lm_len_le h0 ?_
  have := val_lt (lm_ok y)
  rw [lm_val (by omega)] at this
  omega
theorem lm_len_pos {x : Int} (h : 0 < x) : 0 < (lm x).length := by
  rcases Nat.eq_zero_or_pos (lm x).length with e | e
  · exact absurd ((lm_eq_nil (by omega)).mp (List.length_eq_zero_iff.mp e)) (by omega)
  · exact e
theorem gcd_l0 (d : Nat) : ∀ (x y : Int), 0 ≤ x → 0 ≤ y → y.toNat ≤ d → (lm x).length ≤ 35184372088000 → (lm y).length ≤ 35184372088000 → Ev (fun k => nat_Gcd.l0 k (lm x) (lm y)) (lm (gcdI x y)) := by
  induction d with
  | zero =>
    intro x y hx hy hd hlx hly
    have : y = 0 := by omega
    subst this
    refine Ev.step (fun k => by rw [nat_Gcd.l0]) ?_
    refine ev_neg (by rw [lm_zero]; simp) (ev_now ?_)
    rw [gcdI_zero hx]
  | succ d ih =>
    intro x y hx hy hd hlx hly
    refine Ev.step (fun k => by rw [nat_Gcd.l0]) ?_
    by_cases h0 : y = 0
    · subst h0
      refine ev_neg (by rw [lm_zero]; simp) (ev_now ?_)
      rw [gcdI_zero hx]
    · have hy1 : 0 < y := by omega
      have hp := lm_len_pos hy1
      refine ev_pos (by omega) ?_
      refine Ev.bind (div_f (lm x) (lm y) (lm_ok _) (lm_ok _) hlx hly) ?_
      unfold divR
      rw [lm_val hx, lm_val hy, if_neg h0, gcdI_step hx hy1]
      have hm0 := Int.emod_nonneg x h0
      have hm1 := Int.emod_lt_of_pos x hy1
      have := lm_len_mono hm0 (Int.le_of_lt hm1)
      exact ih y (x % y) hy hm0 (by omega) hly (by omega)
theorem gcd_f (a b : List Int) (oa : Ok a) (ob : Ok b) (hla : a.length ≤ 35184372088000) (hlb : b.length ≤ 35184372088000) : Ev (fun k => nat_Gcd.f k a b) (lm (gcdI (val a) (val b))) := by
  unfold nat_Gcd.f
  have ta := trim_len a
  have tb := trim_len b
  refine Ev.bind (norm_f a (by omega)) (Ev.bind (norm_f b (by omega)) ?_)
  rw [trim_lm oa] at ta ⊢
  rw [trim_lm ob] at tb ⊢
  exact gcd_l0 _ _ _ (val_nonneg oa) (val_nonneg ob) (Nat.le_refl _) (by omega) (by omega)
theorem gcd_comm (a b : Int) : gcdI a b = gcdI b a := by unfold gcdI; rw [Nat.gcd_comm]
/-! ### roots -/
end Go.Proofs.Ytmbmbmkmjbpcpaa.PA

