/- Greatest common divisors and square roots of numbers of words, of the program and of the reference; for lists of at most 10000000 limbs. -/
import Derived.Test.YtmbmbmkmjbpcpaaNatDivK
import Derived.Test.YtmbmbmkmjbpcpaaPAx14K
import Derived.Test.YtmbmbmkmjbpcpaaPAx16K
import Derived.Test.YtmbmbmkmjbpcpaaPAx17K
import Derived.Test.YtmbmbmkmjbpcpaaPAx2K
namespace Go.Proofs.Ytmbmbmkmjbpcpaa.PA
open Go Go.RowKit Go.Proofs.YtmbmbmkmjbpcpaaW.PrintWords Go.Proofs.YtmbmbmkmjbpcpaaW.PrintLast Go.Proofs.YtmbmbmkmjbpcpaaW.PrintMore
open Go.Proofs.Ytmbmbmkmjbpcpaa.Nums
set_option linter.unusedVariables false
theorem lm_len_mono {x y : Int} (h0 : 0 ≤ x) (h : x ≤ y) : (lm x).length ≤ (lm y).length := by
  refine lm_len_le h0 ?_
  have := val_lt (lm_ok y)
  rw [lm_val (by omega)] at this
  omega
/-! ### roots -/
/-- r is the root of a -/
def IsRoot (a r : Int) : Prop := 0 ≤ r ∧ r * r ≤ a ∧ a < (r + 1) * (r + 1)
theorem IsRoot.unique {a x y : Int} (h : IsRoot a x) (k : IsRoot a y) : x = y := root_unique h.1 k.1 h.2.1 h.2.2 k.2.1 k.2.2
theorem IsRoot.le {a r : Int} (h : IsRoot a r) : r ≤ a := by
  obtain ⟨h0, h1, -⟩ := h
  rcases Int.lt_or_le 0 r with h | h
  · have : r * 1 ≤ r * r := Int.mul_le_mul_of_nonneg_left (by omega) h0
    omega
  · have : r = 0 := by omega
    subst this; simpa using h1
theorem root_l0 (l : List Int) (ol : Ok l) (hl : l.length ≤ 1000000000) (ha : 0 < val l) (d : Nat) : ∀ x : Int, 0 < x → x.toNat ≤ d → (lm x).length ≤ 2000000000 → val l < (x + 1) * (x + 1) →
    ∃ r, IsRoot (val l) r ∧ Ev (fun k => nat_Root.l0 k l (lm x)) (lm r) := by
  induction d with
  | zero => intro x hx hd; omega
  | succ d ih =>
    intro x hx hd hlx inv
    have hq0 : 0 ≤ val l / x := Int.ediv_nonneg (by omega) (by omega)
    have hql : val l / x ≤ val l := Int.ediv_le_self _ (by omega)
    have hqn := lm_len_mono hq0 hql
    have hln := trim_len l
    rw [trim_lm ol] at hln
    have hs0 : 0 ≤ x + val l / x := by omega
    have up := newton_up hx (Int.le_of_lt ha)
    have en := @newton_end (val l) x hx
    have hy0 : 0 ≤ (x + val l / x) / 2 := Int.ediv_nonneg hs0 (by omega)
    have hsl := lm_add_len (lm_ok x) (lm_ok (val l / x)) (n := 2000000000) (by omega) (by omega)
    rw [lm_val (by omega), lm_val hq0] at hsl
    have run : ∀ R, Ev (fun k => (nat_Cmp.f k (lm ((x + val l / x) / 2)) (lm x)).bind fun t554 => if t554 ≥ 0 then some (lm x) else nat_Root.l0 k l (lm ((x + val l / x) / 2))) R → Ev (fun k => nat_Root.l0 k l (lm x)) R := by
      intro R hR
      refine Ev.step (fun k => by rw [nat_Root.l0]) ?_
      refine Ev.bind (div_f l (lm x) ol (lm_ok x) (by omega) (by omega)) ?_
      unfold divR
      rw [lm_val (by omega), if_neg (by omega)]
      refine Ev.bind (add_f (lm x) (lm (val l / x)) (lm_ok _) (lm_ok _) (by omega) (by omega)) ?_
      rw [lm_val (by omega), lm_val hq0]
      refine Ev.bind (shr_f (lm (x + val l / x)) (lm_ok _) (by omega) 1 (by omega)) ?_
      rw [lm_val hs0]
      exact hR
    generalize hy : (x + val l / x) / 2 = y at *
    by_cases h : x ≤ y
    · refine ⟨x, ⟨by omega, en h, inv⟩, run _ ?_⟩
      refine Ev.bind (cmp_f (lm y) (lm x) (lm_ok _) (lm_ok _) (by
        have h1 := lm_len_mono hy0 (show y ≤ x + val l / x by omega)
        omega) (by omega)) ?_
      rw [lm_val hy0, lm_val (by omega)]
      exact ev_pos (by unfold cmp; rw [if_neg (by omega)]; split <;> omega) (Ev.now _)
    · have hlen := lm_len_mono hy0 (show y ≤ x by omega)
      have hy1 : 0 < y := by
        rcases Int.lt_or_le 0 y with h1 | h1
        · exact h1
        · have : y = 0 := by omega
          subst this; omega
      obtain ⟨r, hr, e⟩ := ih y hy1 (by omega) (by omega) up
      refine ⟨r, hr, run _ ?_⟩
      refine Ev.bind (cmp_f (lm y) (lm x) (lm_ok _) (lm_ok _) (by omega) (by omega)) ?_
      rw [lm_val hy0, lm_val (by omega)]
      exact ev_neg (by unfold cmp; rw [if_pos (by omega)]; omega) e
theorem two_sq {v : Int} {n : Nat} (hv : 0 ≤ v) (h : bl v.toNat ≤ 2 * n) : v < 2 ^ n * 2 ^ n := by
  have h1 := bl_lt v.toNat
  have h2 : (2 : Nat) ^ bl v.toNat ≤ 2 ^ (2 * n) := Nat.pow_le_pow_right (by omega) h
  have h3 : (2 : Int) ^ n * 2 ^ n = ((2 ^ (2 * n) : Nat) : Int) := by rw [← Int.pow_add, Int.natCast_pow]; congr 1; omega
  omega
theorem half_up {n : Nat} (h : n < 4611686018427387904) : wrap64 (Int.tdiv (wrap64 ((n : Int) + 1)) 2) = (((n + 1) / 2 : Nat) : Int) := by
  rw [w64 (n := (n : Int) + 1) (by omega) (by omega), Int.tdiv_eq_ediv_of_nonneg (by omega), w64 (by omega) (by omega)]; omega
theorem root_f (l : List Int) (ol : Ok l) (hl : l.length ≤ 100000000) : ∃ r, IsRoot (val l) r ∧ Ev (fun k => nat_Root.f k l) (lm r) := by
  have h0 := val_nonneg ol
  have hb := bl_len ol (Nat.le_refl l.length)
  by_cases hz : val l = 0
  · refine ⟨0, by unfold IsRoot; rw [hz]; omega, ?_⟩
    unfold nat_Root.f
    refine Ev.bind (bits_f l ol (by omega)) ?_
    refine ev_pos (by rw [hz]; simp [bl_zero]) (ev_now ?_)
    rw [lm_zero]
  · have hp : (0 : Int) < 2 ^ ((bl (val l).toNat + 1) / 2) := Int.pow_pos (by omega)
    have hsq := two_sq h0 (show bl (val l).toNat ≤ 2 * ((bl (val l).toNat + 1) / 2) by omega)
    have hlx : (lm (2 ^ ((bl (val l).toNat + 1) / 2))).length ≤ 2000000000 := by
      refine lm_bl_len (by omega) ?_
      have := bl_mul_two (v := 1) (by omega) ((bl (val l).toNat + 1) / 2)
      rw [Int.one_mul] at this
      rw [this]
      have : bl (1 : Int).toNat = 1 := bl_unique (by decide) (by right; decide)
      omega
    obtain ⟨r, hr, e⟩ := root_l0 l ol (by omega) (by omega) _ (2 ^ ((bl (val l).toNat + 1) / 2)) hp (Nat.le_refl _) hlx (by
      generalize (2 : Int) ^ ((bl (val l).toNat + 1) / 2) = p at hp hsq ⊢
      have : (p + 1) * (p + 1) = p * p + 2 * p + 1 := by grind
      omega)
    refine ⟨r, hr, ?_⟩
    unfold nat_Root.f
    refine Ev.bind (bits_f l ol (by omega)) ?_
    refine ev_neg (by
      intro e
      have : bl (val l).toNat = 0 := by omega
      rw [bl_eq_zero] at this; omega) ?_
    refine Ev.bind (bits_f l ol (by omega)) ?_
    rw [half_up (by omega)]
    have e1 : val [1] = 1 := val_single 1
    have hs := shl_f [1] (ok_cons.mpr ⟨by omega, ok_nil⟩) ((bl (val l).toNat + 1) / 2) (by simp; omega)
    rw [e1, Int.one_mul] at hs
    exact Ev.bind hs e
end Go.Proofs.Ytmbmbmkmjbpcpaa.PA

