/- Quotient and rest by one limb, of the program and of the reference. -/
import Derived.Laws.BitsLemmas
import Derived.Test.YtmbmbmkmjbpcpaaNatR1K
import Derived.Test.YtmbmbmkmjbpcpaaPAx7K
import Derived.Test.YtmbmbmkmjbpcpaaPAx9K
namespace Go.Proofs.Ytmbmbmkmjbpcpaa.PA
open Go Go.RowKit Go.Proofs.YtmbmbmkmjbpcpaaW.PrintWords Go.Proofs.YtmbmbmkmjbpcpaaW.PrintLast Go.Proofs.YtmbmbmkmjbpcpaaW.PrintMore
open Go.Proofs.Ytmbmbmkmjbpcpaa.Nums

/-! ### by one limb -/
theorem wraps_u64 (n : Int) (h0 : 0 ≤ n) (h1 : n < 2 ^ 64) : IntKind.u64.wrap n = n := u64w h0 (by omega)
theorem wraps_u32 (n : Int) (h0 : 0 ≤ n) (h1 : n < 2 ^ 32) : IntKind.u32.wrap n = n := by rw [IntKind.wrap_u32]; omega
theorem or_hi {x y : Int} (hx0 : 0 ≤ x) (hx1 : x < 4294967296) (h0 : 0 ≤ y) (h1 : y < 4294967296) : Go.bits .or .u64 (x * 4294967296) y = x * 4294967296 + y :=
  bits_join .u64 64 (by decide) wraps_u64 32 (x * 4294967296) y (by omega) (by omega) (by omega) h0 (by omega) (by omega)
theorem shortA {P Q A B x v r d q E : Int} (inv : P = Q * d + r) (hv : v = r * 4294967296 + x) (hq : v = q * d + B) (hA : A = x + 4294967296 * P) (hE : E = q + 4294967296 * Q) : A = E * d + B := by
  subst hE; rw [hA, inv]; grind
theorem drop_set_self (l : List Int) (n : Nat) (v : Int) (h : n < l.length) : val ((l.set n v).drop n) = v + 4294967296 * val (l.drop (n + 1)) := by
  rw [val_drop_cons (l.set n v) n (by simpa using h), List.drop_set_of_lt (by omega)]
  congr 1
  simp [List.getD, h]
theorem small_q {v d r x : Int} (hd : 0 < d) (hr0 : 0 ≤ r) (hr : r < d) (hx0 : 0 ≤ x) (hx : x < 4294967296) (hv : v = r * 4294967296 + x) : 0 ≤ v / d ∧ v / d < 4294967296 := by
  constructor
  · exact Int.ediv_nonneg (by omega) (by omega)
  · apply Int.ediv_lt_of_lt_mul hd
    have h1 : (r + 1) * 4294967296 ≤ d * 4294967296 := Int.mul_le_mul_of_nonneg_right (by omega) (by omega)
    rw [Int.mul_comm 4294967296 d]
    omega
theorem short_l0 (a : List Int) (ha : Ok a) (hl : a.length ≤ 70368744177664) (d : Int) (hd0 : 0 < d) (hd1 : d < 4294967296) (n : Nat) : n ≤ a.length →
    ∀ (out : List Int) (r : Int), Ok out → out.length = a.length → 0 ≤ r → r < d → val (a.drop n) = val (out.drop n) * d + r →
      Ev (fun k => nat_short.l0 k a d out r ((n : Int) - 1)) (lm (val a / d), val a % d) := by
  induction n with
  | zero =>
    intro _ out r ho hlo hr0 hr1 inv
    refine Ev.step (fun k => by rw [nat_short.l0]) ?_
    refine ev_neg (by omega) ?_
    refine Ev.bind (trim_own_f _ (by omega)) (ev_now ?_)
    simp only [List.drop_zero] at inv
    have := div_eq inv hr0 hr1
    rw [trim_lm ho, this.1, this.2]
    congr 1; omega
  | succ n ih =>
    intro hn out r ho hlo hr0 hr1 inv
    have INV := Aside0.mk inv
    clear inv
    have hi : ((n + 1 : Nat) : Int) - 1 = (n : Int) := by omega
    have hx := rd_ok ha (n : Int)
    rw [hi]
    refine Ev.step (fun k => by rw [nat_short.l0]) ?_
    refine ev_pos (by omega) ?_
    refine ev_pos (by omega) ?_
    refine ev_pos (by omega) ?_
    rw [u64w (n := d) (by omega) (by omega), u64w (n := r * 4294967296) (by omega) (by omega), u64w (n := rd a n) (by omega) (by omega), or_hi hr0 (by omega) hx.1 hx.2, w64 (n := (n : Int) - 1) (by omega) (by omega)]
    refine ev_neg (by omega) ?_
    refine ev_pos (by omega) ?_
    generalize hv : r * 4294967296 + rd a n = v
    have hq := small_q hd0 hr0 hr1 hx.1 hx.2 hv.symm
    have hm0 : 0 ≤ v % d := Int.emod_nonneg _ (by omega)
    have hm1 : v % d < d := Int.emod_lt_of_pos _ hd0
    rw [Int.tdiv_eq_ediv_of_nonneg (by omega), Int.tmod_eq_emod_of_nonneg (by omega), u64w hq.1 (by omega), Int.toNat_natCast]
    have hqm : v / d % 4294967296 = v / d := by omega
    rw [hqm]
    refine ih (by omega) (out.set n (v / d)) (v % d) (ok_set ho _ hq.1 hq.2) (by simpa using hlo) hm0 hm1 ?_
    rw [drop_set_self out n _ (by omega), val_drop_cons a n (by omega), ← rd_getD]
    exact shortA INV.out hv.symm (by have := Int.mul_ediv_add_emod v d; rw [Int.mul_comm] at this; exact this.symm) rfl rfl
theorem short_f (a : List Int) (ha : Ok a) (hl : a.length ≤ 70368744177664) (d : Int) (hd0 : 0 < d) (hd1 : d < 4294967296) : Ev (fun k => nat_short.f k a d) (lm (val a / d), val a % d) := by
  unfold nat_short.f
  refine ev_pos (by omega) ?_
  refine ev_pos (by omega) ?_
  rw [Int.toNat_natCast, w64 (by omega) (by omega)]
  exact short_l0 a ha hl d hd0 hd1 a.length (Nat.le_refl _) _ 0 (ok_replicate _) (by simp) (by omega) (by omega) (by rw [List.drop_of_length_le (by omega), List.drop_of_length_le (by simp), val_nil]; simp)
end Go.Proofs.Ytmbmbmkmjbpcpaa.PA

