/- The printed Cmp, less, Sub of layer 1 as numbers; for limbs that are 32-bit words, of lengths below the bounds that each lemma names. -/
import Derived.Test.YtmbmbmkmjbpcpaaNatAK
import Derived.Test.YtmbmbmkmjbpcpaaPAx2K
import Derived.Test.YtmbmbmkmjbpcpaaPAx3K
namespace Go.Proofs.Ytmbmbmkmjbpcpaa.PA
open Go Go.RowKit Go.Proofs.YtmbmbmkmjbpcpaaW.PrintWords Go.Proofs.YtmbmbmkmjbpcpaaW.PrintLast Go.Proofs.YtmbmbmkmjbpcpaaW.PrintMore
open Go.Proofs.Ytmbmbmkmjbpcpaa.Nums

/-! ### order -/
def cmp (a b : Int) : Int := if a < b then -1 else if a = b then 0 else 1
theorem cmp_hi {E x y p q : Int} (hp0 : 0 ≤ p) (hp : p < E) (hq0 : 0 ≤ q) (h : x < y) : p + E * x < q + E * y := by
  have h1 : E * (x + 1) ≤ E * y := Int.mul_le_mul_of_nonneg_left (by omega) (by omega)
  rw [Int.mul_add] at h1
  omega
theorem cmp_l0 (a b : List Int) (ha : Ok a) (hb : Ok b) (hl : a.length = b.length) (hla : a.length ≤ 4611686018427387904) (n : Nat) : n ≤ a.length →
    val (a.drop n) = val (b.drop n) → Ev (fun k => nat_Cmp.l0 k a b ((n : Int) - 1)) (cmp (val a) (val b)) := by
  induction n with
  | zero =>
    intro _ h
    refine Ev.step (fun k => by rw [nat_Cmp.l0]) ?_
    refine ev_neg (by omega) (ev_now ?_)
    simp only [List.drop_zero] at h
    rw [h]; simp [cmp]
  | succ n ih =>
    intro hn h
    have hw : wrap64 (((n + 1 : Nat) : Int) - 1 - 1) = (n : Int) - 1 := by rw [w64 (by omega) (by omega)]; omega
    have hi : ((n + 1 : Nat) : Int) - 1 = (n : Int) := by omega
    rw [hi] at hw ⊢
    refine Ev.step (fun k => by rw [nat_Cmp.l0]) ?_
    refine ev_pos (by omega) ?_
    refine ev_pos (by omega) ?_
    refine ev_pos (by omega) ?_
    refine ev_pos (by omega) ?_
    rw [hw]
    clear hw
    have va := val_drop_cons a n (by omega)
    have vb := val_drop_cons b n (by omega)
    rw [← rd_getD] at va vb
    by_cases e : rd a n = rd b n
    · refine ev_pos e (ih (by omega) (by omega))
    · refine ev_neg e ?_
      have ta := val_take_drop a n (by omega)
      have tb := val_take_drop b n (by omega)
      have la := val_lt (ok_take ha n)
      have lb := val_lt (ok_take hb n)
      have na := val_nonneg (ok_take ha n)
      have nb := val_nonneg (ok_take hb n)
      rw [List.length_take, Nat.min_eq_left (by omega)] at la lb
      by_cases l : rd a n < rd b n
      · refine ev_pos l (ev_now ?_)
        have := cmp_hi na la nb (show val (a.drop n) < val (b.drop n) by omega)
        rw [← ta, ← tb] at this
        simp [cmp, this]
      · refine ev_neg l (ev_now ?_)
        have := cmp_hi nb lb na (show val (b.drop n) < val (a.drop n) by omega)
        rw [← ta, ← tb] at this
        simp only [cmp]
        rw [if_neg (by omega), if_neg (by omega)]
theorem trim_len_lt {a b : List Int} (ha : Ok a) (hb : Ok b) (h : (trim a).length < (trim b).length) : val a < val b := by
  have h1 := val_lt (trim_ok ha)
  have hne : trim b ≠ [] := by intro e; simp [e] at h
  have h2 := nrm_top (trim_ok hb) (trim_nrm b) hne
  have h3 := Bp_le (show (trim a).length ≤ (trim b).length - 1 by omega)
  rw [trim_val] at h1 h2
  omega
theorem cmp_f (a b : List Int) (ha : Ok a) (hb : Ok b) (hla : a.length ≤ 4611686018427387904) (hlb : b.length ≤ 4611686018427387904) : Ev (fun k => nat_Cmp.f k a b) (cmp (val a) (val b)) := by
  unfold nat_Cmp.f
  have h1 := trim_len a
  have h2 := trim_len b
  refine Ev.bind (trim_f a hla) ?_
  refine Ev.bind (trim_f b hlb) ?_
  by_cases e : ((trim a).length : Int) = ((trim b).length : Int)
  · refine ev_pos e ?_
    rw [w64 (by omega) (by omega)]
    have := cmp_l0 (trim a) (trim b) (trim_ok ha) (trim_ok hb) (by omega) (by omega) (trim a).length (Nat.le_refl _) (by
      rw [List.drop_of_length_le (Nat.le_refl _), List.drop_of_length_le (by omega)])
    rwa [trim_val, trim_val] at this
  · refine ev_neg e ?_
    by_cases l : ((trim a).length : Int) < ((trim b).length : Int)
    · refine ev_pos l (ev_now ?_)
      have := trim_len_lt ha hb (by omega)
      simp [cmp, this]
    · refine ev_neg l (ev_now ?_)
      have := trim_len_lt hb ha (by omega)
      simp only [cmp]
      rw [if_neg (by omega), if_neg (by omega)]

/-! ### differences -/
theorem borrow {B v : Int} (h0 : -4294967296 ≤ v) (h1 : v < 4294967296) : B * ((v % 18446744073709551616) % 4294967296) - 4294967296 * B * ((v % 18446744073709551616) / 9223372036854775808) = B * v := by
  have h : (v % 18446744073709551616) % 4294967296 - 4294967296 * ((v % 18446744073709551616) / 9223372036854775808) = v := by omega
  have : B * ((v % 18446744073709551616) % 4294967296) - 4294967296 * B * ((v % 18446744073709551616) / 9223372036854775808) = B * ((v % 18446744073709551616) % 4294967296 - 4294967296 * ((v % 18446744073709551616) / 9223372036854775808)) := by grind
  rw [this, h]
theorem lessA {P Q B c m q v S T x y : Int} (inv : P - B * c = S - T) (hb : B * m - Q * q = B * v) (hv : v = x - c - y) : P + B * m - Q * q = S + B * x - (T + B * y) := by
  subst hv
  grind
theorem u64_def (n : Int) : IntKind.u64.wrap n = n % 18446744073709551616 := rfl
theorem less_l0 (a b : List Int) (ha : Ok a) (hb : Ok b) (hla : a.length ≤ 70368744177663) (hba : b.length ≤ a.length) (hv : val b ≤ val a) (d : Nat) :
    ∀ (out : List Int) (c : Int) (n : Nat), a.length - n = d → Ok out → out.length = a.length → n ≤ a.length → 0 ≤ c → c ≤ 1 →
      val (out.take n) - Bp n * c = val (a.take n) - val (b.take n) →
      Ev (fun k => nat_less.l0 k a b out c (a.length : Int) (n : Int)) (lm (val a - val b)) := by
  induction d with
  | zero =>
    intro out c n hd ho hlo hn hc0 hc1 inv
    have : n = a.length := by omega
    subst this
    refine Ev.step (fun k => by rw [nat_less.l0]) ?_
    refine ev_neg (by omega) ?_
    refine Ev.bind (trim_own_f _ (by omega)) (ev_now ?_)
    rw [trim_lm ho]
    rw [List.take_of_length_le (by omega), List.take_of_length_le (Nat.le_refl _), List.take_of_length_le hba] at inv
    have h1 := val_lt ho
    rw [hlo] at h1
    have h2 := Bp_pos a.length
    rcases (show c = 0 ∨ c = 1 by omega) with rfl | rfl
    · rw [Int.mul_zero] at inv; rw [← inv]; simp
    · rw [Int.mul_one] at inv; omega
  | succ d ih =>
    intro out c n hd ho hlo hn hc0 hc1 inv
    have INV := Aside0.mk inv
    clear inv
    have h1 := rd_ok ha (n : Int)
    have h2 := rd_ok hb (n : Int)
    refine Ev.step (fun k => by rw [nat_less.l0]) ?_
    refine ev_pos (by omega) ?_
    refine ev_pos (by omega) ?_
    refine ev_pos (by omega) ?_
    rw [w64 (n := (n : Int) + 1) (by omega) (by omega)]
    by_cases hnb : n < b.length
    · refine ev_pos (by omega) ?_
      refine ev_pos (by omega) ?_
      have hw : IntKind.u64.wrap (IntKind.u64.wrap (IntKind.u64.wrap (rd a n) - c) - IntKind.u64.wrap (rd b n)) = (rd a n - c - rd b n) % 18446744073709551616 := by
        simp only [u64_def]; omega
      rw [hw, Int.toNat_natCast]
      generalize hv2 : rd a n - c - rd b n = v
      have := ih (out.set n (v % 18446744073709551616 % 4294967296)) (v % 18446744073709551616 / 9223372036854775808) (n + 1) (by omega) (ok_set ho _ (by omega) (by omega)) (by simpa using hlo) (by omega) (by omega) (by omega) (by
        rw [val_set_take out n _ (by omega), val_take_succ a n (by omega), val_take_succ b n hnb, Bp_succ, ← rd_getD, ← rd_getD]
        exact lessA INV.out (borrow (by omega) (by omega)) hv2.symm)
      simpa using this
    · refine ev_neg (by omega) ?_
      refine ev_pos (by omega) ?_
      have hw : IntKind.u64.wrap (IntKind.u64.wrap (rd a n) - c) = (rd a n - c - 0) % 18446744073709551616 := by
        simp only [u64_def]; omega
      rw [hw, Int.toNat_natCast]
      generalize hv2 : rd a n - c - 0 = v
      have := ih (out.set n (v % 18446744073709551616 % 4294967296)) (v % 18446744073709551616 / 9223372036854775808) (n + 1) (by omega) (ok_set ho _ (by omega) (by omega)) (by simpa using hlo) (by omega) (by omega) (by omega) (by
        rw [val_set_take out n _ (by omega), val_take_succ a n (by omega), val_take_succ_ge b n (by omega), Bp_succ, ← rd_getD]
        have := lessA INV.out (borrow (B := Bp n) (v := v) (by omega) (by omega)) hv2.symm
        rwa [Int.mul_zero, Int.add_zero] at this)
      simpa using this
theorem less_f (a b : List Int) (ha : Ok a) (hb : Ok b) (hla : a.length ≤ 70368744177663) (hba : b.length ≤ a.length) (hv : val b ≤ val a) : Ev (fun k => nat_less.f k a b) (lm (val a - val b)) := by
  unfold nat_less.f
  refine ev_pos (by omega) ?_
  refine ev_pos (by omega) ?_
  rw [Int.toNat_natCast]
  exact less_l0 a b ha hb hla hba hv a.length _ 0 0 (by omega) (ok_replicate _) (by simp) (by omega) (by omega) (by omega) (by simp [val])
theorem trim_len_le {a b : List Int} (ha : Ok a) (hb : Ok b) (h : val a ≤ val b) : (trim a).length ≤ (trim b).length := by
  apply Nat.le_of_not_lt; intro h1; have := trim_len_lt hb ha h1; omega
theorem sub_f (a b : List Int) (ha : Ok a) (hb : Ok b) (hla : a.length ≤ 70368744177663) (hlb : b.length ≤ 70368744177663) :
    Ev (fun k => nat_Sub.f k a b) (if val a < val b then ([], 10) else (lm (val a - val b), 0)) := by
  unfold nat_Sub.f
  refine Ev.bind (cmp_f a b ha hb (by omega) (by omega)) ?_
  by_cases h : val a < val b
  · refine ev_pos (by simp [cmp, h]) (ev_now ?_)
    rw [if_pos h]
  · refine ev_neg (by simp only [cmp]; rw [if_neg h]; split <;> omega) ?_
    rw [if_neg h]
    have h1 := trim_len a
    have h2 := trim_len_le hb ha (by omega)
    refine Ev.bind (trim_f a (by omega)) ?_
    refine Ev.bind (trim_f b (by omega)) ?_
    have := less_f (trim a) (trim b) (trim_ok ha) (trim_ok hb) (by omega) h2 (by rw [trim_val, trim_val]; omega)
    rw [trim_val, trim_val] at this
    exact Ev.bind this (ev_now rfl)
end Go.Proofs.Ytmbmbmkmjbpcpaa.PA

