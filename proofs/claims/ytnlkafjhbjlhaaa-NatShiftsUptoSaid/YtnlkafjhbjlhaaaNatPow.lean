/- Powers of the program and of the reference, for lists of at most 1048576 limbs. -/
import Derived.Laws.BitsLemmas
import Derived.Test.YtnlkafjhbjlhaaaNatR3
import Derived.Test.YtnlkafjhbjlhaaaNatBits
import Derived.Test.YtnlkafjhbjlhaaaNatB
import Derived.Test.YtnlkafjhbjlhaaaPAx12
import Derived.Test.YtnlkafjhbjlhaaaPAx18
import Derived.Test.YtnlkafjhbjlhaaaPAx19
import Derived.Test.YtnlkafjhbjlhaaaPAx6
namespace Go.Proofs.Ytnlkafjhbjlhaaa.PA
open Go Go.RowKit Go.Proofs.YtnlkafjhbjlhaaaW.PrintWords Go.Proofs.YtnlkafjhbjlhaaaW.PrintLast Go.Proofs.YtnlkafjhbjlhaaaW.PrintMore
open Go.Proofs.Ytnlkafjhbjlhaaa.Nums

/-! ### powers -/
theorem wraps_i64 (n : Int) (h0 : 0 ≤ n) (h1 : n < 2 ^ 63) : IntKind.i64.wrap n = n := by rw [IntKind.wrap_i64]; omega
theorem and1 {x : Int} (h0 : 0 ≤ x) (h1 : x < 9223372036854775808) : Go.bits .and .i64 x 1 = x % 2 :=
  bits_mask .i64 63 (by decide) wraps_i64 1 (by decide) x h0 (by omega)
theorem lm_one : lm 1 = [1] := by
  have h : Ok [1] := by intro x hx; simp at hx; omega
  have hn : Nrm [1] := by intro x hx; simp at hx; omega
  have := lm_of h hn
  rwa [val_single] at this
theorem pow_one_le {b : Int} (hb : 1 ≤ b) (n : Nat) : 1 ≤ b ^ n := by
  have := Int.pow_pos (n := b) (m := n) (by omega)
  omega
theorem pow_le_self {b : Int} (hb : 1 ≤ b) {m n : Nat} (h : m ≤ n) : b ^ m ≤ b ^ n := by
  obtain ⟨k, rfl⟩ : ∃ k, n = m + k := ⟨n - m, by omega⟩
  rw [Int.pow_add]
  have h1 := pow_one_le hb m
  have h2 := pow_one_le hb k
  have : b ^ m * 1 ≤ b ^ m * b ^ k := Int.mul_le_mul_of_nonneg_left h2 (by omega)
  omega
theorem le_mul_left {x y : Int} (hx : 1 ≤ x) (hy : 0 ≤ y) : y ≤ x * y := by
  have : 1 * y ≤ x * y := Int.mul_le_mul_of_nonneg_right hx hy
  omega
theorem le_mul_right {x y : Int} (hx : 0 ≤ x) (hy : 1 ≤ y) : x ≤ x * y := by
  have : x * 1 ≤ x * y := Int.mul_le_mul_of_nonneg_left hy hx
  omega
theorem mul_lm {x y : Int} (hx : 0 ≤ x) (hy : 0 ≤ y) (h1 : (lm x).length ≤ 35184372088831) (h2 : (lm y).length ≤ 35184372088831) : Ev (fun k => nat_Mul.f k (lm x) (lm y)) (lm (x * y)) := by
  have := mul_f (lm x) (lm y) (lm_ok x) (lm_ok y) (by omega)
  rwa [lm_val hx, lm_val hy] at this
theorem rmul_lm {x y : Int} (hx : 0 ≤ x) (hy : 0 ≤ y) (h1 : (lm x).length ≤ 10000000000) (h2 : (lm y).length ≤ 10000000000) : Ev (fun k => trammelref01_Mul.f k (lm x) (lm y)) (lm (x * y)) := by
  have := rmul_f (lm x) (lm y) (lm_ok x) (lm_ok y) (by omega)
  rwa [lm_val hx, lm_val hy] at this
theorem pow_half (b : Int) (n : Nat) : (b * b) ^ (n / 2) * b ^ (n % 2) = b ^ n := by
  have h : b ^ n = b ^ (n / 2 + n / 2 + n % 2) := by congr 1; omega
  rw [h, Int.pow_add, Int.pow_add, Int.mul_pow]
theorem pow_l0 (R : Int) (hR : R < Bp 32768) (n : Nat) : ∀ (o b : Int), n < 9223372036854775808 → 1 ≤ o → 1 ≤ b → (lm b).length ≤ 35184372088831 → (n = 0 → o < Bp 32768) → o * b ^ n = R →
    Ev (fun k => nat_Pow.l0 k (n : Int) (lm o) (lm b)) (lm R, 0) := by
  induction n using Nat.strongRecOn with
  | ind n ih =>
    intro o b hn ho hb hlb hz inv
    have INV := Aside0.mk inv
    clear inv
    refine Ev.step (fun k => by rw [nat_Pow.l0]) ?_
    by_cases h0 : n = 0
    · subst h0
      refine ev_neg (by omega) (ev_now ?_)
      have := INV.out
      rw [Int.pow_zero, Int.mul_one] at this
      rw [this]
    · have hbn : b ≤ b ^ n := by
        have := pow_le_self hb (show 1 ≤ n by omega)
        rwa [Int.pow_succ, Int.pow_zero, Int.one_mul] at this
      have h1b := pow_one_le hb n
      have hoR : o ≤ R := by rw [← INV.out]; exact le_mul_right (by omega) h1b
      have hbR : b ≤ R := by
        have := le_mul_left ho (show 0 ≤ b ^ n by omega)
        rw [INV.out] at this; omega
      have ll : ∀ x : Int, 0 ≤ x → x ≤ R → (lm x).length ≤ 32768 := fun x h1 h2 => lm_len_le h1 (by omega)
      have lo := ll o (by omega) hoR
      have lb := ll b (by omega) hbR
      refine ev_pos (by omega) ?_
      have hq : (n : Int) / 2 = ((n / 2 : Nat) : Int) := by omega
      rw [and1 (by omega) (by omega), hq]
      have hsq : 1 < n → b * b ≤ R := by
        intro h
        have h2 := pow_le_self hb (show 2 ≤ n by omega)
        rw [Int.pow_succ, Int.pow_succ, Int.pow_zero, Int.one_mul] at h2
        have := le_mul_left ho (show 0 ≤ b ^ n by omega)
        rw [INV.out] at this; omega
      have hbb : 1 ≤ b * b := by have := Int.mul_le_mul hb hb (by omega) (by omega); omega
      have hph := pow_half b n
      by_cases hodd : n % 2 = 1
      · refine ev_pos (by omega) ?_
        refine Ev.bind (mul_lm (by omega) (by omega) (by omega) (by omega)) ?_
        have hob : 1 ≤ o * b := by have := Int.mul_le_mul ho hb (by omega) (by omega); omega
        rw [hodd, Int.pow_succ, Int.pow_zero, Int.one_mul] at hph
        by_cases h1 : n = 1
        · refine ev_neg (by omega) ?_
          have e : o * b = R := by rw [← INV.out, h1, Int.pow_succ, Int.pow_zero, Int.one_mul]
          exact ih (n / 2) (by omega) (o * b) b (by omega) hob hb hlb (by omega) (by rw [h1, e]; simp)
        · refine ev_pos (by omega) ?_
          refine Ev.bind (mul_lm (by omega) (by omega) (by omega) (by omega)) ?_
          have lbb := ll (b * b) (by omega) (hsq (by omega))
          exact ih (n / 2) (by omega) (o * b) (b * b) (by omega) hob hbb (by omega) (by omega) (by rw [← INV.out, ← hph, Int.mul_assoc, Int.mul_comm b])
      · refine ev_neg (by omega) ?_
        have he : n % 2 = 0 := by omega
        rw [he, Int.pow_zero, Int.mul_one] at hph
        refine ev_pos (by omega) ?_
        refine Ev.bind (mul_lm (by omega) (by omega) (by omega) (by omega)) ?_
        have lbb := ll (b * b) (by omega) (hsq (by omega))
        exact ih (n / 2) (by omega) o (b * b) (by omega) ho hbb (by omega) (by omega) (by rw [← INV.out, ← hph])
theorem rpow_l0 (b : Int) (hb : 1 ≤ b) (n : Nat) (hR : b ^ n < Bp 32768) (hlb : (lm b).length ≤ 1000000000) (hn : n < 9223372036854775808) (d : Nat) : ∀ i : Nat, n - i = d → i ≤ n →
    Ev (fun k => trammelref01_Pow.l0 k (n : Int) (lm b) (lm (b ^ i)) (i : Int)) (lm (b ^ n), 0) := by
  induction d with
  | zero =>
    intro i hd hi
    obtain rfl : i = n := by omega
    refine Ev.step (fun k => by rw [trammelref01_Pow.l0]) ?_
    exact ev_neg (by omega) (ev_now rfl)
  | succ d ih =>
    intro i hd hi
    refine Ev.step (fun k => by rw [trammelref01_Pow.l0]) ?_
    refine ev_pos (by omega) ?_
    have h1 := pow_one_le hb i
    have h2 := pow_le_self hb hi
    refine Ev.bind (rmul_lm (by omega) (by omega) (by have := lm_len_le (show 0 ≤ b ^ i by omega) (show b ^ i < Bp 32768 by omega); omega) (by omega)) ?_
    rw [w64 (by omega) (by omega), ← Int.pow_succ]
    have := ih (i + 1) (by omega) (by omega)
    simpa using this
def powR (l : List Int) (n : Int) : List Int × Int :=
  if n < 0 then ([], 1) else if bl (val l).toNat ≤ 1 then (if n = 0 then ([1], 0) else (trim l, 0)) else if 1048576 < (bl (val l).toNat : Int) * n then ([], 2) else (lm (val l ^ n.toNat), 0)
theorem pow_boundq {a : Int} (ha : 0 ≤ a) {n q : Nat} (h : (bl a.toNat : Int) * (n : Int) ≤ 32 * (q : Int)) : a ^ n < Bp q ∨ n = 0 := by
  by_cases h0 : n = 0
  · exact .inr h0
  · left
    have h1 := bl_lt a.toNat
    have h2 : a.toNat ^ n < (2 ^ bl a.toNat) ^ n := Nat.pow_lt_pow_left h1 h0
    rw [← Nat.pow_mul] at h2
    have h3 : bl a.toNat * n ≤ 32 * q := by
      have : ((bl a.toNat * n : Nat) : Int) ≤ 32 * (q : Int) := by rw [Int.natCast_mul]; exact h
      omega
    have h4 : 2 ^ (bl a.toNat * n) ≤ 2 ^ (32 * q) := Nat.pow_le_pow_right (by omega) h3
    rw [pow32] at h4
    rw [Bp_nat]
    have h5 : a ^ n = ((a.toNat ^ n : Nat) : Int) := by
      rw [Int.natCast_pow]; congr 1; omega
    rw [h5]
    exact Int.ofNat_lt.mpr (Nat.lt_of_lt_of_le h2 h4)
theorem pow_bound {a : Int} (ha : 0 ≤ a) {n : Nat} (h : (bl a.toNat : Int) * (n : Int) ≤ 1048576) : a ^ n < Bp 32768 ∨ n = 0 :=
  pow_boundq ha (q := 32768) (by omega)
theorem bl_len {l : List Int} (ho : Ok l) {N : Nat} (hl : l.length ≤ N) : bl (val l).toNat ≤ 32 * N := by
  apply bl_le
  rw [pow32]
  have h1 := val_lt ho
  have h2 := Bp_le hl
  rw [Bp_nat N] at h2
  have := val_nonneg ho
  omega
theorem bl_two {a : Int} (h : 1 < bl a.toNat) : 2 ≤ a := by
  have := le_bl (show 1 < bl a.toNat from h)
  simp at this; omega
theorem pow_j1 (l : List Int) (ho : Ok l) (hl : l.length ≤ 1048576) (n : Nat) (hn : n < 9223372036854775808) (hb : n = 0 ∨ 1 ≤ val l) (hp : (bl (val l).toNat : Int) * n ≤ 1048576) :
    Ev (fun k => nat_Pow.j1 k l (n : Int) false) (lm (val l ^ n), 0) := by
  refine Ev.step (fun k => by rw [nat_Pow.j1]) ?_
  refine ev_neg (by simp) ?_
  refine Ev.bind (norm_f l (by omega)) ?_
  have hnn := val_nonneg ho
  have h1 : [1] = lm 1 := lm_one.symm
  by_cases h0 : n = 0
  · subst h0
    refine Ev.step (fun k => by rw [nat_Pow.l0]) ?_
    refine ev_neg (by omega) (ev_now ?_)
    rw [Int.pow_zero, lm_one]
  · have hb1 : 1 ≤ val l := by omega
    have hR := (pow_bound hnn hp).resolve_right h0
    rw [h1, trim_lm ho]
    refine pow_l0 (val l ^ n) hR n 1 (val l) hn (by omega) hb1 ?_ (by omega) (by rw [Int.one_mul])
    have := trim_len l
    rw [← trim_lm ho]; omega
theorem pow_f (l : List Int) (ho : Ok l) (hl : l.length ≤ 1048576) (n : Int) (hn : n < 9223372036854775808) : Ev (fun k => nat_Pow.f k l n) (powR l n) := by
  unfold nat_Pow.f powR
  by_cases h : n < 0
  · refine ev_pos h (ev_now ?_)
    rw [if_pos h]
  · refine ev_neg h ?_
    rw [if_neg h]
    obtain ⟨m, rfl⟩ : ∃ m : Nat, n = (m : Int) := ⟨n.toNat, by omega⟩
    have hbits := bits_f l ho (by omega)
    have hle : bl (val l).toNat ≤ 32 * 1048576 := bl_len ho hl
    refine Ev.bind hbits ?_
    by_cases h1 : bl (val l).toNat ≤ 1
    · rw [if_pos h1]
      refine ev_neg (by omega) ?_
      refine Ev.step (fun k => by rw [nat_Pow.j0]) ?_
      refine ev_neg (by simp) ?_
      by_cases h0 : m = 0
      · subst h0
        refine ev_neg (by omega) ?_
        have := pow_j1 l ho hl 0 (by omega) (.inl rfl) (by simp)
        rw [Int.pow_zero, lm_one] at this
        simpa using this
      · refine ev_pos (by omega) ?_
        refine Ev.bind hbits ?_
        rw [decide_eq_true (by omega), if_neg (by omega)]
        refine Ev.step (fun k => by rw [nat_Pow.j1]) ?_
        refine ev_pos rfl ?_
        exact Ev.bind (norm_f l (by omega)) (ev_now rfl)
    · rw [if_neg h1]
      refine ev_pos (by omega) ?_
      refine ev_neg (by omega) ?_
      have hb2 := bl_two (show 1 < bl (val l).toNat by omega)
      have hdiv : ((m : Int) > wrap64 ((1048576 : Int) / (bl (val l).toNat : Int))) ↔ 1048576 < (bl (val l).toNat : Int) * (m : Int) := by
        have hd0 : 0 ≤ (1048576 : Int) / (bl (val l).toNat : Int) := Int.ediv_nonneg (by omega) (by omega)
        have hd1 : (1048576 : Int) / (bl (val l).toNat : Int) ≤ 1048576 := Int.ediv_le_self _ (by omega)
        rw [w64 (by omega) (by omega)]
        constructor
        · intro hx
          have := Int.lt_mul_of_ediv_lt (show (0 : Int) < (bl (val l).toNat : Int) by omega) hx
          rwa [Int.mul_comm] at this
        · intro hx
          apply Int.ediv_lt_of_lt_mul (by omega)
          rwa [Int.mul_comm]
      rw [decide_eq_decide.mpr hdiv]
      refine Ev.step (fun k => by rw [nat_Pow.j0]) ?_
      by_cases h2 : 1048576 < (bl (val l).toNat : Int) * (m : Int)
      · rw [decide_eq_true h2, if_pos h2]
        exact ev_pos rfl (ev_now rfl)
      · rw [decide_eq_false h2, if_neg h2]
        refine ev_neg (by simp) ?_
        have hj := pow_j1 l ho hl m (by omega) (.inr (by omega)) (by omega)
        rw [Int.toNat_natCast]
        by_cases h0 : m = 0
        · exact ev_neg (by omega) hj
        · refine ev_pos (by omega) ?_
          refine Ev.bind hbits ?_
          rw [decide_eq_false (by omega)]
          exact hj
theorem rpow_f (l : List Int) (ho : Ok l) (hl : l.length ≤ 1048576) (n : Int) (hn : n < 9223372036854775808) : Ev (fun k => trammelref01_Pow.f k l n) (powR l n) := by
  unfold trammelref01_Pow.f powR
  by_cases h : n < 0
  · refine ev_pos h (ev_now ?_)
    rw [if_pos h]
  · refine ev_neg h ?_
    rw [if_neg h]
    obtain ⟨m, rfl⟩ : ∃ m : Nat, n = (m : Int) := ⟨n.toNat, by omega⟩
    have tl := trim_len l
    have hbits := rbits_f (trim l) (trim_ok ho) (by omega)
    rw [trim_val] at hbits
    have hle : bl (val l).toNat ≤ 32 * 1048576 := bl_len ho hl
    refine Ev.bind (rnorm_f l (by omega)) ?_
    refine Ev.bind hbits ?_
    by_cases h1 : bl (val l).toNat ≤ 1
    · rw [if_pos h1]
      refine ev_pos (by omega) ?_
      by_cases h0 : m = 0
      · subst h0
        exact ev_pos rfl (ev_now rfl)
      · refine ev_neg (by omega) (ev_now ?_)
        rw [if_neg (by omega)]
    · rw [if_neg h1]
      refine ev_neg (by omega) ?_
      have hb2 := bl_two (show 1 < bl (val l).toNat by omega)
      by_cases h3 : (m : Int) > 1048576
      · refine ev_pos h3 ?_
        have : 1048576 < (bl (val l).toNat : Int) * (m : Int) := by
          have := le_mul_left (show (1 : Int) ≤ (bl (val l).toNat : Int) by omega) (show (0 : Int) ≤ (m : Int) by omega)
          omega
        rw [if_pos this]
        refine Ev.step (fun k => by rw [trammelref01_Pow.j0]) ?_
        exact ev_pos rfl (ev_now rfl)
      · refine ev_neg h3 ?_
        refine Ev.bind hbits ?_
        have hm : (bl (val l).toNat : Int) * (m : Int) ≤ 33554432 * 1048576 := Int.mul_le_mul (by omega) (by omega) (by omega) (by omega)
        have hm0 : 0 ≤ (bl (val l).toNat : Int) * (m : Int) := Int.mul_nonneg (by omega) (by omega)
        rw [w64 (by omega) (by omega)]
        refine Ev.step (fun k => by rw [trammelref01_Pow.j0]) ?_
        by_cases h2 : 1048576 < (bl (val l).toNat : Int) * (m : Int)
        · rw [decide_eq_true h2, if_pos h2]
          exact ev_pos rfl (ev_now rfl)
        · rw [decide_eq_false (by omega), if_neg h2]
          refine ev_neg (by simp) ?_
          rw [Int.toNat_natCast, trim_lm ho, ← lm_one]
          by_cases h0 : m = 0
          · subst h0
            refine Ev.step (fun k => by rw [trammelref01_Pow.l0]) ?_
            refine ev_neg (by omega) (ev_now ?_)
            rw [Int.pow_zero]
          · have hR := (pow_bound (val_nonneg ho) (show (bl (val l).toNat : Int) * (m : Int) ≤ 1048576 by omega)).resolve_right h0
            have := rpow_l0 (val l) (by omega) m hR (by rw [← trim_lm ho]; omega) (by omega) m 0 (by omega) (by omega)
            rw [Int.pow_zero] at this
            simpa using this
theorem powR_len (l : List Int) (ho : Ok l) (hl : l.length ≤ 1048576) (n : Int) : (powR l n).1.length ≤ 1048577 := by
  unfold powR
  split
  · simp
  · split
    · split
      · simp
      · have := trim_len l; simp; omega
    · split
      · simp
      · rename_i h1 h2 h3
        obtain ⟨m, rfl⟩ : ∃ m : Nat, n = (m : Int) := ⟨n.toNat, by omega⟩
        rw [Int.toNat_natCast]
        rcases pow_bound (val_nonneg ho) (show (bl (val l).toNat : Int) * (m : Int) ≤ 1048576 by omega) with h | h
        · have hb := bl_two (show 1 < bl (val l).toNat by omega)
          have h0 := pow_one_le (show 1 ≤ val l by omega) m
          have := lm_len_le (show 0 ≤ val l ^ m by omega) h
          simp only; omega
        · subst h; rw [Int.pow_zero, lm_one]; simp
end Go.Proofs.Ytnlkafjhbjlhaaa.PA
