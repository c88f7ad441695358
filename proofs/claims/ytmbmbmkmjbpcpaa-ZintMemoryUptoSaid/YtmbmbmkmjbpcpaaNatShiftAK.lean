/- The inner shifts of the program, the reference's power of two and its shift to the right, for lists of at most 1000000000 limbs. -/
import Derived.Laws.BitsLemmas
import Derived.Test.YtmbmbmkmjbpcpaaNatPowAK
import Derived.Test.YtmbmbmkmjbpcpaaNatShortK
import Derived.Test.YtmbmbmkmjbpcpaaNatR2K
import Derived.Test.YtmbmbmkmjbpcpaaPAx11K
import Derived.Test.YtmbmbmkmjbpcpaaPAx12K
import Derived.Test.YtmbmbmkmjbpcpaaPAx13K
import Derived.Test.YtmbmbmkmjbpcpaaPAx14K
namespace Go.Proofs.Ytmbmbmkmjbpcpaa.PA
open Go Go.RowKit Go.Proofs.YtmbmbmkmjbpcpaaW.PrintWords Go.Proofs.YtmbmbmkmjbpcpaaW.PrintLast Go.Proofs.YtmbmbmkmjbpcpaaW.PrintMore
open Go.Proofs.Ytmbmbmkmjbpcpaa.Nums
set_option linter.unusedVariables false

/-! ### shifts -/
theorem or_swap (k : IntKind) (x y : Int) : Go.bits .or k x y = Go.bits .or k y x := by simp only [Go.bits, BitVec.or_comm]
theorem two_split (n : Nat) : (2 : Int) ^ n = Bp (n / 32) * 2 ^ (n % 32) := by
  have h : (2 : Int) ^ n = 2 ^ (32 * (n / 32) + n % 32) := by congr 1; omega
  rw [h, Int.pow_add, Int.pow_mul]
  have h2 : (2 : Int) ^ 32 = 4294967296 := rfl
  rw [h2]; unfold Bp; rfl
theorem two_pow_small {s : Nat} (hs : s < 32) : ∃ p c : Int, (2 : Int) ^ s = p ∧ 1 ≤ p ∧ 2 ≤ c ∧ p * c = 4294967296 ∧ p ≤ 2147483648 := by
  refine ⟨2 ^ s, 2 ^ (32 - s), rfl, ?_, ?_, ?_, ?_⟩
  · have := Int.pow_pos (n := (2 : Int)) (m := s) (by omega); omega
  · have h : (2 : Int) ^ (32 - s) = 2 ^ (31 - s) * 2 := by rw [← Int.pow_succ]; congr 1; omega
    have := Int.pow_pos (n := (2 : Int)) (m := 31 - s) (by omega); omega
  · rw [← Int.pow_add]
    have : s + (32 - s) = 32 := by omega
    rw [this]; rfl
  · have h : (2 : Int) ^ 31 = 2 ^ s * 2 ^ (31 - s) := by rw [← Int.pow_add]; congr 1; omega
    have h1 := Int.pow_pos (n := (2 : Int)) (m := 31 - s) (by omega)
    have h2 := Int.pow_pos (n := (2 : Int)) (m := s) (by omega)
    have h3 : (2 : Int) ^ s * 1 ≤ 2 ^ s * 2 ^ (31 - s) := Int.mul_le_mul_of_nonneg_left (by omega) (by omega)
    have h4 : (2 : Int) ^ 31 = 2147483648 := rfl
    omega
theorem mul_emod_dvd {x p c : Int} (h : p * c = 4294967296) : x * p % 4294967296 % p = 0 := by
  rw [Int.emod_emod_of_dvd _ ⟨c, h.symm⟩]; exact Int.mul_emod_left x p
theorem mul_div_lt {x p c : Int} (hp : 1 ≤ p) (h : p * c = 4294967296) (hx0 : 0 ≤ x) (hx : x < 4294967296) : 0 ≤ x * p / 4294967296 ∧ x * p / 4294967296 < p := by
  constructor
  · exact Int.ediv_nonneg (Int.mul_nonneg hx0 (by omega)) (by omega)
  · apply Int.ediv_lt_of_lt_mul (by omega)
    have : x * p < 4294967296 * p := Int.mul_lt_mul_of_pos_right hx (by omega)
    rwa [Int.mul_comm p]
theorem or_lo {s : Nat} {p c o x : Int} (hs : s ≤ 32) (hp2 : (2 : Int) ^ s = p) (hp : 1 ≤ p) (hpm : p ≤ 2147483648) (h : p * c = 4294967296) (h0 : 0 ≤ o) (h1 : o < p) (hx : 0 ≤ x) :
    Go.bits .or .u32 o (x * p % 4294967296) = o + x * p % 4294967296 := by
  rw [or_swap, Int.add_comm]
  refine bits_join .u32 32 (by decide) wraps_u32 s _ _ (by omega) ?_ (by omega) h0 (by omega) (by omega)
  rw [hp2]; exact mul_emod_dvd h
theorem idx1 {i w : Nat} (h : i + w ≤ 70368744177664) : wrap64 ((i : Int) + (w : Int)) = ((i + w : Nat) : Int) := by rw [w64 (by omega) (by omega)]; omega
theorem idx2 {n : Nat} (h : n ≤ 70368744177664) : wrap64 ((n : Int) + 1) = ((n + 1 : Nat) : Int) := by rw [w64 (by omega) (by omega)]; omega
theorem shl_u64 {x p : Int} {s : Nat} (hs : s < 32) (hp2 : (2 : Int) ^ s = p) (hp : 1 ≤ p) (hpm : p ≤ 2147483648) (hx0 : 0 ≤ x) (hx : x < 4294967296) : shl .u64 (IntKind.u64.wrap x) (s : Int) = x * p := by
  unfold shl
  rw [u64w hx0 (by omega), Int.toNat_natCast, Nat.min_eq_left (by simp [IntKind.bits]; omega), hp2]
  have h1 : x * p ≤ 4294967296 * 2147483648 := Int.mul_le_mul (by omega) hpm (by omega) (by omega)
  exact u64w (Int.mul_nonneg hx0 (by omega)) (by omega)
theorem or_fits {o x p c : Int} (hp : 1 ≤ p) (h : p * c = 4294967296) (hot : o < p) : o + x * p % 4294967296 < 4294967296 := by
  generalize hm : x * p % 4294967296 = m
  have hm0 : 0 ≤ m ∧ m < 4294967296 := by omega
  have h1 : m % p = 0 := by rw [← hm]; exact mul_emod_dvd h
  have h2 := Int.mul_ediv_add_emod m p
  rw [h1, Int.add_zero] at h2
  have h3 : m / p < c := Int.ediv_lt_of_lt_mul (by omega) (by rw [Int.mul_comm, h]; omega)
  have h4 : p * (m / p) ≤ p * (c - 1) := Int.mul_le_mul_of_nonneg_left (by omega) (by omega)
  rw [Int.mul_sub, h] at h4
  omega
theorem getD_set_self (l : List Int) (n : Nat) (v : Int) (h : n < l.length) : (l.set n v).getD n 0 = v := by simp [List.getD, h]
theorem shlA {V O M Q X Wb Bi p x v : Int} (inv : V = Wb * (X * p)) (hv : M + 4294967296 * Q = v) (hx : v = x * p) : V + Bi * Wb * (O + M - O) + 4294967296 * (Bi * Wb) * (Q - 0) = Wb * ((X + Bi * x) * p) := by
  subst hx; rw [inv]
  have : Bi * Wb * M + 4294967296 * (Bi * Wb) * Q = Bi * Wb * (x * p) := by rw [← hv]; grind
  grind
theorem shl_l0 (a : List Int) (ha : Ok a) (w s : Nat) (hs : s < 32) (hl : a.length + w ≤ 70368744177663) (d : Nat) : ∀ (out : List Int) (i : Nat), a.length - i = d → i ≤ a.length → Ok out → out.length = a.length + w + 1 →
    val out = Bp w * (val (a.take i) * 2 ^ s) → out.getD (i + w) 0 < 2 ^ s → (∀ j, i + w < j → out.getD j 0 = 0) →
    Ev (fun k => nat_shl.l0 k a (w : Int) (s : Int) out (a.length : Int) (i : Int)) (lm (Bp w * (val a * 2 ^ s))) := by
  obtain ⟨p, c, hp2, hp, hc, hpc, hpm⟩ := two_pow_small hs
  rw [hp2]
  have HP := Aside0.mk hp2
  have PC := Aside0.mk hpc
  clear hp2 hpc
  induction d with
  | zero =>
    intro out i hd hi ho hlo inv htop hz
    refine Ev.step (fun k => by rw [nat_shl.l0]) ?_
    refine ev_neg (by omega) ?_
    refine Ev.bind (trim_own_f _ (by omega)) (ev_now ?_)
    rw [trim_lm ho, inv, List.take_of_length_le (by omega)]
  | succ d ih =>
    intro out i hd hi ho hlo inv htop hz
    have INV := Aside0.mk inv
    have hot : rd out ((i + w : Nat) : Int) < p := by rw [rd_getD]; exact htop
    have HZ := Aside0.mk hz
    clear inv htop hz
    have hx := rd_ok ha (i : Int)
    have ho1 := rd_ok ho ((i + w : Nat) : Int)
    refine Ev.step (fun k => by rw [nat_shl.l0]) ?_
    rw [idx1 (i := i) (w := w) (by omega), idx2 (n := i + w) (by omega), shl_u64 hs HP.out hp hpm hx.1 hx.2, idx2 (n := i) (by omega)]
    refine ev_pos (by omega) (ev_pos (by omega) (ev_pos (by omega) (ev_pos (by omega) (ev_pos (by omega) (ev_pos (by omega) (ev_pos (by omega) (ev_pos (by omega) ?_)))))))
    rw [Int.toNat_natCast, Int.toNat_natCast]
    have hq := mul_div_lt hp PC.out hx.1 hx.2
    have hmo := or_fits (x := rd a i) hp PC.out hot
    rw [or_lo (by omega) HP.out hp hpm PC.out ho1.1 hot hx.1]
    generalize hm : rd a i * p % 4294967296 = m at hmo ⊢
    generalize hqq : rd a i * p / 4294967296 = q at hq ⊢
    have hq2 : q % 4294967296 = q := by omega
    rw [hq2]
    have hm0 : 0 ≤ m ∧ m < 4294967296 := by omega
    have hmq : m + 4294967296 * q = rd a i * p := by omega
    refine ih _ (i + 1) (by omega) (by omega) (ok_set (ok_set ho _ (by omega) (by omega)) _ (by omega) (by omega)) (by simpa using hlo) ?_ ?_ ?_
    · rw [val_set_mid _ _ _ (by simp; omega), val_set_mid _ _ _ (by omega), getD_set_ne _ _ _ _ (by omega), HZ.out (i + w + 1) (by omega), val_take_succ a i (by omega), Bp_succ, Bp_add, ← rd_getD, ← rd_getD]
      exact shlA INV.out hmq rfl
    · have : i + 1 + w = i + w + 1 := by omega
      rw [this]
      rw [getD_set_self _ _ _ (by simp; omega)]; omega
    · intro j hj
      rw [getD_set_ne _ _ _ _ (by omega), getD_set_ne _ _ _ _ (by omega)]
      exact HZ.out j (by omega)
theorem getD_zeros (n j : Nat) : (List.replicate n (0 : Int)).getD j 0 = 0 := by
  simp only [List.getD]
  by_cases h : j < n
  · simp [h]
  · simp [h]
theorem tdiv_nat (n : Nat) : Int.tdiv (n : Int) 32 = ((n / 32 : Nat) : Int) := by rw [Int.tdiv_eq_ediv_of_nonneg (by omega)]; omega
theorem tmod_nat (n : Nat) : Int.tmod (n : Int) 32 = ((n % 32 : Nat) : Int) := by rw [Int.tmod_eq_emod_of_nonneg (by omega)]; omega
theorem shl_f (l : List Int) (ho : Ok l) (n : Nat) (hl : l.length + n / 32 ≤ 70368744177663) : Ev (fun k => nat_shl.f k l (n : Int)) (lm (val l * 2 ^ n)) := by
  unfold nat_shl.f
  refine Ev.bind (trim_f _ (by omega)) ?_
  have htl := trim_len l
  have hto := trim_ok ho
  by_cases h0 : trim l = []
  · refine ev_pos (by rw [h0]; rfl) (ev_now ?_)
    rw [← trim_val l, h0, val_nil, Int.zero_mul, lm_zero]
  · have hlen : (trim l).length ≠ 0 := fun h => h0 (List.eq_nil_of_length_eq_zero h)
    refine ev_neg (by omega) ?_
    rw [tdiv_nat, tmod_nat, w64 (n := ((n / 32 : Nat) : Int)) (by omega) (by omega), w64 (n := ((trim l).length : Int) + ((n / 32 : Nat) : Int)) (by omega) (by omega), w64 (n := ((trim l).length : Int) + ((n / 32 : Nat) : Int) + 1) (by omega) (by omega), u64w (n := ((n % 32 : Nat) : Int)) (by omega) (by omega)]
    refine ev_pos (by omega) (ev_pos (by omega) ?_)
    have := shl_l0 (trim l) hto (n / 32) (n % 32) (by omega) (by omega) (trim l).length (List.replicate ((trim l).length + n / 32 + 1) 0) 0 (by omega) (by omega) (ok_replicate _) (by simp) (by simp [val_zeros, val_nil]) (by rw [getD_zeros]; exact Int.pow_pos (by omega)) (fun j _ => getD_zeros _ _)
    have e : Bp (n / 32) * (val (trim l) * 2 ^ (n % 32)) = val l * 2 ^ n := by rw [two_split n, trim_val]; grind
    rw [e] at this
    have ez : (((trim l).length : Int) + ((n / 32 : Nat) : Int) + 1).toNat = (trim l).length + n / 32 + 1 := by omega
    rw [ez]
    exact this

/-! right -/
theorem shr_limb {p c x y : Int} (hp : 1 ≤ p) (hc : 2 ≤ c) (h : p * c = 4294967296) (hx0 : 0 ≤ x) (hx : x < 4294967296) (hy0 : 0 ≤ y) : p * ((x + y * 4294967296) / p % 4294967296) = x - x % p + 4294967296 * (y % p) := by
  have e1 : x + y * 4294967296 = x + p * (y * c) := by rw [← h]; grind
  rw [e1, Int.add_mul_ediv_left _ _ (by omega)]
  have h1 := Int.mul_ediv_add_emod y p
  have h2 := Int.mul_ediv_add_emod x p
  have hm0 : 0 ≤ y % p := Int.emod_nonneg _ (by omega)
  have hm1 : y % p < p := Int.emod_lt_of_pos _ (by omega)
  have hq0 : 0 ≤ x / p := Int.ediv_nonneg hx0 (by omega)
  have hq1 : x / p < c := Int.ediv_lt_of_lt_mul (by omega) (by rw [Int.mul_comm, h]; exact hx)
  generalize y / p = yq at h1
  generalize y % p = ym at h1 hm0 hm1 ⊢
  generalize x / p = xq at h2 hq0 hq1 ⊢
  generalize x % p = xm at h2 ⊢
  have e2 : xq + y * c = (xq + ym * c) + 4294967296 * yq := by rw [← h1, ← h]; grind
  rw [e2, Int.add_mul_emod_self_left]
  have h5 : ym * c ≤ (p - 1) * c := Int.mul_le_mul_of_nonneg_right (by omega) (by omega)
  rw [Int.sub_mul, h, Int.one_mul] at h5
  have h6 : 0 ≤ ym * c := Int.mul_nonneg hm0 (by omega)
  rw [Int.emod_eq_of_lt (by omega) (by omega), Int.mul_add]
  have h7 : p * (ym * c) = 4294967296 * ym := by rw [← h]; grind
  rw [h7]; omega
theorem shrA {p W S o x B m y z : Int} (inv : p * W + z = S + B * m) (h : p * o = x - m + 4294967296 * y) : p * (W + B * o) + z = S + B * x + 4294967296 * B * y := by
  have : p * (B * o) = B * (p * o) := by grind
  rw [Int.mul_add, this, h]; grind
theorem shr_end {p V W z : Int} (h : p * W + z = V) (hz0 : 0 ≤ z) (hz : z < p) : V / p = W := (div_eq (by rw [← h, Int.mul_comm]) hz0 hz).1
theorem drop_getD (a : List Int) (w i : Nat) : (a.drop w).getD i 0 = a.getD (i + w) 0 := by
  simp only [List.getD, List.getElem?_drop]; congr 2; omega
theorem val_drop_div {a : List Int} (ha : Ok a) (w : Nat) : val (a.drop w) = val a / Bp w := by
  have h := val_split a w
  have h1 := take_lt ha w
  have h2 := val_nonneg (ok_take ha w)
  exact (div_eq (q := val (a.drop w)) (r := val (a.take w)) (by rw [h]; grind) h2 h1).1.symm
theorem shr_div {a : List Int} (ha : Ok a) {n : Nat} {p W z : Int} (hp : (2 : Int) ^ (n % 32) = p) (h : p * W + z = val (a.drop (n / 32))) (hz0 : 0 ≤ z) (hz : z < p) : W = val a / 2 ^ n := by
  rw [two_split n, ← Int.ediv_ediv_of_nonneg (by have := Bp_pos (n / 32); omega), ← val_drop_div ha, hp, shr_end h hz0 hz]
theorem shr_u64 {v p : Int} {s : Nat} (hs : s < 32) (hp2 : (2 : Int) ^ s = p) : shr .u64 v (s : Int) = v / p := by
  unfold shr
  rw [Int.toNat_natCast, Nat.min_eq_left (by simp [IntKind.bits]; omega), hp2]
theorem or_hi2 {x y : Int} (hx0 : 0 ≤ x) (hx1 : x < 4294967296) (h0 : 0 ≤ y) (h1 : y < 4294967296) : Go.bits .or .u64 x (y * 4294967296) = x + y * 4294967296 := by
  rw [or_swap, or_hi h0 h1 hx0 hx1, Int.add_comm]
theorem take_len_any (a : List Int) (n : Nat) (h : a.length ≤ n) : a.take n = a := List.take_of_length_le h
theorem shr_l0 (a : List Int) (ha : Ok a) (w s : Nat) (hs : s < 32) (hl : a.length ≤ 70368744177663) (p z : Int) (hp2 : (2 : Int) ^ s = p) (L : Nat) (hL : L + w = a.length) (d : Nat) : ∀ (out : List Int) (i : Nat), L - i = d → i ≤ L → Ok out → out.length = L →
    p * val (out.take i) + z = val ((a.drop w).take i) + Bp i * (a.getD (i + w) 0 % p) →
    ∃ o : List Int, Ok o ∧ p * val o + z = val (a.drop w) ∧ Ev (fun k => nat_shr.l0 k a (w : Int) (s : Int) out (L : Int) (i : Int)) (trim o) := by
  obtain ⟨p', c, hp3, hp, hc, hpc, hpm⟩ := two_pow_small hs
  have hpp : p' = p := by rw [← hp3, hp2]
  subst hpp
  have HP := Aside0.mk hp2
  have PC := Aside0.mk hpc
  clear hp2 hp3 hpc
  induction d with
  | zero =>
    intro out i hd hi ho hlo inv
    refine ⟨out, ho, ?_, ?_⟩
    · rw [getD_ge a (i + w) (by omega), take_len_any _ i (by omega), take_len_any _ i (by simp; omega)] at inv
      simpa using inv
    · refine Ev.step (fun k => by rw [nat_shr.l0]) ?_
      refine ev_neg (by omega) ?_
      exact Ev.bind (trim_own_f _ (by omega)) (ev_now rfl)
  | succ d ih =>
    intro out i hd hi ho hlo inv
    have INV := Aside0.mk inv
    clear inv
    have hx := rd_ok ha ((i + w : Nat) : Int)
    have hy := ok_getD ha (i + w + 1)
    have hg := shr_limb hp hc PC.out hx.1 hx.2 hy.1
    have HG := Aside0.mk hg
    clear hg
    generalize hv : (rd a ((i + w : Nat) : Int) + a.getD (i + w + 1) 0 * 4294967296) = v at HG
    have HV := Aside0.mk hv
    clear hv
    have hm : 0 ≤ v / p' % 4294967296 ∧ v / p' % 4294967296 < 4294967296 := by omega
    have inv2 : p' * val ((out.set i (v / p' % 4294967296)).take (i + 1)) + z = val ((a.drop w).take (i + 1)) + Bp (i + 1) * (a.getD (i + 1 + w) 0 % p') := by
      rw [val_set_take out i _ (by omega), val_take_any, drop_getD, Bp_succ, Nat.add_right_comm i 1 w]
      refine shrA INV.out ?_
      rw [← rd_getD]
      exact HG.out
    have INV2 := Aside0.mk inv2
    clear inv2
    obtain ⟨o, h1, h2, h3⟩ := ih (out.set i (v / p' % 4294967296)) (i + 1) (by omega) (by omega) (ok_set ho _ hm.1 hm.2) (by simpa using hlo) INV2.out
    refine ⟨o, h1, h2, ?_⟩
    refine Ev.step (fun k => by rw [nat_shr.l0]) ?_
    rw [idx1 (i := i) (w := w) (by omega), idx2 (n := i + w) (by omega), shr_u64 hs HP.out, shr_u64 hs HP.out, idx2 (n := i) (by omega), u64w (n := rd a ((i + w : Nat) : Int)) (by omega) (by omega), Int.toNat_natCast]
    refine ev_pos (by omega) (ev_pos (by omega) (ev_pos (by omega) ?_))
    by_cases hy2 : i + w + 1 < a.length
    · refine ev_pos (by omega) (ev_pos (by omega) (ev_pos (by omega) (ev_pos (by omega) (ev_pos (by omega) ?_))))
      rw [rd_getD a (i + w + 1), u64w (n := a.getD (i + w + 1) 0) (by omega) (by omega), u64w (n := a.getD (i + w + 1) 0 * 4294967296) (by omega) (by omega), or_hi2 hx.1 hx.2 hy.1 hy.2, HV.out]
      exact h3
    · refine ev_neg (by omega) (ev_pos (by omega) (ev_pos (by omega) (ev_pos (by omega) ?_)))
      have := HV.out
      rw [getD_ge a (i + w + 1) (by omega), Int.zero_mul, Int.add_zero] at this
      rw [this]
      exact h3
theorem shr_f (l : List Int) (ho : Ok l) (hl : l.length ≤ 70368744177663) (n : Nat) (hn : n < 9223372036854775808) : Ev (fun k => nat_shr.f k l (n : Int)) (lm (val l / 2 ^ n)) := by
  unfold nat_shr.f
  refine Ev.bind (trim_f _ (by omega)) ?_
  have htl := trim_len l
  have hto := trim_ok ho
  rw [tdiv_nat, tmod_nat, w64 (n := ((n / 32 : Nat) : Int)) (by omega) (by omega), u64w (n := ((n % 32 : Nat) : Int)) (by omega) (by omega)]
  by_cases h0 : (trim l).length ≤ n / 32
  · refine ev_pos (by omega) (ev_now ?_)
    have h1 := val_lt hto
    have h2 := Bp_le h0
    have h3 : Bp (n / 32) ≤ 2 ^ n := by
      rw [two_split n]
      have h4 : (1 : Int) ≤ 2 ^ (n % 32) := pow_one_le (by omega) _
      have h5 : Bp (n / 32) * 1 ≤ Bp (n / 32) * 2 ^ (n % 32) := Int.mul_le_mul_of_nonneg_left h4 (by have := Bp_pos (n / 32); omega)
      omega
    rw [trim_val] at h1
    rw [Int.ediv_eq_zero_of_lt (val_nonneg ho) (by omega), lm_zero]
  · refine ev_neg (by omega) ?_
    obtain ⟨L, hL⟩ : ∃ L, L + n / 32 = (trim l).length := ⟨(trim l).length - n / 32, by omega⟩
    have e : ((trim l).length : Int) - ((n / 32 : Nat) : Int) = (L : Int) := by omega
    rw [e, w64 (n := (L : Int)) (by omega) (by omega), Int.toNat_natCast]
    refine ev_pos (by omega) (ev_pos (by omega) (Ev.bind (Ev.now _) ?_))
    obtain ⟨p, c, hp2, hp, hc, hpc, hpm⟩ := two_pow_small (Nat.mod_lt n (show 32 > 0 by omega))
    have hz0 : 0 ≤ (trim l).getD (n / 32) 0 % p := Int.emod_nonneg _ (by omega)
    have hz1 : (trim l).getD (n / 32) 0 % p < p := Int.emod_lt_of_pos _ (by omega)
    obtain ⟨o, h1, h2, h3⟩ := shr_l0 (trim l) hto (n / 32) (n % 32) (Nat.mod_lt n (by omega)) (by omega) p ((trim l).getD (n / 32) 0 % p) hp2 L hL L (List.replicate L 0) 0 (by omega) (by omega) (ok_replicate _) (by simp) (by simp [val_nil, Bp_zero])
    have h4 := shr_div hto hp2 h2 hz0 hz1
    rw [trim_lm h1, h4, trim_val] at h3
    simpa using h3

/-! ### the document's shifts, and both tops -/
def twoL (n : Nat) : List Int := List.replicate (n / 32) 0 ++ [2 ^ (n % 32)]
theorem twoL_val (n : Nat) : val (twoL n) = 2 ^ n := by rw [twoL, val_append, val_zeros, val_single, two_split n]; simp
theorem twoL_len (n : Nat) : (twoL n).length = n / 32 + 1 := by simp [twoL]
theorem two_lim (n : Nat) : 0 ≤ (2 : Int) ^ (n % 32) ∧ (2 : Int) ^ (n % 32) < 4294967296 := by
  obtain ⟨p, c, hp2, hp, hc, hpc, hpm⟩ := two_pow_small (Nat.mod_lt n (show 32 > 0 by omega))
  rw [hp2]; omega
theorem twoL_ok (n : Nat) : Ok (twoL n) := by
  have := two_lim n
  exact ok_append.mpr ⟨ok_replicate _, ok_cons.mpr ⟨this, ok_nil⟩⟩
theorem bl_mul_two {v : Int} (hv : 0 < v) (m : Nat) : bl (v * 2 ^ m).toNat = bl v.toNat + m := by
  have h1 := bl_shift (n := v.toNat) (by omega) m
  rw [← h1]; congr 1
  have h2 : ((v.toNat * 2 ^ m : Nat) : Int) = v * 2 ^ m := by
    rw [Int.natCast_mul, Int.natCast_pow, Int.toNat_of_nonneg (by omega)]; rfl
  omega
theorem lm_bl_len {v : Int} (h0 : 0 ≤ v) {q : Nat} (h : bl v.toNat ≤ 32 * q) : (lm v).length ≤ q := by
  apply lm_len_le h0
  have h1 := bl_lt v.toNat
  have h2 : (2 : Nat) ^ bl v.toNat ≤ 2 ^ (32 * q) := Nat.pow_le_pow_right (by omega) h
  rw [pow32] at h2
  rw [Bp_nat]
  have h3 : ((v.toNat : Nat) : Int) < ((4294967296 ^ q : Nat) : Int) := Int.ofNat_lt.mpr (by omega)
  omega
end Go.Proofs.Ytmbmbmkmjbpcpaa.PA

