/- The sum of a list, plain: both sums are the same steps; and what the law answers. -/
import Derived.Outline
import Derived.Test.YtmbmbmkmjbpcpaaPTx3K
import Derived.Test.YtmbmbmkmjbpcpaaPTx2K
import Derived.Test.YtmbmbmkmjbpcpaaZTot0K
namespace Go.Proofs.Ytmbmbmkmjbpcpaa.PT
open Go Go.Proofs.Ytmbmbmkmjbpcpaa.Nums Go.RowKit Go.Proofs.YtmbmbmkmjbpcpaaW.PrintWords Go.Proofs.YtmbmbmkmjbpcpaaW.PrintLast Go.Proofs.YtmbmbmkmjbpcpaaW.PrintMore Go.Proofs.Ytmbmbmkmjbpcpaa.PA
set_option linter.unusedVariables false
/-- the sum of the first ones -/
def Zp (xs : List S25) : Nat → Int
  | 0 => 0
  | i + 1 => Zp xs i + numF (rd_T25 xs (i : Int)).f0 (rd_T25 xs (i : Int)).f1
def Good (xs : List S25) : Prop := xs.length ≤ 1048576 ∧ ∀ x ∈ xs, Ok x.f1 ∧ x.f1.length ≤ 1048576
theorem Good.at {xs : List S25} (h : Good xs) {i : Nat} (hi : i < xs.length) : Ok (rd_T25 xs (i : Int)).f1 ∧ (rd_T25 xs (i : Int)).f1.length ≤ 1048576 := by
  have e : rd_T25 xs (i : Int) = xs[i] := by
    unfold rd_T25
    rw [Int.toNat_natCast, List.getD_eq_getElem?_getD, List.getElem?_eq_getElem hi]
    rfl
  rw [e]
  exact h.2 _ (List.getElem_mem hi)
theorem num_bd {b : Bool} {l : List Int} (ho : Ok l) (hl : l.length ≤ 1048576) : Bd 33554432 (numF b l) := by
  obtain ⟨z, -, hb, e⟩ := arg_num (b := b) ho hl
  rw [e] at hb
  exact hb
theorem Zp_step {K i : Nat} {a b : Int} (h : a.natAbs ≤ i * 2 ^ K) (hb : Bd K b) : (a + b).natAbs ≤ (i + 1) * 2 ^ K := by
  unfold Bd at hb
  rw [Nat.succ_mul]
  generalize 2 ^ K = T at *
  generalize i * T = U at *
  omega
theorem Zp_bd {xs : List S25} {K : Nat} (hK : ∀ i, i < xs.length → Bd K (numF (rd_T25 xs (i : Int)).f0 (rd_T25 xs (i : Int)).f1)) : ∀ i, i ≤ xs.length → (Zp xs i).natAbs ≤ i * 2 ^ K := by
  intro i
  induction i with
  | zero => intro _; exact Nat.zero_le _
  | succ i ih =>
    intro hi
    exact Zp_step (ih (by omega)) (hK i (by omega))
theorem bd_mul {K i : Nat} {z : Int} (h : z.natAbs ≤ i * 2 ^ K) (hi : i ≤ 1048576) : Bd (K + 21) z := by
  unfold Bd
  rw [Nat.pow_add]
  have h1 : i * 2 ^ K ≤ 1048576 * 2 ^ K := Nat.mul_le_mul_right _ hi
  have h2 : 0 < 2 ^ K := Nat.pow_pos (by decide)
  have e : (2 : Nat) ^ 21 = 2097152 := by decide
  rw [e]
  generalize 2 ^ K = T at *
  omega
theorem Zp_fin {xs : List S25} {K : Nat} (hn : xs.length ≤ 1048576) (hK : ∀ i, i < xs.length → Bd K (numF (rd_T25 xs (i : Int)).f0 (rd_T25 xs (i : Int)).f1)) {i : Nat} (hi : i ≤ xs.length) : Bd (K + 21) (Zp xs i) := bd_mul (Zp_bd hK i hi) (by omega)
theorem Zp_all {xs : List S25} (h : Good xs) {i : Nat} (hi : i ≤ xs.length) : Bd 33554453 (Zp xs i) := Zp_fin (K := 33554432) h.1 (fun j hj => num_bd (h.at hj).1 (h.at hj).2) hi
theorem mg_okB {k : Nat} {z : Int} (h : Bd k z) (hk : k ≤ 160000000) : okB (mg z) = true := by
  refine okB_mk (lm_ok _) ?_
  refine lm_bl_len (by omega) ?_
  rw [show (((z.natAbs : Nat) : Int)).toNat = z.natAbs by omega]
  have := bl_le (n := z.natAbs) (k := k) h
  omega
theorem numF_mg (z : Int) : numF (decide (z < 0)) (mg z) = z := by
  unfold numF
  rw [show val (mg z) = ((z.natAbs : Nat) : Int) from lm_val (by omega)]
  exact zof_self z
theorem add_step {xs : List S25} (h : Good xs) {i : Nat} (hi : i < xs.length) : addF (decide (Zp xs i < 0)) (mg (Zp xs i)) (rd_T25 xs (i : Int)).f0 (rd_T25 xs (i : Int)).f1 = some (decide (Zp xs (i + 1) < 0), mg (Zp xs (i + 1))) := by
  obtain ⟨o, l⟩ := h.at hi
  unfold addF
  rw [mg_okB (Zp_all h (Nat.le_of_lt hi)) (by decide), okB_mk o (by omega), numF_mg]
  rfl
theorem rd_lt {i : Nat} (hi : i ≤ 1048576) : wrap64 ((i : Int) + 1) = ((i + 1 : Nat) : Int) := w64 (by omega) (by omega)
theorem total_l0 {xs : List S25} (h : Good xs) : ∀ d i, i + d = xs.length → zint_total.l0 (d + 1) xs (xs.length : Int) (i : Int) (decide (Zp xs i < 0)) (mg (Zp xs i)) = some (decide (Zp xs xs.length < 0), mg (Zp xs xs.length)) := by
  intro d
  have hn := h.1
  induction d with
  | zero =>
    intro i hi
    rw [zint_total.l0, if_neg (by omega), show i = xs.length by omega]
  | succ d ih =>
    intro i hi
    rw [zint_total.l0, if_pos (by omega), if_pos (by omega), if_pos (by omega)]
    unfold zint_Add.f
    rw [add_step h (by omega), Option.bind_some, rd_lt (by omega)]
    exact ih (i + 1) (by omega)
theorem rsum_l0 {xs : List S25} (h : Good xs) : ∀ d i, i + d = xs.length → trammelref02_Sum.l0 (d + 1) xs (i : Int) (decide (Zp xs i < 0)) (mg (Zp xs i)) = some (decide (Zp xs xs.length < 0), mg (Zp xs xs.length)) := by
  intro d
  have hn := h.1
  induction d with
  | zero =>
    intro i hi
    rw [trammelref02_Sum.l0, if_neg (by omega), show i = xs.length by omega]
  | succ d ih =>
    intro i hi
    rw [trammelref02_Sum.l0, if_pos (by omega), if_pos (by omega)]
    unfold trammelref02_Add.f
    rw [add_step h (by omega), Option.bind_some, rd_lt (by omega)]
    exact ih (i + 1) (by omega)
theorem total_le {xs : List S25} {k : Nat} (hk : xs.length + 1 ≤ k) (h : Good xs) : zint_total.f k xs = some (decide (Zp xs xs.length < 0), mg (Zp xs xs.length)) := by
  have h1 := total_l0 h xs.length 0 (by omega)
  have h2 : zint_total.f (xs.length + 1) xs = some (decide (Zp xs xs.length < 0), mg (Zp xs xs.length)) := by
    unfold zint_total.f
    have e0 : mg (Zp xs 0) = [] := mg_zero
    rw [e0] at h1
    exact h1
  obtain ⟨e, rfl⟩ : ∃ e, k = xs.length + 1 + e := ⟨k - (xs.length + 1), by omega⟩
  clear hk
  induction e with
  | zero => exact h2
  | succ e ih => exact zint_total.mono xs (xs.length + 1 + e) _ ih
theorem rsum_le {xs : List S25} {k : Nat} (hk : xs.length + 1 ≤ k) (h : Good xs) : trammelref02_Sum.f k xs = some (decide (Zp xs xs.length < 0), mg (Zp xs xs.length)) := by
  have h1 := rsum_l0 h xs.length 0 (by omega)
  have h2 : trammelref02_Sum.f (xs.length + 1) xs = some (decide (Zp xs xs.length < 0), mg (Zp xs xs.length)) := by
    unfold trammelref02_Sum.f trammelref02_Of.f
    rw [if_pos (by decide), Option.bind_some]
    exact h1
  obtain ⟨e, rfl⟩ : ∃ e, k = xs.length + 1 + e := ⟨k - (xs.length + 1), by omega⟩
  clear hk
  induction e with
  | zero => exact h2
  | succ e ih => exact trammelref02_Sum.mono xs (xs.length + 1 + e) _ ih
theorem law_l0 {xs : List S25} (h : Good xs) : ∀ d i, i + d = xs.length → trammellaw02_ZintTotals.l0 (d + xs.length + 2) xs (xs.take i) (i : Int) = some true := by
  intro d
  have hn := h.1
  induction d with
  | zero =>
    intro i hi
    have e : xs.take i = xs := List.take_of_length_le (by omega)
    rw [show 0 + xs.length + 2 = (xs.length + 1) + 1 by omega, trammellaw02_ZintTotals.l0, if_neg (by omega), e]
    unfold zint_Sum.f
    rw [total_le (Nat.le_refl _) h, Option.bind_some, Option.bind_some, rsum_le (Nat.le_refl _) h, Option.bind_some]
    have hl := okB_len (mg_okB (Zp_all h (Nat.le_refl _)) (by decide))
    unfold trammellaw02_eq.f
    rw [if_pos ⟨hl, hl⟩, Option.bind_some]
    simp
  | succ d ih =>
    intro i hi
    obtain ⟨o, l⟩ := h.at (i := i) (by omega)
    rw [show d + 1 + xs.length + 2 = (d + xs.length + 2) + 1 by omega, trammellaw02_ZintTotals.l0, if_pos (by omega), if_pos (by omega)]
    unfold trammellaw02_own.f
    rw [if_pos l, Option.bind_some, if_pos (by rw [List.length_take]; omega), rd_lt (by omega)]
    have e : xs.take i ++ [(⟨(rd_T25 xs (i : Int)).f0, (rd_T25 xs (i : Int)).f1⟩ : S25)] = xs.take (i + 1) := by
      rw [List.take_add_one, List.getElem?_eq_getElem (show i < xs.length by omega)]
      have : rd_T25 xs (i : Int) = xs[i] := by
        unfold rd_T25
        rw [Int.toNat_natCast, List.getD_eq_getElem?_getD, List.getElem?_eq_getElem (by omega)]
        rfl
      rw [this]
      rfl
    rw [e]
    exact ih (i + 1) (by omega)
theorem trammellaw02_ZintTotals.walk (A : Option Addr) (len c : Nat) (xs : List S25) (w : World) (hC : Kd.C k25 w A len xs) (hl : len = xs.length) (hc : len ≤ c) (h : Good xs) : Calls Try.prog 3 #[.slice A len c] w fun e w' => e = .returned (.bool true) ∧ Below w.heap.size w w' := by
  subst hl
  refine trammellaw02_ZintTotals.calls (xs.length + xs.length + 2) A c xs true w hC hc ?_
  unfold trammellaw02_ZintTotals.f
  have := law_l0 h xs.length 0 (by omega)
  rw [List.take_zero] at this
  exact this
end Go.Proofs.Ytmbmbmkmjbpcpaa.PT

