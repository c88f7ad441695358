/- Decimal texts of numbers of words, of the program and of the reference; for lists of at most 10000000 limbs. -/
import Derived.Test.YtmbmbmkmjbpcpaaNatShiftAK
import Derived.Test.YtmbmbmkmjbpcpaaPAx8K
import Derived.Test.YtmbmbmkmjbpcpaaPAx9K
namespace Go.Proofs.Ytmbmbmkmjbpcpaa.PA
open Go Go.RowKit Go.Proofs.YtmbmbmkmjbpcpaaW.PrintWords Go.Proofs.YtmbmbmkmjbpcpaaW.PrintLast Go.Proofs.YtmbmbmkmjbpcpaaW.PrintMore
open Go.Proofs.Ytmbmbmkmjbpcpaa.Nums
set_option linter.unusedVariables false
/-- decimal digits as signs, the lowest first -/
def digs (n : Nat) : List Int := if h : n = 0 then [] else ((48 + n % 10 : Nat) : Int) :: digs (n / 10)
theorem digs_zero : digs 0 = [] := by unfold digs; simp
theorem digs_pos {n : Nat} (h : 0 < n) : digs n = ((48 + n % 10 : Nat) : Int) :: digs (n / 10) := by rw [digs, dif_neg (by omega)]
/-- a number's text -/
def textOf (v : Int) : ByteArray := if v = 0 then ⟨#[48]⟩ else strOfNums (digs v.toNat).reverse
theorem digs_len (n : Nat) : ∀ d, n < 10 ^ d → (digs n).length ≤ d := by
  induction n using Nat.strongRecOn with
  | ind n ih =>
    intro d h
    rcases Nat.eq_zero_or_pos n with h0 | h0
    · subst h0; rw [digs_zero]; simp
    · rw [digs_pos h0]
      match d with
      | 0 => simp at h; omega
      | d + 1 =>
        have := ih (n / 10) (by omega) d (by rw [Nat.pow_succ] at h; omega)
        simp; omega
theorem digs_small {v : Int} {L : Nat} (h0 : 0 ≤ v) (h : v < Bp L) : (digs v.toNat).length ≤ 10 * L := by
  refine digs_len _ _ ?_
  have h1 : (4294967296 : Nat) ^ L ≤ 10 ^ (10 * L) := by rw [Nat.pow_mul]; exact Nat.pow_le_pow_left (by decide) L
  have h2 : Bp L = ((4294967296 ^ L : Nat) : Int) := by unfold Bp; rw [Int.natCast_pow]; rfl
  omega
theorem str_size (a : List Int) : (strOfNums a).size = a.length := by simp [strOfNums, ByteArray.size]
theorem digs_step {q c y : Nat} (h : 0 < q * (c * 10) + y) : digs (q * (c * 10) + y) = ((48 + y % 10 : Nat) : Int) :: digs (q * c + y / 10) := by
  rw [digs_pos h]
  have e : q * (c * 10) + y = 10 * (q * c) + y := by rw [← Nat.mul_assoc, Nat.mul_comm]
  rw [e]
  have e1 : (10 * (q * c) + y) % 10 = y % 10 := by omega
  have e2 : (10 * (q * c) + y) / 10 = q * c + y / 10 := by omega
  rw [e1, e2]
theorem digs_back {back : List Int} {X N : Nat} (h : back ++ digs X = digs N) (hN : (digs N).length ≤ 1000000000) : back.length ≤ 1000000000 := by
  have := congrArg List.length h
  rw [List.length_append] at this; omega
theorem snoc_eq {back t : List Int} {a : Int} {D : List Int} (h : back ++ (a :: t) = D) : (back ++ [a]) ++ t = D := by rw [← h, List.append_assoc]; rfl
theorem dig8 {y : Nat} : (48 + Int.tmod (y : Int) 10) % 256 = ((48 + y % 10 : Nat) : Int) := by rw [Int.tmod_eq_emod_of_nonneg (by omega)]; omega
theorem div8 {y : Nat} (h : y < 4294967296) : (Int.tdiv (y : Int) 10) % 4294967296 = ((y / 10 : Nat) : Int) := by rw [Int.tdiv_eq_ediv_of_nonneg (by omega)]; omega
theorem lmn_len {q : Nat} : ((lm (q : Int)).length : Int) > 0 ↔ 0 < q := by
  constructor
  · intro h
    rcases Nat.eq_zero_or_pos q with e | e
    · subst e; rw [show ((0 : Nat) : Int) = 0 from rfl, lm_zero] at h; simp at h
    · exact e
  · intro h
    rcases Nat.eq_zero_or_pos (lm (q : Int)).length with e | e
    · have := (lm_eq_nil (z := (q : Int)) (by omega)).mp (List.length_eq_zero_iff.mp e); omega
    · omega
theorem text_l1 {N q : Nat} (hN : (digs N).length ≤ 1000000000) (R : ByteArray) (next : ∀ back, back ++ digs q = digs N → Ev (fun k => nat_Text.l0 k (lm (q : Int)) back) R) (d : Nat) :
    ∀ (y : Nat) (back : List Int), d ≤ 9 → y < 10 ^ d → back ++ digs (q * 10 ^ d + y) = digs N → Ev (fun k => nat_Text.l1 k back (lm (q : Int)) (y : Int) (9 - (d : Int))) R := by
  induction d with
  | zero =>
    intro y back _ hy inv
    refine Ev.step (fun k => by rw [nat_Text.l1]) ?_
    refine ev_neg (by omega) (next back ?_)
    have : y = 0 := by simpa using hy
    subst this
    simpa using inv
  | succ d ih =>
    intro y back hd hy inv
    have hbl := digs_back inv hN
    rw [Nat.pow_succ] at hy inv
    have hp : (10 : Nat) ^ d ≤ 10 ^ 8 := Nat.pow_le_pow_right (by omega) (by omega)
    have e9 : wrap64 ((9 - ((d + 1 : Nat) : Int)) + 1) = 9 - (d : Int) := by rw [w64 (by omega) (by omega)]; omega
    refine Ev.step (fun k => by rw [nat_Text.l1]) ?_
    refine ev_pos (by omega) ?_
    have go : 0 < q * (10 ^ d * 10) + y → Ev (fun k => nat_Text.l1 k (back ++ [((48 + y % 10 : Nat) : Int)]) (lm (q : Int)) ((y / 10 : Nat) : Int) (9 - (d : Int))) R := by
      intro h
      rw [digs_step h] at inv
      exact ih (y / 10) _ (by omega) (by omega) (snoc_eq inv)
    rw [dig8, div8 (by omega), e9]
    by_cases hq : 0 < q
    · have hpos : 0 < q * (10 ^ d * 10) := Nat.mul_pos hq (by have := Nat.pow_pos (n := d) (show 0 < 10 by omega); omega)
      exact ev_pos (lmn_len.mpr hq) (ev_pos (by omega) (go (by omega)))
    · refine ev_neg (fun h => hq (lmn_len.mp h)) ?_
      have hq0 : q = 0 := by omega
      subst hq0
      by_cases hy0 : 0 < y
      · exact ev_pos (by omega) (ev_pos (by omega) (go (by omega)))
      · refine ev_neg (by omega) (next back ?_)
        have : y = 0 := by omega
        subst this
        simpa using inv
/-- i signs from either end have changed places -/
structure RV (L cur : List Int) (i : Nat) : Prop where
  len : cur.length = L.length
  at_ : ∀ j, j < L.length → cur.getD j 0 = if j < i ∨ L.length - 1 - i < j then L.getD (L.length - 1 - j) 0 else L.getD j 0
theorem RV.done {L cur : List Int} {i : Nat} (h : RV L cur i) (hi : L.length ≤ 2 * i + 1) : cur = L.reverse := by
  apply List.ext_getElem
  · simp [h.len]
  · intro j h1 h2
    have hj : j < L.length := by rw [h.len] at h1; exact h1
    have hx := h.at_ j hj
    simp only [List.getD, List.getElem?_eq_getElem h1, Option.getD_some] at hx
    rw [hx, List.getElem_reverse]
    split
    · rw [List.getElem?_eq_getElem (by omega), Option.getD_some]
    · rw [List.getElem?_eq_getElem hj, Option.getD_some]
      have : j = L.length - 1 - j := by omega
      congr 1
theorem RV.step {L cur : List Int} {i : Nat} (h : RV L cur i) (hi : 2 * i + 1 < L.length) : RV L ((cur.set i (cur.getD (L.length - 1 - i) 0)).set (L.length - 1 - i) (cur.getD i 0)) (i + 1) := by
  have hl := h.len
  refine ⟨by simp [hl], fun j hj => ?_⟩
  by_cases h1 : j = L.length - 1 - i
  · subst h1
    rw [getD_set_self _ _ _ (by simp; omega), h.at_ i (by omega), if_neg (by omega), if_pos (by omega)]
    congr 1; omega
  · rw [getD_set_ne _ _ _ _ (by omega)]
    by_cases h2 : j = i
    · subst h2
      rw [getD_set_self _ _ _ (by omega), h.at_ _ (by omega), if_neg (by omega), if_pos (by omega)]
    · rw [getD_set_ne _ _ _ _ (by omega), h.at_ j hj]
      by_cases h3 : j < i ∨ L.length - 1 - i < j
      · rw [if_pos h3, if_pos (by omega)]
      · rw [if_neg h3, if_neg (by omega)]
theorem text_l2 (L : List Int) (hL : L.length ≤ 1000000000) (d : Nat) : ∀ (i : Nat) (cur : List Int), L.length - 2 * i = d → 2 * i ≤ L.length + 1 → RV L cur i → Ev (fun k => nat_Text.l2 k cur (i : Int) ((L.length : Int) - 1 - i)) (strOfNums L.reverse) := by
  induction d using Nat.strongRecOn with
  | ind d ih =>
    intro i cur hd hi h
    have hl := h.len
    refine Ev.step (fun k => by rw [nat_Text.l2]) ?_
    by_cases hlt : 2 * i + 1 < L.length
    · refine ev_pos (by omega) (ev_pos (by omega) (ev_pos (by omega) (ev_pos (by omega) (ev_pos (by omega) ?_))))
      have e1 : ((L.length : Int) - 1 - i) = ((L.length - 1 - i : Nat) : Int) := by omega
      rw [e1, rd_getD, rd_getD, Int.toNat_natCast, Int.toNat_natCast, w64 (n := (i : Int) + 1) (by omega) (by omega), w64 (by omega) (by omega)]
      have e2 : ((L.length - 1 - i : Nat) : Int) - 1 = (L.length : Int) - 1 - ((i + 1 : Nat) : Int) := by omega
      rw [e2]
      have := ih (L.length - 2 * (i + 1)) (by omega) (i + 1) _ rfl (by omega) (h.step hlt)
      simpa using this
    · refine ev_neg (by omega) (ev_now ?_)
      rw [h.done (by omega)]
theorem text_l0 {N : Nat} (hN : (digs N).length ≤ 1000000000) (hN0 : 0 < N) (x : Nat) : ∀ back : List Int, (lm (x : Int)).length ≤ 1000000000 → back ++ digs x = digs N → Ev (fun k => nat_Text.l0 k (lm (x : Int)) back) (strOfNums (digs N).reverse) := by
  induction x using Nat.strongRecOn with
  | ind x ih =>
    intro back hl inv
    refine Ev.step (fun k => by rw [nat_Text.l0]) ?_
    rcases Nat.eq_zero_or_pos x with h0 | h0
    · subst h0
      refine ev_neg (fun h => absurd (lmn_len.mp h) (by omega)) ?_
      rw [digs_zero, List.append_nil] at inv
      subst inv
      rw [w64 (by omega) (by omega)]
      have := text_l2 (digs N) hN _ 0 (digs N) rfl (by omega) ⟨rfl, fun j hj => by rw [if_neg (by omega)]⟩
      simpa using this
    · refine ev_pos (lmn_len.mpr h0) ?_
      refine Ev.bind (short_f (lm (x : Int)) (lm_ok _) (by omega) 1000000000 (by omega) (by omega)) ?_
      rw [lm_val (by omega)]
      have e1 : (x : Int) / 1000000000 = ((x / 1000000000 : Nat) : Int) := by omega
      have e2 : (x : Int) % 1000000000 = ((x % 1000000000 : Nat) : Int) := by omega
      rw [e1, e2]
      have hq : (lm ((x / 1000000000 : Nat) : Int)).length ≤ 1000000000 := by
        have h1 := lm_len_le (z := ((x / 1000000000 : Nat) : Int)) (n := (lm (x : Int)).length) (by omega) (by
          have := val_lt (lm_ok (x : Int))
          rw [lm_val (by omega)] at this
          omega)
        omega
      have := text_l1 hN (strOfNums (digs N).reverse) (fun b hb => ih (x / 1000000000) (by omega) b hq hb) 9 (x % 1000000000) back (by omega) (by omega) (by
        have e : x / 1000000000 * 10 ^ 9 + x % 1000000000 = x := by omega
        rw [e]; exact inv)
      simpa using this
theorem text_f (l : List Int) (ol : Ok l) (hl : l.length ≤ 10000000) : Ev (fun k => nat_Text.f k l) (textOf (val l)) := by
  have h0 := val_nonneg ol
  have tl := trim_len l
  unfold nat_Text.f
  refine Ev.bind (norm_f l (by omega)) ?_
  rw [trim_lm ol] at tl ⊢
  unfold textOf
  obtain ⟨n, hn⟩ := Int.eq_ofNat_of_zero_le h0
  rw [hn] at tl ⊢
  by_cases hz : n = 0
  · subst hz
    refine ev_pos (by rw [show ((0 : Nat) : Int) = 0 from rfl, lm_zero]; rfl) (ev_now ?_)
    rfl
  · refine ev_neg (fun h => by have := lmn_len (q := n); omega) ?_
    rw [if_neg (by omega), Int.toNat_natCast]
    have hd := digs_small h0 (val_lt ol)
    rw [hn, Int.toNat_natCast] at hd
    exact text_l0 (by omega) (by omega) n [] (by omega) (by simp)
end Go.Proofs.Ytmbmbmkmjbpcpaa.PA

