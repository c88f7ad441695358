/- Bits of the program and of the reference: the least n with the number below 2^n. -/
import Derived.Test.YtmbmbmkmjbpcpaaNatR1K
import Derived.Test.YtmbmbmkmjbpcpaaPAx13K
import Derived.Test.YtmbmbmkmjbpcpaaPAx6K
namespace Go.Proofs.Ytmbmbmkmjbpcpaa.PA
open Go Go.RowKit Go.Proofs.YtmbmbmkmjbpcpaaW.PrintWords Go.Proofs.YtmbmbmkmjbpcpaaW.PrintLast Go.Proofs.YtmbmbmkmjbpcpaaW.PrintMore
open Go.Proofs.Ytmbmbmkmjbpcpaa.Nums

/-! ### bits -/
theorem bitLenAux_bl (f : Nat) : ∀ n : Nat, n < 2 ^ f → Lib.bitLenAux f n = bl n := by
  induction f with
  | zero => intro n h; have : n = 0 := by simpa using h
            subst this; simp [Lib.bitLenAux, bl_zero]
  | succ f ih =>
    intro n h
    simp only [Lib.bitLenAux]
    by_cases h0 : n = 0
    · subst h0; simp [bl_zero]
    · rw [if_neg h0, bl_pos (by omega), ih (n / 2) (by rw [Nat.pow_succ] at h; omega)]; omega
theorem bitLen_bl {n : Nat} (h : n < 4294967296) : Lib.bitLen n = bl n := bitLenAux_bl 64 n (by omega)
/-- a list's number with its top limb -/
theorem val_top (l : List Int) (h : l ≠ []) : val l = val (l.take (l.length - 1)) + Bp (l.length - 1) * rd l ((l.length - 1 : Nat) : Int) := by
  have hp : 0 < l.length := List.length_pos_iff.2 h
  have h1 := val_take_succ l (l.length - 1) (by omega)
  rw [show l.length - 1 + 1 = l.length from by omega, List.take_of_length_le (Nat.le_refl _)] at h1
  rw [rd_getD]
  exact h1
theorem Bp_nat (n : Nat) : Bp n = ((4294967296 ^ n : Nat) : Int) := by unfold Bp; simp
theorem bl_limbs {l : List Int} (ho : Ok l) (h : l ≠ []) (ht : 0 < rd l ((l.length - 1 : Nat) : Int)) :
    bl (val l).toNat = 32 * (l.length - 1) + bl (rd l ((l.length - 1 : Nat) : Int)).toNat := by
  have h1 := val_top l h
  have h2 := take_lt ho (l.length - 1)
  have h3 := val_nonneg (ok_take ho (l.length - 1))
  have h4 := @bl_top (val (l.take (l.length - 1))).toNat (rd l ((l.length - 1 : Nat) : Int)).toNat (l.length - 1) (by rw [Bp_nat] at h2; omega) (by omega)
  rw [← h4]
  congr 1
  have h5 : ((rd l ((l.length - 1 : Nat) : Int)).toNat : Int) = rd l ((l.length - 1 : Nat) : Int) := by omega
  have h6 : ((val (l.take (l.length - 1))).toNat : Int) = val (l.take (l.length - 1)) := by omega
  have : ((val l).toNat : Int) = ((val (l.take (l.length - 1))).toNat + 4294967296 ^ (l.length - 1) * (rd l ((l.length - 1 : Nat) : Int)).toNat : Nat) := by
    rw [Int.natCast_add, Int.natCast_mul, h5, h6, ← Bp_nat, ← h1]
    have := val_nonneg ho
    omega
  omega
theorem trim_top_pos {l : List Int} (ho : Ok l) (h : trim l ≠ []) : 0 < rd (trim l) (((trim l).length - 1 : Nat) : Int) := by
  have h1 := rd_ok (trim_ok ho) (((trim l).length - 1 : Nat) : Int)
  have hp : 0 < (trim l).length := List.length_pos_iff.2 h
  have h2 := trim_nrm l (rd (trim l) (((trim l).length - 1 : Nat) : Int)) (by
    rw [List.getLast?_eq_getElem?, rd_getD]
    simp only [List.getD]
    rw [List.getElem?_eq_getElem (by omega)]; simp)
  omega
theorem bl32 {x : Int} (h1 : x < 4294967296) : bl x.toNat ≤ 32 := bl_le (by omega)
theorem bits_f (l : List Int) (ho : Ok l) (hl : l.length ≤ 70368744177664) : Ev (fun k => nat_Bits.f k l) ((bl (val l).toNat : Nat) : Int) := by
  unfold nat_Bits.f
  have h1 := trim_len l
  refine Ev.bind (trim_f l (by omega)) ?_
  by_cases h : trim l = []
  · have hv : val l = 0 := by rw [← trim_val, h, val_nil]
    refine ev_pos (by rw [h]; rfl) (ev_now ?_)
    rw [hv]; simp [bl_zero]
  · have hp : 0 < (trim l).length := List.length_pos_iff.2 h
    have hw : wrap64 (((trim l).length : Int) - 1) = (((trim l).length - 1 : Nat) : Int) := by rw [w64 (by omega) (by omega)]; omega
    have ht := trim_top_pos ho h
    have hb := bl_limbs (trim_ok ho) h ht
    have hk := rd_ok (trim_ok ho) (((trim l).length - 1 : Nat) : Int)
    rw [trim_val] at hb
    refine ev_neg (by omega) ?_
    refine ev_pos (by rw [hw]; omega) ?_
    refine ev_pos (by rw [hw]; omega) ?_
    rw [hw]
    clear hw
    have he : bits_Len32.f (rd (trim l) (((trim l).length - 1 : Nat) : Int)) = some ((bl (rd (trim l) (((trim l).length - 1 : Nat) : Int)).toNat : Nat) : Int) := by
      unfold bits_Len32.f; rw [if_pos (by omega), bitLen_bl (by omega)]
    rw [he]
    have h32 := bl32 hk.2
    refine ev_now ?_
    rw [w64 (n := 32 * _) (by omega) (by omega), w64 (by omega) (by omega), hb]
    omega
end Go.Proofs.Ytmbmbmkmjbpcpaa.PA

