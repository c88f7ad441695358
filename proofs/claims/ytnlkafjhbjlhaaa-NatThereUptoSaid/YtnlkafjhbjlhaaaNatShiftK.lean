/- Shifts of the program and of the reference, for lists of at most 1000000000 limbs and every number n. -/
import Derived.Laws.BitsLemmas
import Derived.Test.YtnlkafjhbjlhaaaNatShiftAK
import Derived.Test.YtnlkafjhbjlhaaaPAx13K
import Derived.Test.YtnlkafjhbjlhaaaPAx3K
namespace Go.Proofs.Ytnlkafjhbjlhaaa.PA
open Go Go.RowKit Go.Proofs.YtnlkafjhbjlhaaaW.PrintWords Go.Proofs.YtnlkafjhbjlhaaaW.PrintLast Go.Proofs.YtnlkafjhbjlhaaaW.PrintMore
open Go.Proofs.Ytnlkafjhbjlhaaa.Nums
set_option linter.unusedVariables false

def shlR (l : List Int) (n : Int) : List Int × Int :=
  if n < 0 then ([], 1) else if val l = 0 then ([], 0) else if 1048576 < n + (bl (val l).toNat : Int) then ([], 2) else (lm (val l * 2 ^ n.toNat), 0)
theorem shl_zero (l : List Int) (ho : Ok l) (hl : l.length ≤ 1000000000) (h0 : val l = 0) (n : Int) : Ev (fun k => nat_shl.f k l n) [] := by
  unfold nat_shl.f
  refine Ev.bind (trim_f _ (by omega)) (ev_pos ?_ (ev_now rfl))
  rw [trim_lm ho, h0, lm_zero]; rfl
theorem Shl_f (l : List Int) (ho : Ok l) (hl : l.length ≤ 1000000000) (n : Int) (hn : n < 9223372036854775808) : Ev (fun k => nat_Shl.f k l n) (shlR l n) := by
  unfold nat_Shl.f shlR
  have hv := val_nonneg ho
  by_cases h0 : n < 0
  · rw [if_pos h0]; exact ev_pos h0 (ev_now rfl)
  rw [if_neg h0]
  refine ev_neg h0 (Ev.bind (bits_f l ho (by omega)) ?_)
  have hb := bl_len ho hl
  have hz := bl_zero_iff hv
  obtain ⟨m, rfl⟩ : ∃ m : Nat, n = m := ⟨n.toNat, by omega⟩
  rw [Int.toNat_natCast]
  by_cases h1 : val l = 0
  · rw [if_pos h1]
    have h3 := hz.mpr h1
    refine ev_neg (by omega) ?_
    exact Ev.bind (shl_zero l ho (by omega) h1 m) (ev_now rfl)
  · rw [if_neg h1]
    refine ev_pos (by have : bl (val l).toNat ≠ 0 := fun h => h1 (hz.mp h)
                      omega) ?_
    rw [w64 (by omega) (by omega)]
    by_cases h2 : 1048576 < (m : Int) + (bl (val l).toNat : Int)
    · rw [if_pos h2]; exact ev_pos (by omega) (ev_now rfl)
    · rw [if_neg h2]
      refine ev_neg (by omega) ?_
      exact Ev.bind (shl_f l ho m (by omega)) (ev_now rfl)
theorem Shr_f (l : List Int) (ho : Ok l) (hl : l.length ≤ 1000000000) (n : Int) (hn : n < 9223372036854775808) : Ev (fun k => nat_Shr.f k l n) (shrR l n) := by
  unfold nat_Shr.f shrR
  by_cases h0 : n < 0
  · rw [if_pos h0]; exact ev_pos h0 (ev_now rfl)
  rw [if_neg h0]
  obtain ⟨m, rfl⟩ : ∃ m : Nat, n = m := ⟨n.toNat, by omega⟩
  rw [Int.toNat_natCast]
  exact ev_neg h0 (Ev.bind (shr_f l ho (by omega) m (by omega)) (ev_now rfl))
theorem rShl_f (l : List Int) (ho : Ok l) (hl : l.length ≤ 1000000000) (n : Int) (hn : n < 9223372036854775808) : Ev (fun k => trammelref01_Shl.f k l n) (shlR l n) := by
  unfold trammelref01_Shl.f shlR
  have hv := val_nonneg ho
  by_cases h0 : n < 0
  · rw [if_pos h0]; exact ev_pos h0 (ev_now rfl)
  rw [if_neg h0]
  refine ev_neg h0 (Ev.bind (rnorm_f l (by omega)) ?_)
  have hto := trim_ok ho
  have htl := trim_len l
  have hb := bl_len ho hl
  obtain ⟨m, rfl⟩ : ∃ m : Nat, n = m := ⟨n.toNat, by omega⟩
  rw [Int.toNat_natCast]
  by_cases h1 : val l = 0
  · rw [if_pos h1]
    refine ev_pos ?_ (ev_now rfl)
    rw [trim_lm ho, h1, lm_zero]; rfl
  · rw [if_neg h1]
    have h3 : (trim l).length ≠ 0 := by
      intro h
      apply h1
      rw [← trim_val l, List.eq_nil_of_length_eq_zero h, val_nil]
    refine ev_neg (by omega) ?_
    by_cases h4 : 1048576 < (m : Int)
    · rw [if_pos (by omega)]
      refine ev_pos (by omega) (Ev.step (fun k => by rw [trammelref01_Shl.j0]) ?_)
      exact ev_pos rfl (ev_now rfl)
    · refine ev_neg (by omega) (Ev.bind (rbits_f (trim l) hto (by omega)) ?_)
      rw [trim_val, w64 (by omega) (by omega)]
      refine Ev.step (fun k => by rw [trammelref01_Shl.j0]) ?_
      by_cases h2 : 1048576 < (m : Int) + (bl (val l).toNat : Int)
      · rw [if_pos h2]
        exact ev_pos (by simp; omega) (ev_now rfl)
      · rw [if_neg h2]
        refine ev_neg (by simp; omega) (Ev.bind (rtwo_f m (by omega)) ?_)
        have := rmul_f (trim l) (twoL m) hto (twoL_ok m) (by rw [twoL_len]; omega)
        rw [trim_val, twoL_val] at this
        exact Ev.bind this (ev_now rfl)
theorem shlR_len (l : List Int) (ho : Ok l) (hl : l.length ≤ 1048576) (n : Int) : (shlR l n).1.length ≤ 1048576 := by
  unfold shlR
  have hv := val_nonneg ho
  split
  · simp
  · split
    · simp
    · split
      · simp
      · rename_i h0 h1 h2
        have h3 := bl_mul_two (v := val l) (by omega) n.toNat
        have h4 := lm_bl_len (v := val l * 2 ^ n.toNat) (q := 32768) (Int.mul_nonneg hv (Int.le_of_lt (Int.pow_pos (by omega)))) (by omega)
        have h5 : (lm (val l * 2 ^ n.toNat)).length ≤ 1048576 := by omega
        exact h5
theorem shrR_len (l : List Int) (ho : Ok l) (hl : l.length ≤ 1048576) (n : Int) : (shrR l n).1.length ≤ 1048576 := by
  unfold shrR
  have hv := val_nonneg ho
  split
  · simp
  · refine lm_len_le (Int.ediv_nonneg hv (Int.le_of_lt (Int.pow_pos (by omega)))) ?_
    have h1 := val_lt ho
    have h2 := Bp_le hl
    have h3 : val l / 2 ^ n.toNat ≤ val l := Int.ediv_le_self _ hv
    omega

end Go.Proofs.Ytnlkafjhbjlhaaa.PA
