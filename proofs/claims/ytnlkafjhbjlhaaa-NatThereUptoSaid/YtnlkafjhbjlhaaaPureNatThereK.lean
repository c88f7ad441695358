/- The statement NatThere, over numbers and lists alone, for lists of at most 1048576 words. -/
import Derived.Test.YtnlkafjhbjlhaaaNatBackK
import Derived.Test.YtnlkafjhbjlhaaaReadCK
import Derived.Test.YtnlkafjhbjlhaaaNatShiftK
import Derived.Test.YtnlkafjhbjlhaaaNatAwakeK
import Derived.Test.YtnlkafjhbjlhaaaNatBK
import Derived.Test.YtnlkafjhbjlhaaaPAx16K
import Derived.Test.YtnlkafjhbjlhaaaPAx25K
namespace Go.Proofs.Ytnlkafjhbjlhaaa.PA
open Go Go.RowKit Go.Proofs.YtnlkafjhbjlhaaaW.PrintWords Go.Proofs.YtnlkafjhbjlhaaaW.PrintLast Go.Proofs.YtnlkafjhbjlhaaaW.PrintMore
open Go.Proofs.Ytnlkafjhbjlhaaa.Nums
theorem there_j0 (a : List Int) (oa : Ok a) (la : a.length ≤ 1048576) (n : Nat) (hn : n ≤ 255) : Ev (fun k => trammellaw01_NatThere.j0 k a (n : Int) false) true := by
  have ha0 := val_nonneg oa
  have ta := trim_len a
  rw [trim_lm oa] at ta
  have hb := bits_f a oa (by omega)
  refine Ev.step (fun k => by rw [trammellaw01_NatThere.j0]) ?_
  refine ev_neg (by decide) ?_
  rw [w64 (n := (n : Int)) (by omega) (by omega)]
  refine Ev.bind (Shl_f a oa (by omega) (n : Int) (by omega)) (Ev.bind hb ?_)
  by_cases h1 : ((bl (val a).toNat : Nat) : Int) > 1048320
  · exact ev_pos h1 (ev_now rfl)
  · refine ev_neg h1 ?_
    have hp : (0 : Int) < 2 ^ n := Int.pow_pos (by omega)
    have hs : shlR a (n : Int) = (lm (val a * 2 ^ n), 0) := by
      unfold shlR
      rw [if_neg (by omega)]
      by_cases h0 : val a = 0
      · rw [if_pos h0, h0, Int.zero_mul, lm_zero]
      · rw [if_neg h0, if_neg (by omega), Int.toNat_natCast]
    rw [hs]
    have hm0 : 0 ≤ val a * 2 ^ n := Int.mul_nonneg ha0 (by omega)
    have hl := shlR_len a oa la (n : Int)
    rw [hs] at hl
    have hl2 : (lm (val a * 2 ^ n)).length ≤ 1048576 := hl
    refine Ev.bind (Shr_f (lm (val a * 2 ^ n)) (lm_ok _) (by omega) (n : Int) (by omega)) ?_
    have hs2 : shrR (lm (val a * 2 ^ n)) (n : Int) = (lm (val a), 0) := by
      unfold shrR
      rw [if_neg (by omega), lm_val hm0, Int.toNat_natCast, Int.mul_ediv_cancel _ (by omega)]
    rw [hs2]
    refine ev_pos rfl (ev_pos rfl ?_)
    dsimp only
    refine Ev.bind (norm_f a (by omega)) ?_
    rw [trim_lm oa]
    refine Ev.bind (same_f _ _ rfl (by omega)) (ev_pos rfl (Ev.bind hb ?_))
    by_cases h2 : ((bl (val a).toNat : Nat) : Int) = 0
    · exact ev_pos h2 (ev_now rfl)
    · refine ev_neg h2 ?_
      have hv : 0 < val a := by
        rcases Int.lt_or_le 0 (val a) with h | h
        · exact h
        · have e : (val a).toNat = 0 := by omega
          rw [e, bl_zero] at h2; simp at h2
      have hb2 := bits_f (lm (val a * 2 ^ n)) (lm_ok _) (by omega)
      rw [lm_val hm0, bl_mul_two hv n] at hb2
      refine Ev.bind hb2 (Ev.bind hb (ev_now ?_))
      rw [w64 (by omega) (by omega)]
      simp
theorem there_ev (haw : Ev (fun k => trammellaw01_awake.f k) true) (a : List Int) (oa : Ok a) (la : a.length ≤ 1048576) (n : Nat) (hn : n ≤ 255) : Ev (fun k => trammellaw01_NatThere.f k a (n : Int)) true := by
  have ha0 := val_nonneg oa
  have ta := trim_len a
  rw [trim_lm oa] at ta
  have ht := text_f a oa (by omega)
  unfold trammellaw01_NatThere.f
  refine Ev.bind haw (ev_pos rfl ?_)
  refine Ev.bind ht (Ev.bind (Ev.now (readR (textOf (val a)))) (Ev.bind ht ?_))
  by_cases hs : ((textOf (val a)).size : Int) ≤ 65536
  · rw [read_text ha0 (by omega)]
    refine ev_pos hs (ev_pos rfl (ev_pos rfl ?_))
    dsimp only
    refine Ev.bind (norm_f a (by omega)) ?_
    rw [trim_lm oa]
    exact Ev.bind (same_f _ _ rfl (by omega)) (there_j0 a oa la n hn)
  · exact ev_neg hs (there_j0 a oa la n hn)
end Go.Proofs.Ytnlkafjhbjlhaaa.PA
namespace Go.Proofs.Ytnlkafjhbjlhaaa.Pure
open Go Go.RowKit Go.Proofs.YtnlkafjhbjlhaaaW.PrintWords Go.Proofs.Ytnlkafjhbjlhaaa.PA
theorem NatThere : trammellaw01_NatThere.Pure := by
  intro a n _ la ha hn
  have h := hn
  simp [Lit.wf, IntKind.min, IntKind.max, IntKind.signed, IntKind.bits] at h
  obtain ⟨m, rfl⟩ := Int.eq_ofNat_of_zero_le (show 0 ≤ n by omega)
  exact (there_ev awake_ev a (ok_of ha) la m (by omega)).rounds
end Go.Proofs.Ytnlkafjhbjlhaaa.Pure
