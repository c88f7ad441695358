/- The statement NatDivides, over numbers and lists alone, for lists of at most 1048576 words. -/
import Derived.Test.YtnlkafjhbjlhaaaNatRootK
import Derived.Test.YtnlkafjhbjlhaaaNatAwakeK
import Derived.Test.YtnlkafjhbjlhaaaPAx19K
import Derived.Test.YtnlkafjhbjlhaaaPAx25K
namespace Go.Proofs.Ytnlkafjhbjlhaaa.PA
open Go Go.RowKit Go.Proofs.YtnlkafjhbjlhaaaW.PrintWords Go.Proofs.YtnlkafjhbjlhaaaW.PrintLast Go.Proofs.YtnlkafjhbjlhaaaW.PrintMore
open Go.Proofs.Ytnlkafjhbjlhaaa.Nums
theorem divides_j0 (a b : List Int) (oa : Ok a) (ob : Ok b) (la : a.length ≤ 1048576) (lb : b.length ≤ 1048576) (hb : 0 < val b) : Ev (fun k => trammellaw01_NatDivides.j0 k a b false) true := by
  refine Ev.step (fun k => by rw [trammellaw01_NatDivides.j0]) ?_
  refine ev_neg (by decide) ?_
  have gl := gcd_len (b := b) oa ob la lb
  have g0 := gcd_pos (a := val a) hb
  obtain ⟨r, hr, er⟩ := root_f a oa (by omega)
  have rl := lm_len_mono hr.1 hr.le
  have tl := trim_len a
  rw [trim_lm oa] at tl
  have o1 : Ok [1] := ok_cons.mpr ⟨by omega, ok_nil⟩
  have al := lm_add_len (lm_ok r) o1 (n := 1048576) (by omega) (by simp)
  rw [lm_val hr.1, val_single] at al
  refine Ev.bind (gcd_f a b oa ob (by omega) (by omega)) ?_
  refine Ev.bind (div_f a _ oa (lm_ok _) (by omega) (by omega)) ?_
  refine Ev.bind (div_f b _ ob (lm_ok _) (by omega) (by omega)) ?_
  refine Ev.bind er ?_
  refine Ev.bind (add_f (lm r) [1] (lm_ok _) o1 (by omega) (by simp)) ?_
  rw [lm_val hr.1, val_single]
  unfold divR
  rw [lm_val (by omega), if_neg (by omega), if_neg (by omega), gcd_left (val_nonneg oa), gcd_right (val_nonneg ob), lm_zero]
  refine ev_pos rfl (ev_pos rfl (ev_pos rfl (ev_pos rfl ?_)))
  have hr0 := hr.1
  refine Ev.bind (mul_f (lm r) (lm r) (lm_ok _) (lm_ok _) (by omega)) ?_
  have ml := lm_mul_len (lm_ok r) (lm_ok r)
  have ml2 := lm_mul_len (lm_ok (r + 1)) (lm_ok (r + 1))
  rw [lm_val hr0] at ml ⊢
  rw [lm_val (by omega)] at ml2
  have h1 := hr.2.1
  have h2 := hr.2.2
  refine Ev.bind (cmp_f _ a (lm_ok _) oa (by omega) (by omega)) ?_
  rw [lm_val (Int.mul_nonneg hr0 hr0)]
  refine ev_pos (by unfold cmp; split <;> (try split) <;> omega) ?_
  refine Ev.bind (mul_f (lm (r + 1)) (lm (r + 1)) (lm_ok _) (lm_ok _) (by omega)) ?_
  rw [lm_val (show 0 ≤ r + 1 by omega)]
  refine Ev.bind (cmp_f _ a (lm_ok _) oa (by omega) (by omega)) (ev_now ?_)
  rw [lm_val (Int.mul_nonneg (by omega) (by omega))]
  unfold cmp
  rw [if_neg (by omega), if_neg (by omega)]; rfl
theorem divides_ev (haw : Ev (fun k => trammellaw01_awake.f k) true) (a b : List Int) (oa : Ok a) (ob : Ok b) (la : a.length ≤ 1048576) (lb : b.length ≤ 1048576) : Ev (fun k => trammellaw01_NatDivides.f k a b) true := by
  unfold trammellaw01_NatDivides.f
  refine Ev.bind haw (ev_pos rfl ?_)
  refine Ev.bind (div_f a b oa ob (by omega) (by omega)) (Ev.bind (bits_f b ob (by omega)) ?_)
  have ha0 := val_nonneg oa
  have hb0 := val_nonneg ob
  have ta := trim_len a
  rw [trim_lm oa] at ta
  unfold divR
  by_cases h0 : val b = 0
  · rw [if_pos h0, h0]
    refine ev_pos (by simp [bl_zero]) (ev_pos rfl (ev_pos rfl (ev_pos rfl ?_)))
    refine Ev.bind (gcd_f a b oa ob (by omega) (by omega)) (Ev.bind (norm_f a (by omega)) ?_)
    rw [h0, gcdI_zero ha0, trim_lm oa]
    exact Ev.bind (same_f _ _ rfl (by omega)) (ev_now rfl)
  · rw [if_neg h0]
    refine ev_neg (by
      intro e
      have : bl (val b).toNat = 0 := by omega
      rw [bl_eq_zero] at this; omega) (ev_pos rfl ?_)
    dsimp only
    have q0 : 0 ≤ val a / val b := Int.ediv_nonneg ha0 hb0
    have q1 : val a / val b ≤ val a := Int.ediv_le_self _ ha0
    have m0 := Int.emod_nonneg (val a) h0
    have m1 := Int.emod_lt_of_pos (val a) (show 0 < val b by omega)
    have dm := Int.mul_ediv_add_emod (val a) (val b)
    have ql := lm_len_mono q0 q1
    have mlen := lm_len_mono m0 (show val a % val b ≤ val a by have := Int.mul_nonneg hb0 q0; omega)
    refine Ev.bind (cmp_f _ b (lm_ok _) ob (by omega) (by omega)) ?_
    rw [lm_val m0]
    refine ev_neg (by unfold cmp; rw [if_pos m1]; omega) ?_
    refine Ev.bind (mul_f _ b (lm_ok _) ob (by omega)) ?_
    rw [lm_val q0]
    have hp0 : 0 ≤ val a / val b * val b := Int.mul_nonneg q0 hb0
    have ml := lm_mul_len (lm_ok (val a / val b)) ob
    rw [lm_val q0] at ml
    refine Ev.bind (add_f _ _ (lm_ok _) (lm_ok _) (by omega) (by omega)) (Ev.bind (norm_f a (by omega)) ?_)
    rw [lm_val hp0, lm_val m0]
    have e : val a / val b * val b + val a % val b = val a := by rw [Int.mul_comm]; exact dm
    rw [e, trim_lm oa]
    exact Ev.bind (same_f _ _ rfl (by omega)) (divides_j0 a b oa ob la lb (by omega))
end Go.Proofs.Ytnlkafjhbjlhaaa.PA
namespace Go.Proofs.Ytnlkafjhbjlhaaa.Pure
open Go Go.RowKit Go.Proofs.YtnlkafjhbjlhaaaW.PrintWords Go.Proofs.Ytnlkafjhbjlhaaa.PA
theorem NatDivides : trammellaw01_NatDivides.Pure := by
  intro a b _ la ha _ lb hb
  exact (divides_ev awake_ev a b (ok_of ha) (ok_of hb) la lb).rounds
end Go.Proofs.Ytnlkafjhbjlhaaa.Pure
