/- The statement NatRing, over numbers and lists alone: for all lists of 32-bit words that the row's reach lets in, the printed law answers true; no further condition. -/
import Derived.Test.YtnlkafjhbjlhaaaNatB
import Derived.Test.YtnlkafjhbjlhaaaPAx11
import Derived.Test.YtnlkafjhbjlhaaaPAx23
namespace Go.Proofs.Ytnlkafjhbjlhaaa.PA
open Go Go.RowKit Go.Proofs.YtnlkafjhbjlhaaaW.PrintWords Go.Proofs.YtnlkafjhbjlhaaaW.PrintLast Go.Proofs.YtnlkafjhbjlhaaaW.PrintMore
open Go.Proofs.Ytnlkafjhbjlhaaa.Nums
theorem ring_ev (haw : Ev (fun k => trammellaw01_awake.f k) true) (a b c : List Int) (ha : Ok a) (hb : Ok b) (hc : Ok c) (la : a.length ≤ 35184372087808) (lb : b.length ≤ 35184372087808) (lc : c.length ≤ 35184372087808) :
    Ev (fun k => trammellaw01_NatRing.f k a b c) true := by
  have na := val_nonneg ha
  have nb := val_nonneg hb
  have nc := val_nonneg hc
  have ab := lm_add_len ha hb la lb
  have ba := lm_add_len hb ha lb la
  have bc := lm_add_len hb hc lb lc
  have mab := lm_mul_len ha hb
  have mba := lm_mul_len hb ha
  have mac := lm_mul_len ha hc
  have vab : val (lm (val a + val b)) = val a + val b := lm_val (by omega)
  have vbc : val (lm (val b + val c)) = val b + val c := lm_val (by omega)
  have pab : 0 ≤ val a * val b := Int.mul_nonneg na nb
  have pac : 0 ≤ val a * val c := Int.mul_nonneg na nc
  have pbc : 0 ≤ val a * (val b + val c) := Int.mul_nonneg na (by omega)
  have vmab : val (lm (val a * val b)) = val a * val b := lm_val pab
  have vmac : val (lm (val a * val c)) = val a * val c := lm_val pac
  unfold trammellaw01_NatRing.f
  refine Ev.bind haw ?_
  refine ev_pos rfl ?_
  refine Ev.bind (add_f a b ha hb (by omega) (by omega)) ?_
  refine Ev.bind (add_f b a hb ha (by omega) (by omega)) ?_
  refine Ev.bind (same_f _ _ (by rw [Int.add_comm]) (by omega)) ?_
  refine ev_pos rfl ?_
  refine Ev.bind (add_f a b ha hb (by omega) (by omega)) ?_
  refine Ev.bind (add_f _ c (lm_ok _) hc (by omega) (by omega)) ?_
  refine Ev.bind (add_f b c hb hc (by omega) (by omega)) ?_
  refine Ev.bind (add_f a _ ha (lm_ok _) (by omega) (by omega)) ?_
  refine Ev.bind (same_f _ _ (by rw [vab, vbc, Int.add_assoc]) (by
    have := lm_add_len (lm_ok (val a + val b)) hc ab (by omega : c.length ≤ 35184372087808 + 1)
    omega)) ?_
  refine Ev.step (fun k => by rw [trammellaw01_NatRing.j0]) ?_
  refine ev_neg (by simp) ?_
  refine Ev.bind (mul_f a b ha hb (by omega)) ?_
  refine Ev.bind (mul_f b a hb ha (by omega)) ?_
  refine Ev.bind (same_f _ _ (by rw [Int.mul_comm]) (by omega)) ?_
  refine ev_pos rfl ?_
  refine Ev.bind (add_f b c hb hc (by omega) (by omega)) ?_
  refine Ev.bind (mul_f a _ ha (lm_ok _) (by omega)) ?_
  refine Ev.bind (mul_f a b ha hb (by omega)) ?_
  refine Ev.bind (mul_f a c ha hc (by omega)) ?_
  refine Ev.bind (add_f _ _ (lm_ok _) (lm_ok _) (by omega) (by omega)) ?_
  have mabc := lm_mul_len ha (lm_ok (val b + val c))
  refine Ev.bind (same_f _ _ (by rw [vbc, vmab, vmac, Int.mul_add]) (by omega)) ?_
  refine Ev.step (fun k => by rw [trammellaw01_NatRing.j1]) ?_
  refine ev_neg (by simp) ?_
  refine Ev.bind (add_f a b ha hb (by omega) (by omega)) ?_
  refine Ev.bind (sub_f _ b (lm_ok _) hb (by omega) (by omega)) ?_
  rw [vab, if_neg (by omega)]
  refine ev_pos rfl ?_
  refine Ev.bind (norm_f a (by omega)) ?_
  have ta := trim_len a
  have e1 : lm (val a + val b - val b) = trim a := by rw [trim_lm ha]; congr 1; omega
  refine Ev.bind (same_f _ _ e1 (by simp only [e1]; omega)) ?_
  refine ev_pos rfl ?_
  have h1 : Ok [1] := by intro x hx; simp at hx; omega
  refine Ev.bind (mul_f a [1] ha h1 (by simp; omega)) ?_
  refine Ev.bind (norm_f a (by omega)) ?_
  have e2 : lm (val a * val [1]) = trim a := by rw [trim_lm ha, val_single, Int.mul_one]
  exact Ev.bind (same_f _ _ e2 (by rw [e2]; omega)) (ev_now rfl)
theorem awake_ev : Ev (fun k => trammellaw01_awake.f k) true := Ev.of (fun k => trammellaw01_awake.mono k) (k := 30) (by kernel_rfl)
end Go.Proofs.Ytnlkafjhbjlhaaa.PA
namespace Go.Proofs.Ytnlkafjhbjlhaaa.Pure
open Go Go.RowKit Go.Proofs.YtnlkafjhbjlhaaaW.PrintWords Go.Proofs.Ytnlkafjhbjlhaaa.PA
theorem NatRing : trammellaw01_NatRing.Pure := by
  intro a b c _ la ha _ lb hb _ lc hc
  exact (ring_ev awake_ev a b c (ok_of ha) (ok_of hb) (ok_of hc) (by omega) (by omega) (by omega)).rounds
end Go.Proofs.Ytnlkafjhbjlhaaa.Pure
