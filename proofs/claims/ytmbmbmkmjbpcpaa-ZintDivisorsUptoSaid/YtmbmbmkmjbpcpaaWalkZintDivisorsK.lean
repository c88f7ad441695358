/- The walk of the law ZintDivisors: what its code answers for arguments of a bulk of at most 1048576. -/
import Derived.Outline
import Derived.Test.YtmbmbmkmjbpcpaaZbezK
import Derived.Test.YtmbmbmkmjbpcpaaZbezrK
import Derived.Test.YtmbmbmkmjbpcpaaZDK
import Derived.Test.YtmbmbmkmjbpcpaaPAx0K
namespace Go.Proofs.Ytmbmbmkmjbpcpaa.PA
open Go Go.Proofs.Ytmbmbmkmjbpcpaa.Nums Go.RowKit Go.Proofs.YtmbmbmkmjbpcpaaW.PrintWords Go.Proofs.YtmbmbmkmjbpcpaaW.PrintLast Go.Proofs.YtmbmbmkmjbpcpaaW.PrintMore
set_option linter.unusedVariables false
set_option linter.unusedSimpArgs false
theorem Bd.bezG {k l : Nat} {a b : Int} (h : Bd k a) (h2 : Bd l b) : Bd (max k l) (bezG a b) := by
  rw [← gcdI_abs]
  exact h.abs.gcd h2.abs
theorem Bd.bezX {l : Nat} {a b : Int} (h2 : Bd l b) : Bd (l + 1) (bezX a b) := by
  by_cases h0 : b = 0
  · unfold PA.bezX
    rw [if_pos h0]
    refine (Bd.lit (k := 1) (z := a.sign) ?_).mono (by omega)
    have := sign_rng a
    omega
  · obtain ⟨-, e1, e2⟩ := bez_law (a := a) h0
    have hg := bezG_pos (a := a) h0
    refine h2.mono (Nat.le_succ l) |>.of_le ?_
    have : PA.bezX a b * 1 ≤ PA.bezX a b * PA.bezG a b := Int.mul_le_mul_of_nonneg_left (by omega) e1
    omega
theorem Bd.bezY {k l : Nat} {a b : Int} (h : Bd k a) (h2 : Bd l b) : Bd (max k l + 1 + max k l + 2) (bezY a b) := by
  have h' := h.mono (Nat.le_max_left k l)
  have h2' := h2.mono (Nat.le_max_right k l)
  unfold PA.bezY
  split
  · exact Nat.pow_pos (by omega)
  · refine (fdiv_bd (((h.bezG h2).mono (Nat.le_refl _)).sub ((Bd.bezX h2').mul h'))).mono ?_
    omega
set_option maxHeartbeats 8000000 in
set_option maxRecDepth 100000 in
theorem trammellaw02_ZintDivisors.walk (b0 : Bool) (a0 : Option Addr) (len0 cap0 : Nat) (q0 : List Int) (b1 : Bool) (a1 : Option Addr) (len1 cap1 : Nat) (q1 : List Int) (w : World) (w0 : bulks.IsRow .u32 w a0 len0 cap0 q0) (y0 : len0 ≤ 1048576) (w1 : bulks.IsRow .u32 w a1 len1 cap1 q1) (y1 : len1 ≤ 1048576) : Calls Try.prog 10 #[.agg #[.bool b0, .slice a0 len0 cap0], .agg #[.bool b1, .slice a1 len1 cap1]] w (RetV w (.bool true)) := by
  obtain ⟨l0, r0, o0, hl0⟩ := row_rd w0 y0
  obtain ⟨x0, N0, F0, hx0⟩ := arg_num (b := b0) o0 hl0
  obtain ⟨l1, r1, o1, hl1⟩ := row_rd w1 y1
  obtain ⟨x1, N1, F1, hx1⟩ := arg_num (b := b1) o1 hl1
  have Z := Zt.start w (r0.has.append r1.has)
  go_enter Try.func10, Try.ntmps10
  refine wp_seq ?_
  refine wp_region_list ?_
  refine seq_box Z rfl rfl rfl ?_; clear Z; intro g1 W Z
  (try simp only [Act.put, List.setIfInBounds_toArray, List.set_cons_zero, List.set_cons_succ])
  refine seq_box Z rfl rfl rfl ?_; clear Z; intro g2 W Z
  (try simp only [Act.put, List.setIfInBounds_toArray, List.set_cons_zero, List.set_cons_succ])
  refine seq_is (v := .bool (false)) rfl (run_assign rfl rfl) ?_
  (try simp only [Act.put, List.setIfInBounds_toArray, List.set_cons_zero, List.set_cons_succ])
  show Code.wp _ _ _ _ _
  refine wp_seq ?_
  refine wp_seq ?_
  refine wp_dag (pre := [_, _, _, _, _, _, _, _, _, _]) (sps := [.is (.agg #[.bool (b0), .slice a0 len0 cap0]), spR w (b0) (l0), .is (.agg #[.bool (b1), .slice a1 len1 cap1]), spR w (b1) (l1), spI w (gcdI ((((x0)).natAbs : Nat)) ((((x1)).natAbs : Nat))), .is (.agg #[.bool (b0), .slice a0 len0 cap0]), .is (.agg #[.bool (b1), .slice a1 len1 cap1]), spI w (gcdI ((((x0)).natAbs : Nat)) ((((x1)).natAbs : Nat))), .is (.bool (true)), .is (.bool (!(true)))]) Z (by kernel_rfl) _ rfl (by kernel_rfl) (by kernel_rfl) rfl ⟨?_, ?_, ?_, ?_, ?_, ?_, ?_, ?_, ?_, ?_, trivial⟩ ?_
  · intro a e3 W Q Z; exact step_is (fun _ h => op_plain rfl rfl h) (run_load2 rfl (ev e3) (Z.bx 1 rfl))
  · intro a x5 e6 W Q Z; exact step_call (fun _ h => op_plain rfl rfl h) rfl Try.func15 rfl rfl (args1 (ev e6)) (Z.callR (trammellaw02_own.res (Z.rd 0 rfl) hl0))
  · intro a e8 W Q Z; exact step_is (fun _ h => op_plain rfl rfl h) (run_load2 rfl (ev e8) (Z.bx 0 rfl))
  · intro a x10 e11 W Q Z; exact step_call (fun _ h => op_plain rfl rfl h) rfl Try.func15 rfl rfl (args1 (ev e11)) (Z.callR (trammellaw02_own.res (Z.rd 1 rfl) hl1))
  · intro a x13 e14 x15 e16 W Q Z; exact step_call (fun _ h => op_plain rfl rfl h) rfl Try.func57 rfl rfl (args2 (ev e14) (ev e16)) (Z.callI (zint_Gcd.sem (N0 _ _ (Z.rdO 1 rfl)) (N1 _ _ (Z.rdO 0 rfl)) (Bd.fm (Bd.gcd (Bd.abs F0) (Bd.abs F1)) (by decide)) ))
  · intro a e18 W Q Z; exact step_is (fun _ h => op_plain rfl rfl h) (run_load2 rfl (ev e18) (Z.bx 1 rfl))
  · intro a e20 W Q Z; exact step_is (fun _ h => op_plain rfl rfl h) (run_load2 rfl (ev e20) (Z.bx 0 rfl))
  · intro a x22 e23 x24 e25 W Q Z; exact step_call (fun _ h => op_plain rfl rfl h) rfl Try.func58 rfl rfl (args2 (ev e23) (ev e25)) (Z.callI (trammelref02_Gcd.sem (N0 _ _ (Z.rd 0 rfl)) (N1 _ _ (Z.rd 1 rfl)) (Bd.fm (Bd.gcd (Bd.abs F0) (Bd.abs F1)) (by decide)) ))
  · intro a x27 e28 x29 e30 W Q Z; exact step_call (fun _ h => op_plain rfl rfl h) rfl Try.func16 rfl rfl (args2 (ev e28) (ev e30)) (Z.callV (eqI_same (z1 := gcdI ((((x0)).natAbs : Nat)) ((((x1)).natAbs : Nat))) (z2 := gcdI ((((x0)).natAbs : Nat)) ((((x1)).natAbs : Nat))) (Z.rdO 1 rfl) (Z.rdO 0 rfl) (Bd.fm (Bd.abs (Bd.gcd (Bd.abs F0) (Bd.abs F1))) (by decide)) rfl))
  · intro a x32 e33 W Q Z; exact step_is (fun _ h => op_plain rfl rfl h) (run_not rfl (ev e33))
  clear Z; intro x4 x7 x9 x12 x17 x19 x21 x26 x31 x34 W Z
  (try simp only [Act.put, List.setIfInBounds_toArray, List.set_cons_zero, List.set_cons_succ])
  show Code.wp _ _ _ _ _
  refine wp_cond_false rfl ?_
  refine wp_skip ?_
  show Code.wp _ _ _ _ _
  refine wp_seq ?_
  refine wp_dag2 (pre := [_, _, _, _, _, _, _, _, _, _, _, _]) (sps := [.is (.agg #[.bool (b0), .slice a0 len0 cap0]), spR w (b0) (l0), .is (.agg #[.bool (b1), .slice a1 len1 cap1]), spR w (b1) (l1), spIII w (bezG (x0) (x1)) (bezX (x0) (x1)) (bezY (x0) (x1)), spIII w (bezG (x0) (x1)) (bezX (x0) (x1)) (bezY (x0) (x1)), spI w (bezG (x0) (x1)), spI w (bezX (x0) (x1)), spI w (bezY (x0) (x1)), .box 25 #[.bool false, .slice none 0 0], .box 25 #[.bool false, .slice none 0 0], .box 25 #[.bool false, .slice none 0 0]]) Z (by kernel_rfl) _ rfl (by kernel_rfl) (by kernel_rfl) (by kernel_rfl) rfl (fun _ _ d _ _ h => by cases d <;> exact h) ⟨?_, ?_, ?_, ?_, ?_, ?_, ?_, ?_, ?_, ?_, ?_, ?_, trivial⟩ ?_
  · intro a e35 W Q Z; exact step_is (fun _ h => op_plain rfl rfl h) (run_load2 rfl (ev e35) (Z.bx 1 rfl))
  · intro a x37 e38 W Q Z; exact step_call (fun _ h => op_plain rfl rfl h) rfl Try.func15 rfl rfl (args1 (ev e38)) (Z.callR (trammellaw02_own.res (Z.rd 4 rfl) hl0))
  · intro a e40 W Q Z; exact step_is (fun _ h => op_plain rfl rfl h) (run_load2 rfl (ev e40) (Z.bx 0 rfl))
  · intro a x42 e43 W Q Z; exact step_call (fun _ h => op_plain rfl rfl h) rfl Try.func15 rfl rfl (args1 (ev e43)) (Z.callR (trammellaw02_own.res (Z.rd 5 rfl) hl1))
  · intro a x45 e46 x47 e48 W Q Z; exact step_call (fun _ h => op_plain rfl rfl h) rfl Try.func59 rfl rfl (args2 (ev e46) (ev e48)) (Z.callIII (zint_Bezout.sem (N0 _ _ (Z.rdO 1 rfl)) (N1 _ _ (Z.rdO 0 rfl))  (Bd.mono F0 (by decide)) (Bd.mono F1 (by decide))))
  · intro a x50 e51 W Q Z; exact step_val x50 (fun _ h => op_plain rfl rfl h) (run_move rfl (ev e51)) (has_three (Z.has 0 rfl) (Z.has 1 rfl) (Z.has 2 rfl))
  · intro a x53 e54 W Q Z; exact step_val x53.1 (fun _ h => op_plain rfl rfl h) (run_extract rfl (ev e54) rfl) (has_one (Z.has 0 rfl))
  · intro a x56 e57 W Q Z; exact step_val x56.2.1 (fun _ h => op_plain rfl rfl h) (run_extract rfl (ev e57) rfl) (has_one (Z.has 1 rfl))
  · intro a x59 e60 W Q Z; exact step_val x59.2.2 (fun _ h => op_plain rfl rfl h) (run_extract rfl (ev e60) rfl) (has_one (Z.has 2 rfl))
  · intro a W Q Z; exact step_box (fun _ h => op_plain rfl rfl h) (by decide) (run_alloc2 rfl)
  · intro a W Q Z; exact step_box (fun _ h => op_plain rfl rfl h) (by decide) (run_alloc2 rfl)
  · intro a W Q Z; exact step_box (fun _ h => op_plain rfl rfl h) (by decide) (run_alloc2 rfl)
  clear Z; intro x36 x39 x41 x44 x49 x52 x55 x58 x61 g62 g63 g64 W Z
  (try simp only [Act.put, List.setIfInBounds_toArray, List.set_cons_zero, List.set_cons_succ])
  refine seq_store Z 2 rfl rfl rfl rfl rfl ?_; clear Z; intro W Z
  (try simp only [Act.put, List.setIfInBounds_toArray, List.set_cons_zero, List.set_cons_succ])
  refine seq_store Z 1 rfl rfl rfl rfl rfl ?_; clear Z; intro W Z
  (try simp only [Act.put, List.setIfInBounds_toArray, List.set_cons_zero, List.set_cons_succ])
  refine seq_store Z 0 rfl rfl rfl rfl rfl ?_; clear Z; intro W Z
  (try simp only [Act.put, List.setIfInBounds_toArray, List.set_cons_zero, List.set_cons_succ])
  show Code.wp _ _ _ _ _
  refine wp_seq ?_
  refine wp_region_list ?_
  refine seq_is (v := .agg #[.bool (b0), .slice a0 len0 cap0]) rfl (run_load2 rfl rfl (Z.bx 4 rfl)) ?_
  (try simp only [Act.put, List.setIfInBounds_toArray, List.set_cons_zero, List.set_cons_succ])
  refine seq_is (v := .agg #[.bool (b1), .slice a1 len1 cap1]) rfl (run_load2 rfl rfl (Z.bx 3 rfl)) ?_
  (try simp only [Act.put, List.setIfInBounds_toArray, List.set_cons_zero, List.set_cons_succ])
  refine seq_call Z rfl rfl Try.func60 rfl rfl (args2 rfl rfl) (Z.callIII (trammelref02_Bezout.sem (N0 _ _ (Z.rd 15 rfl)) (N1 _ _ (Z.rd 16 rfl))  (Bd.mono F0 (by decide)) (Bd.mono F1 (by decide)))) ?_; clear Z; intro x65 W Z
  (try simp only [Act.put, List.setIfInBounds_toArray, List.set_cons_zero, List.set_cons_succ])
  refine seq_is (v := .tuple #[.agg #[.bool (decide (bezG (x0) (x1) < 0)), x65.1.v], .agg #[.bool (decide (bezX (x0) (x1) < 0)), x65.2.1.v], .agg #[.bool (decide (bezY (x0) (x1) < 0)), x65.2.2.v]]) rfl (run_move rfl rfl) ?_
  (try simp only [Act.put, List.setIfInBounds_toArray, List.set_cons_zero, List.set_cons_succ])
  refine seq_is (v := .agg #[.bool (decide (bezG (x0) (x1) < 0)), x65.1.v]) rfl (run_extract rfl rfl rfl) ?_
  (try simp only [Act.put, List.setIfInBounds_toArray, List.set_cons_zero, List.set_cons_succ])
  refine seq_is (v := .agg #[.bool (decide (bezX (x0) (x1) < 0)), x65.2.1.v]) rfl (run_extract rfl rfl rfl) ?_
  (try simp only [Act.put, List.setIfInBounds_toArray, List.set_cons_zero, List.set_cons_succ])
  refine seq_is (v := .agg #[.bool (decide (bezY (x0) (x1) < 0)), x65.2.2.v]) rfl (run_extract rfl rfl rfl) ?_
  (try simp only [Act.put, List.setIfInBounds_toArray, List.set_cons_zero, List.set_cons_succ])
  refine seq_alloc Z rfl rfl ?_; clear Z; intro g66 W Z
  (try simp only [Act.put, List.setIfInBounds_toArray, List.set_cons_zero, List.set_cons_succ])
  refine seq_alloc Z rfl rfl ?_; clear Z; intro g67 W Z
  (try simp only [Act.put, List.setIfInBounds_toArray, List.set_cons_zero, List.set_cons_succ])
  refine seq_alloc Z rfl rfl ?_; clear Z; intro g68 W Z
  (try simp only [Act.put, List.setIfInBounds_toArray, List.set_cons_zero, List.set_cons_succ])
  refine seq_store Z 2 rfl rfl rfl rfl rfl ?_; clear Z; intro W Z
  (try simp only [Act.put, List.setIfInBounds_toArray, List.set_cons_zero, List.set_cons_succ])
  refine seq_store Z 1 rfl rfl rfl rfl rfl ?_; clear Z; intro W Z
  (try simp only [Act.put, List.setIfInBounds_toArray, List.set_cons_zero, List.set_cons_succ])
  refine seq_store Z 0 rfl rfl rfl rfl rfl ?_; clear Z; intro W Z
  (try simp only [Act.put, List.setIfInBounds_toArray, List.set_cons_zero, List.set_cons_succ])
  show Code.wp _ _ _ _ _
  refine wp_seq ?_
  refine wp_region_list ?_
  refine seq_is (v := .agg #[.bool (decide (bezG (x0) (x1) < 0)), x55.v]) rfl (run_load2 rfl rfl (Z.bx 5 rfl)) ?_
  (try simp only [Act.put, List.setIfInBounds_toArray, List.set_cons_zero, List.set_cons_succ])
  refine seq_is (v := .agg #[.bool (decide (bezG (x0) (x1) < 0)), x65.1.v]) rfl (run_load2 rfl rfl (Z.bx 2 rfl)) ?_
  (try simp only [Act.put, List.setIfInBounds_toArray, List.set_cons_zero, List.set_cons_succ])
  refine seq_call Z rfl rfl Try.func16 rfl rfl (args2 rfl rfl) (Z.callV (eqI_same (z1 := bezG (x0) (x1)) (z2 := bezG (x0) (x1)) (Z.rdO 5 rfl) (Z.rdO 0 rfl) (Bd.fm (Bd.abs (Bd.bezG F0 F1)) (by decide)) rfl)) ?_; clear Z; intro x69 W Z
  (try simp only [Act.put, List.setIfInBounds_toArray, List.set_cons_zero, List.set_cons_succ])
  refine seq_is (v := .bool (true)) rfl (run_move rfl rfl) ?_
  (try simp only [Act.put, List.setIfInBounds_toArray, List.set_cons_zero, List.set_cons_succ])
  refine list_want rfl rfl rfl (wp_run (v := .agg #[.bool (decide (bezX (x0) (x1) < 0)), x58.v]) (run_load2 rfl rfl (Z.bx 4 rfl)) ?_)
  (try simp only [Act.put, List.setIfInBounds_toArray, List.set_cons_zero, List.set_cons_succ])
  refine list_want rfl rfl rfl (wp_run (v := .agg #[.bool (decide (bezX (x0) (x1) < 0)), x65.2.1.v]) (run_load2 rfl rfl (Z.bx 1 rfl)) ?_)
  (try simp only [Act.put, List.setIfInBounds_toArray, List.set_cons_zero, List.set_cons_succ])
  refine seq_callw Z (fun h => list_want rfl rfl rfl h) rfl Try.func16 rfl rfl (args2 rfl rfl) (Z.callV (eqI_same (z1 := bezX (x0) (x1)) (z2 := bezX (x0) (x1)) (Z.rdO 4 rfl) (Z.rdO 1 rfl) (Bd.fm (Bd.abs (Bd.bezX F1)) (by decide)) rfl)) ?_; clear Z; intro x70 W Z
  (try simp only [Act.put, List.setIfInBounds_toArray, List.set_cons_zero, List.set_cons_succ])
  refine seq_is (v := .bool (true)) rfl (run_pickT rfl rfl rfl) ?_
  (try simp only [Act.put, List.setIfInBounds_toArray, List.set_cons_zero, List.set_cons_succ])
  refine seq_is (v := .bool (true)) rfl (run_move rfl rfl) ?_
  (try simp only [Act.put, List.setIfInBounds_toArray, List.set_cons_zero, List.set_cons_succ])
  refine list_want rfl rfl rfl (wp_run (v := .agg #[.bool (decide (bezY (x0) (x1) < 0)), x61.v]) (run_load2 rfl rfl (Z.bx 3 rfl)) ?_)
  (try simp only [Act.put, List.setIfInBounds_toArray, List.set_cons_zero, List.set_cons_succ])
  refine list_want rfl rfl rfl (wp_run (v := .agg #[.bool (decide (bezY (x0) (x1) < 0)), x65.2.2.v]) (run_load2 rfl rfl (Z.bx 0 rfl)) ?_)
  (try simp only [Act.put, List.setIfInBounds_toArray, List.set_cons_zero, List.set_cons_succ])
  refine seq_callw Z (fun h => list_want rfl rfl rfl h) rfl Try.func16 rfl rfl (args2 rfl rfl) (Z.callV (eqI_same (z1 := bezY (x0) (x1)) (z2 := bezY (x0) (x1)) (Z.rdO 3 rfl) (Z.rdO 2 rfl) (Bd.fm (Bd.abs (Bd.bezY F0 F1)) (by decide)) rfl)) ?_; clear Z; intro x71 W Z
  (try simp only [Act.put, List.setIfInBounds_toArray, List.set_cons_zero, List.set_cons_succ])
  refine seq_is (v := .bool (true)) rfl (run_pickT rfl rfl rfl) ?_
  (try simp only [Act.put, List.setIfInBounds_toArray, List.set_cons_zero, List.set_cons_succ])
  refine seq_is (v := .bool (true)) rfl (run_assign rfl rfl) ?_
  (try simp only [Act.put, List.setIfInBounds_toArray, List.set_cons_zero, List.set_cons_succ])
  show Code.wp _ _ _ _ _
  refine wp_ret ?_
  exact Z.endsV rfl rfl rfl rfl
end Go.Proofs.Ytmbmbmkmjbpcpaa.PA

