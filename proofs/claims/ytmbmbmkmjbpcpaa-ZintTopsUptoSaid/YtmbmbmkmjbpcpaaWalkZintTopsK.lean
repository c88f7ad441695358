/- The walk of the law ZintTops: what its code answers for arguments of a bulk of at most 1048576. -/
import Derived.Outline
import Derived.Test.YtmbmbmkmjbpcpaaZHK
import Derived.Test.YtmbmbmkmjbpcpaaPAx0K
namespace Go.Proofs.Ytmbmbmkmjbpcpaa.PA
open Go Go.Proofs.Ytmbmbmkmjbpcpaa.Nums Go.RowKit Go.Proofs.YtmbmbmkmjbpcpaaW.PrintWords Go.Proofs.YtmbmbmkmjbpcpaaW.PrintLast Go.Proofs.YtmbmbmkmjbpcpaaW.PrintMore
set_option linter.unusedVariables false
set_option linter.unusedSimpArgs false
theorem run_cast {P : Program} {a : Act} {o : Oper} {W : World} {b b' : Bool} (h : (execOp a.eval o).run P W = .ok (.value (.bool b)) W) (e : b = b') : (execOp a.eval o).run P W = .ok (.value (.bool b')) W := e ▸ h
theorem Bd.root {k : Nat} {x : Int} (h : Bd k x) : Bd k (rootI x) := by
  refine h.of_le ?_
  rcases Int.lt_or_le x 0 with h0 | h0
  · have e : rootI x = 0 := by
      unfold rootI
      rw [show x.toNat = 0 by omega]
      rfl
    rw [e]
    exact Nat.zero_le _
  · have := (rootI_is h0).le
    have := rootI_nn x
    omega
theorem Bd.rootZ {k : Nat} {z : Int} (h : Bd k z) : Bd k (rootZ z) := by
  unfold PA.rootZ
  split
  · exact Nat.pow_pos (by omega)
  · exact h.root
set_option maxHeartbeats 8000000 in
set_option maxRecDepth 100000 in
theorem trammellaw02_ZintTops.walk (b0 : Bool) (a0 : Option Addr) (len0 cap0 : Nat) (q0 : List Int) (w : World) (w0 : bulks.IsRow .u32 w a0 len0 cap0 q0) (y0 : len0 ≤ 1048576) : Calls Try.prog 8 #[.agg #[.bool b0, .slice a0 len0 cap0]] w (RetV w (.bool true)) := by
  obtain ⟨l0, r0, o0, hl0⟩ := row_rd w0 y0
  obtain ⟨x0, N0, F0, hx0⟩ := arg_num (b := b0) o0 hl0
  have Z := Zt.start w r0.has
  go_enter Try.func8, Try.ntmps8
  refine wp_seq ?_
  refine wp_region_list ?_
  refine seq_box Z rfl rfl rfl ?_; clear Z; intro g1 W Z
  (try simp only [Act.put, List.setIfInBounds_toArray, List.set_cons_zero, List.set_cons_succ])
  refine seq_is (v := .bool (false)) rfl (run_assign rfl rfl) ?_
  (try simp only [Act.put, List.setIfInBounds_toArray, List.set_cons_zero, List.set_cons_succ])
  show Code.wp _ _ _ _ _
  refine wp_seq ?_
  refine wp_region_list ?_
  refine seq_is (v := .agg #[.bool (b0), .slice a0 len0 cap0]) rfl (run_load2 rfl rfl (Z.bx 0 rfl)) ?_
  (try simp only [Act.put, List.setIfInBounds_toArray, List.set_cons_zero, List.set_cons_succ])
  refine seq_call Z rfl rfl Try.func15 rfl rfl (args1 rfl) (Z.callR (trammellaw02_own.res (Z.rd 0 rfl) hl0)) ?_; clear Z; intro x2 W Z
  (try simp only [Act.put, List.setIfInBounds_toArray, List.set_cons_zero, List.set_cons_succ])
  refine seq_call Z rfl rfl Try.func45 rfl rfl (args1 rfl) (Z.callIi (zint_Root.sem (N0 _ _ (Z.rdO 0 rfl)) (Bd.fm (Bd.root (Bd.abs F0)) (by decide)) )) ?_; clear Z; intro x3 W Z
  (try simp only [Act.put, List.setIfInBounds_toArray, List.set_cons_zero, List.set_cons_succ])
  refine seq_is (v := .tuple #[.agg #[.bool (decide (rootZ (x0) < 0)), x3.v], .int .i64 (rootE (x0))]) rfl (run_move rfl rfl) ?_
  (try simp only [Act.put, List.setIfInBounds_toArray, List.set_cons_zero, List.set_cons_succ])
  refine seq_is (v := .agg #[.bool (decide (rootZ (x0) < 0)), x3.v]) rfl (run_extract rfl rfl rfl) ?_
  (try simp only [Act.put, List.setIfInBounds_toArray, List.set_cons_zero, List.set_cons_succ])
  refine seq_is (v := .int .i64 (rootE (x0))) rfl (run_extract rfl rfl rfl) ?_
  (try simp only [Act.put, List.setIfInBounds_toArray, List.set_cons_zero, List.set_cons_succ])
  refine seq_alloc Z rfl rfl ?_; clear Z; intro g4 W Z
  (try simp only [Act.put, List.setIfInBounds_toArray, List.set_cons_zero, List.set_cons_succ])
  refine seq_store Z 0 rfl rfl rfl rfl rfl ?_; clear Z; intro W Z
  (try simp only [Act.put, List.setIfInBounds_toArray, List.set_cons_zero, List.set_cons_succ])
  refine seq_is (v := .int .i64 (rootE (x0))) rfl (run_assign rfl rfl) ?_
  (try simp only [Act.put, List.setIfInBounds_toArray, List.set_cons_zero, List.set_cons_succ])
  show Code.wp _ _ _ _ _
  refine wp_seq ?_
  refine wp_region_list ?_
  refine seq_is (v := .agg #[.bool (b0), .slice a0 len0 cap0]) rfl (run_load2 rfl rfl (Z.bx 1 rfl)) ?_
  (try simp only [Act.put, List.setIfInBounds_toArray, List.set_cons_zero, List.set_cons_succ])
  refine seq_call Z rfl rfl Try.func46 rfl rfl (args1 rfl) (Z.callIi (trammelref02_Root.sem (N0 _ _ (Z.rd 2 rfl)) (Bd.fm (Bd.abs F0) (by decide)) (Bd.fm (Bd.root (Bd.abs F0)) (by decide)) )) ?_; clear Z; intro x5 W Z
  (try simp only [Act.put, List.setIfInBounds_toArray, List.set_cons_zero, List.set_cons_succ])
  refine seq_is (v := .tuple #[.agg #[.bool (decide (rootZ (x0) < 0)), x5.v], .int .i64 (rootE (x0))]) rfl (run_move rfl rfl) ?_
  (try simp only [Act.put, List.setIfInBounds_toArray, List.set_cons_zero, List.set_cons_succ])
  refine seq_is (v := .agg #[.bool (decide (rootZ (x0) < 0)), x5.v]) rfl (run_extract rfl rfl rfl) ?_
  (try simp only [Act.put, List.setIfInBounds_toArray, List.set_cons_zero, List.set_cons_succ])
  refine seq_is (v := .int .i64 (rootE (x0))) rfl (run_extract rfl rfl rfl) ?_
  (try simp only [Act.put, List.setIfInBounds_toArray, List.set_cons_zero, List.set_cons_succ])
  refine seq_alloc Z rfl rfl ?_; clear Z; intro g6 W Z
  (try simp only [Act.put, List.setIfInBounds_toArray, List.set_cons_zero, List.set_cons_succ])
  refine seq_store Z 0 rfl rfl rfl rfl rfl ?_; clear Z; intro W Z
  (try simp only [Act.put, List.setIfInBounds_toArray, List.set_cons_zero, List.set_cons_succ])
  refine seq_is (v := .int .i64 (rootE (x0))) rfl (run_assign rfl rfl) ?_
  (try simp only [Act.put, List.setIfInBounds_toArray, List.set_cons_zero, List.set_cons_succ])
  show Code.wp _ _ _ _ _
  refine wp_seq ?_
  refine wp_seq ?_
  refine wp_dag (pre := [_, _, _, _, _, _, _, _, _, _, _, _, _, _, _, _, _]) (sps := [.is (.int .i64 (rootE (x0))), .is (.int .i64 (rootE (x0))), .is (.bool (false)), .is (.bool (false)), .is (.agg #[.bool (decide (rootZ (x0) < 0)), x3.v]), .is (.agg #[.bool (decide (rootZ (x0) < 0)), x5.v]), .is (.bool (true)), .is (.bool (!(true))), .is (.bool (!(true))), .is (.bool (!(true))), .is (.agg #[.bool (b0), .slice a0 len0 cap0]), spR w (b0) (l0), .is (.int .i64 (((bl (((x0).natAbs : Nat) : Int).toNat : Nat) : Int))), .is (.agg #[.bool (b0), .slice a0 len0 cap0]), .is (.int .i64 (((bl (((x0).natAbs : Nat) : Int).toNat : Nat) : Int))), .is (.bool (false)), .is (.bool (false))]) Z (by kernel_rfl) _ rfl (by kernel_rfl) (by kernel_rfl) rfl ⟨?_, ?_, ?_, ?_, ?_, ?_, ?_, ?_, ?_, ?_, ?_, ?_, ?_, ?_, ?_, ?_, ?_, trivial⟩ ?_
  · intro a e7 W Q Z; exact step_is (fun _ h => op_plain rfl rfl h) (run_move rfl (ev e7))
  · intro a e9 W Q Z; exact step_is (fun _ h => op_plain rfl rfl h) (run_move rfl (ev e9))
  · intro a x11 e12 x13 e14 W Q Z; exact step_is (fun _ h => op_plain rfl rfl h) (run_cast (run_neq rfl (ev e12) (ev e14)) (decide_eq_false (fun h => h rfl)))
  · intro a x16 e17 W Q Z; exact step_is (fun _ h => op_plain rfl rfl h) (run_move rfl (ev e17))
  · intro a x19 e20 e21 W Q Z; exact step_is (fun _ h => op_want rfl rfl rfl e20 h) (run_load2 rfl (ev e21) (Z.bx 1 rfl))
  · intro a x23 e24 e25 W Q Z; exact step_is (fun _ h => op_want rfl rfl rfl e24 h) (run_load2 rfl (ev e25) (Z.bx 0 rfl))
  · intro a x27 e28 x29 e30 x31 e32 W Q Z; exact step_call (fun _ h => op_want rfl rfl rfl e28 h) rfl Try.func16 rfl rfl (args2 (ev e30) (ev e32)) (Z.callV (eqI_same (z1 := rootZ (x0)) (z2 := rootZ (x0)) (Z.rdO 1 rfl) (Z.rdO 0 rfl) (Bd.fm (Bd.abs (Bd.rootZ F0)) (by decide)) rfl))
  · intro a x34 e35 x36 e37 W Q Z; exact step_is (fun _ h => op_want rfl rfl rfl e35 h) (run_not rfl (ev e37))
  · intro a x39 e40 x41 e42 W Q Z; exact step_is (fun _ h => op_plain rfl rfl h) (run_pickF rfl (ev e40) (ev e42))
  · intro a x44 e45 W Q Z; exact step_is (fun _ h => op_plain rfl rfl h) (run_move rfl (ev e45))
  · intro a x47 e48 e49 W Q Z; exact step_is (fun _ h => op_want rfl rfl rfl e48 h) (run_load2 rfl (ev e49) (Z.bx 2 rfl))
  · intro a x51 e52 x53 e54 W Q Z; exact step_call (fun _ h => op_want rfl rfl rfl e52 h) rfl Try.func15 rfl rfl (args1 (ev e54)) (Z.callR (trammellaw02_own.res (Z.rd 3 rfl) hl0))
  · intro a x56 e57 x58 e59 W Q Z; exact step_call (fun _ h => op_want rfl rfl rfl e57 h) rfl Try.func47 rfl rfl (args1 (ev e59)) (Z.callV (zint_Bits.sem (N0 _ _ (Z.rdO 0 rfl))  ))
  · intro a x61 e62 e63 W Q Z; exact step_is (fun _ h => op_want rfl rfl rfl e62 h) (run_load2 rfl (ev e63) (Z.bx 2 rfl))
  · intro a x65 e66 x67 e68 W Q Z; exact step_call (fun _ h => op_want rfl rfl rfl e66 h) rfl Try.func48 rfl rfl (args1 (ev e68)) (Z.callV (trammelref02_Bits.sem (N0 _ _ (Z.rd 3 rfl))  ))
  · intro a x70 e71 x72 e73 x74 e75 W Q Z; exact step_is (fun _ h => op_want rfl rfl rfl e71 h) (run_cast (run_neq rfl (ev e73) (ev e75)) (decide_eq_false (fun h => h rfl)))
  · intro a x77 e78 x79 e80 W Q Z; exact step_is (fun _ h => op_plain rfl rfl h) (run_pickF rfl (ev e78) (ev e80))
  clear Z; intro x8 x10 x15 x18 x22 x26 x33 x38 x43 x46 x50 x55 x60 x64 x69 x76 x81 W Z
  (try simp only [Act.put, List.setIfInBounds_toArray, List.set_cons_zero, List.set_cons_succ])
  show Code.wp _ _ _ _ _
  refine wp_cond_false rfl ?_
  refine wp_skip ?_
  show Code.wp _ _ _ _ _
  refine wp_seq ?_
  refine wp_region_list ?_
  refine seq_is (v := .agg #[.bool (b0), .slice a0 len0 cap0]) rfl (run_load2 rfl rfl (Z.bx 2 rfl)) ?_
  (try simp only [Act.put, List.setIfInBounds_toArray, List.set_cons_zero, List.set_cons_succ])
  refine seq_call Z rfl rfl Try.func15 rfl rfl (args1 rfl) (Z.callR (trammellaw02_own.res (Z.rd 4 rfl) hl0)) ?_; clear Z; intro x82 W Z
  (try simp only [Act.put, List.setIfInBounds_toArray, List.set_cons_zero, List.set_cons_succ])
  refine seq_call Z rfl rfl Try.func49 rfl rfl (args1 rfl) (Z.callV (zint_Top.sem (N0 _ _ (Z.rdO 0 rfl))  (Bd.mono F0 (by decide)))) ?_; clear Z; intro x83 W Z
  (try simp only [Act.put, List.setIfInBounds_toArray, List.set_cons_zero, List.set_cons_succ])
  refine seq_is (v := .tuple #[.int .u64 (topM (x0)), .int .i64 (((topE (x0) : Nat) : Int)), .bool (topB (x0))]) rfl (run_move rfl rfl) ?_
  (try simp only [Act.put, List.setIfInBounds_toArray, List.set_cons_zero, List.set_cons_succ])
  refine seq_is (v := .int .u64 (topM (x0))) rfl (run_extract rfl rfl rfl) ?_
  (try simp only [Act.put, List.setIfInBounds_toArray, List.set_cons_zero, List.set_cons_succ])
  refine seq_is (v := .int .i64 (((topE (x0) : Nat) : Int))) rfl (run_extract rfl rfl rfl) ?_
  (try simp only [Act.put, List.setIfInBounds_toArray, List.set_cons_zero, List.set_cons_succ])
  refine seq_is (v := .bool (topB (x0))) rfl (run_extract rfl rfl rfl) ?_
  (try simp only [Act.put, List.setIfInBounds_toArray, List.set_cons_zero, List.set_cons_succ])
  refine seq_is (v := .int .u64 (topM (x0))) rfl (run_assign rfl rfl) ?_
  (try simp only [Act.put, List.setIfInBounds_toArray, List.set_cons_zero, List.set_cons_succ])
  refine seq_is (v := .int .i64 (((topE (x0) : Nat) : Int))) rfl (run_assign rfl rfl) ?_
  (try simp only [Act.put, List.setIfInBounds_toArray, List.set_cons_zero, List.set_cons_succ])
  refine seq_is (v := .bool (topB (x0))) rfl (run_assign rfl rfl) ?_
  (try simp only [Act.put, List.setIfInBounds_toArray, List.set_cons_zero, List.set_cons_succ])
  show Code.wp _ _ _ _ _
  refine wp_seq ?_
  refine wp_region_list ?_
  refine seq_is (v := .agg #[.bool (b0), .slice a0 len0 cap0]) rfl (run_load2 rfl rfl (Z.bx 2 rfl)) ?_
  (try simp only [Act.put, List.setIfInBounds_toArray, List.set_cons_zero, List.set_cons_succ])
  refine seq_call Z rfl rfl Try.func50 rfl rfl (args1 rfl) (Z.callV (trammelref02_Top.sem (N0 _ _ (Z.rd 5 rfl))  (Bd.mono F0 (by decide)))) ?_; clear Z; intro x84 W Z
  (try simp only [Act.put, List.setIfInBounds_toArray, List.set_cons_zero, List.set_cons_succ])
  refine seq_is (v := .tuple #[.int .u64 (topM (x0)), .int .i64 (((topE (x0) : Nat) : Int)), .bool (topB (x0))]) rfl (run_move rfl rfl) ?_
  (try simp only [Act.put, List.setIfInBounds_toArray, List.set_cons_zero, List.set_cons_succ])
  refine seq_is (v := .int .u64 (topM (x0))) rfl (run_extract rfl rfl rfl) ?_
  (try simp only [Act.put, List.setIfInBounds_toArray, List.set_cons_zero, List.set_cons_succ])
  refine seq_is (v := .int .i64 (((topE (x0) : Nat) : Int))) rfl (run_extract rfl rfl rfl) ?_
  (try simp only [Act.put, List.setIfInBounds_toArray, List.set_cons_zero, List.set_cons_succ])
  refine seq_is (v := .bool (topB (x0))) rfl (run_extract rfl rfl rfl) ?_
  (try simp only [Act.put, List.setIfInBounds_toArray, List.set_cons_zero, List.set_cons_succ])
  refine seq_is (v := .int .u64 (topM (x0))) rfl (run_assign rfl rfl) ?_
  (try simp only [Act.put, List.setIfInBounds_toArray, List.set_cons_zero, List.set_cons_succ])
  refine seq_is (v := .int .i64 (((topE (x0) : Nat) : Int))) rfl (run_assign rfl rfl) ?_
  (try simp only [Act.put, List.setIfInBounds_toArray, List.set_cons_zero, List.set_cons_succ])
  refine seq_is (v := .bool (topB (x0))) rfl (run_assign rfl rfl) ?_
  (try simp only [Act.put, List.setIfInBounds_toArray, List.set_cons_zero, List.set_cons_succ])
  show Code.wp _ _ _ _ _
  refine wp_seq ?_
  refine wp_region_list ?_
  refine seq_is (v := .int .u64 (topM (x0))) rfl (run_move rfl rfl) ?_
  (try simp only [Act.put, List.setIfInBounds_toArray, List.set_cons_zero, List.set_cons_succ])
  refine seq_is (v := .int .u64 (topM (x0))) rfl (run_move rfl rfl) ?_
  (try simp only [Act.put, List.setIfInBounds_toArray, List.set_cons_zero, List.set_cons_succ])
  refine seq_is (v := .bool (true)) rfl (run_cast (run_eqlW rfl rfl rfl) (decide_eq_true rfl)) ?_
  (try simp only [Act.put, List.setIfInBounds_toArray, List.set_cons_zero, List.set_cons_succ])
  refine seq_is (v := .bool (true)) rfl (run_move rfl rfl) ?_
  (try simp only [Act.put, List.setIfInBounds_toArray, List.set_cons_zero, List.set_cons_succ])
  refine list_want rfl rfl rfl (wp_run (v := .int .i64 (((topE (x0) : Nat) : Int))) (run_move rfl rfl) ?_)
  (try simp only [Act.put, List.setIfInBounds_toArray, List.set_cons_zero, List.set_cons_succ])
  refine list_want rfl rfl rfl (wp_run (v := .int .i64 (((topE (x0) : Nat) : Int))) (run_move rfl rfl) ?_)
  (try simp only [Act.put, List.setIfInBounds_toArray, List.set_cons_zero, List.set_cons_succ])
  refine list_want rfl rfl rfl (wp_run (v := .bool (true)) (run_cast (run_eql rfl rfl rfl) (decide_eq_true rfl)) ?_)
  (try simp only [Act.put, List.setIfInBounds_toArray, List.set_cons_zero, List.set_cons_succ])
  refine seq_is (v := .bool (true)) rfl (run_pickT rfl rfl rfl) ?_
  (try simp only [Act.put, List.setIfInBounds_toArray, List.set_cons_zero, List.set_cons_succ])
  refine seq_is (v := .bool (true)) rfl (run_move rfl rfl) ?_
  (try simp only [Act.put, List.setIfInBounds_toArray, List.set_cons_zero, List.set_cons_succ])
  refine list_want rfl rfl rfl (wp_run (v := .bool (topB (x0))) (run_move rfl rfl) ?_)
  (try simp only [Act.put, List.setIfInBounds_toArray, List.set_cons_zero, List.set_cons_succ])
  refine list_want rfl rfl rfl (wp_run (v := .bool (topB (x0))) (run_move rfl rfl) ?_)
  (try simp only [Act.put, List.setIfInBounds_toArray, List.set_cons_zero, List.set_cons_succ])
  refine list_want rfl rfl rfl (wp_run (v := .bool (true)) (run_cast (run_eqlB rfl rfl rfl) (beq_self_eq_true _)) ?_)
  (try simp only [Act.put, List.setIfInBounds_toArray, List.set_cons_zero, List.set_cons_succ])
  refine seq_is (v := .bool (true)) rfl (run_pickT rfl rfl rfl) ?_
  (try simp only [Act.put, List.setIfInBounds_toArray, List.set_cons_zero, List.set_cons_succ])
  refine seq_is (v := .bool (true)) rfl (run_assign rfl rfl) ?_
  (try simp only [Act.put, List.setIfInBounds_toArray, List.set_cons_zero, List.set_cons_succ])
  show Code.wp _ _ _ _ _
  refine wp_ret ?_
  exact Z.endsV rfl rfl rfl rfl
end Go.Proofs.Ytmbmbmkmjbpcpaa.PA

