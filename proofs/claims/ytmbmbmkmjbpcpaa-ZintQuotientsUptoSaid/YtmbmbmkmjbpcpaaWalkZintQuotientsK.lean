/- The walk of the law ZintQuotients: what its code answers for arguments of a bulk of at most 1048576. -/
import Derived.Outline
import Derived.Test.YtmbmbmkmjbpcpaaZFK
import Derived.Test.YtmbmbmkmjbpcpaaPAx0K
namespace Go.Proofs.Ytmbmbmkmjbpcpaa.PA
open Go Go.Proofs.Ytmbmbmkmjbpcpaa.Nums Go.RowKit Go.Proofs.YtmbmbmkmjbpcpaaW.PrintWords Go.Proofs.YtmbmbmkmjbpcpaaW.PrintLast Go.Proofs.YtmbmbmkmjbpcpaaW.PrintMore
set_option linter.unusedVariables false
set_option linter.unusedSimpArgs false
set_option maxHeartbeats 8000000 in
set_option maxRecDepth 100000 in
theorem trammellaw02_ZintQuotients.walk (b0 : Bool) (a0 : Option Addr) (len0 cap0 : Nat) (q0 : List Int) (b1 : Bool) (a1 : Option Addr) (len1 cap1 : Nat) (q1 : List Int) (w : World) (w0 : bulks.IsRow .u32 w a0 len0 cap0 q0) (y0 : len0 ≤ 1048576) (w1 : bulks.IsRow .u32 w a1 len1 cap1 q1) (y1 : len1 ≤ 1048576) : Calls Try.prog 9 #[.agg #[.bool b0, .slice a0 len0 cap0], .agg #[.bool b1, .slice a1 len1 cap1]] w (RetV w (.bool true)) := by
  obtain ⟨l0, r0, o0, hl0⟩ := row_rd w0 y0
  obtain ⟨x0, N0, F0, hx0⟩ := arg_num (b := b0) o0 hl0
  obtain ⟨l1, r1, o1, hl1⟩ := row_rd w1 y1
  obtain ⟨x1, N1, F1, hx1⟩ := arg_num (b := b1) o1 hl1
  have Z := Zt.start w (r0.has.append r1.has)
  rcases Decidable.em (x1 = 0) with h0 | h0
  · have hs := sign0_t h0
    go_enter Try.func9, Try.ntmps9
    refine wp_seq ?_
    refine wp_region_list ?_
    refine seq_box Z rfl rfl rfl ?_; clear Z; intro g1 W Z
    (try simp only [Act.put, List.setIfInBounds_toArray, List.set_cons_zero, List.set_cons_succ])
    refine seq_box Z rfl rfl rfl ?_; clear Z; intro g2 W Z
    (try simp only [Act.put, List.setIfInBounds_toArray, List.set_cons_zero, List.set_cons_succ])
    refine seq_is (v := .bool (false)) rfl (run_assign rfl rfl) ?_
    (try simp only [Act.put, List.setIfInBounds_toArray, List.set_cons_zero, List.set_cons_succ])
    show Code.wp _ _ _ _ _
    refine wp_seq ?_
    refine wp_dag2 (pre := [_, _, _, _, _, _, _, _, _, _, _]) (sps := [.is (.agg #[.bool (b0), .slice a0 len0 cap0]), spR w (b0) (l0), .is (.agg #[.bool (b1), .slice a1 len1 cap1]), spR w (b1) (l1), spIIi w 0 0 (.int .i64 11), spIIi w 0 0 (.int .i64 11), spI w ((0 : Int)), spI w ((0 : Int)), .is (.int .i64 (11)), .box 25 #[.bool false, .slice none 0 0], .box 25 #[.bool false, .slice none 0 0]]) Z (by kernel_rfl) _ rfl (by kernel_rfl) (by kernel_rfl) (by kernel_rfl) rfl (fun _ _ d _ _ h => by cases d <;> exact h) ⟨?_, ?_, ?_, ?_, ?_, ?_, ?_, ?_, ?_, ?_, ?_, trivial⟩ ?_
    · intro a e3 W Q Z; exact step_is (fun _ h => op_plain rfl rfl h) (run_load2 rfl (ev e3) (Z.bx 1 rfl))
    · intro a x5 e6 W Q Z; exact step_call (fun _ h => op_plain rfl rfl h) rfl Try.func15 rfl rfl (args1 (ev e6)) (Z.callR (trammellaw02_own.res (Z.rd 0 rfl) hl0))
    · intro a e8 W Q Z; exact step_is (fun _ h => op_plain rfl rfl h) (run_load2 rfl (ev e8) (Z.bx 0 rfl))
    · intro a x10 e11 W Q Z; exact step_call (fun _ h => op_plain rfl rfl h) rfl Try.func15 rfl rfl (args1 (ev e11)) (Z.callR (trammellaw02_own.res (Z.rd 1 rfl) hl1))
    · intro a x13 e14 x15 e16 W Q Z; exact step_call (fun _ h => op_plain rfl rfl h) rfl Try.func51 rfl rfl (args2 (ev e14) (ev e16)) (Z.callIIi (zint_Floor.sem0 (N0 _ _ (Z.rdO 1 rfl)) (N1 _ _ (Z.rdO 0 rfl)) (by omega)))
    · intro a x18 e19 W Q Z; exact step_val x18 (fun _ h => op_plain rfl rfl h) (run_move rfl (ev e19)) (has_two (Z.has 0 rfl) (Z.has 1 rfl))
    · intro a x21 e22 W Q Z; exact step_val x21.1 (fun _ h => op_plain rfl rfl h) (run_extract rfl (ev e22) rfl) (has_one (Z.has 0 rfl))
    · intro a x24 e25 W Q Z; exact step_val x24.2 (fun _ h => op_plain rfl rfl h) (run_extract rfl (ev e25) rfl) (has_one (Z.has 1 rfl))
    · intro a x27 e28 W Q Z; exact step_is (fun _ h => op_plain rfl rfl h) (run_extract rfl (ev e28) rfl)
    · intro a W Q Z; exact step_box (fun _ h => op_plain rfl rfl h) (by decide) (run_alloc2 rfl)
    · intro a W Q Z; exact step_box (fun _ h => op_plain rfl rfl h) (by decide) (run_alloc2 rfl)
    clear Z; intro x4 x7 x9 x12 x17 x20 x23 x26 x29 g30 g31 W Z
    (try simp only [Act.put, List.setIfInBounds_toArray, List.set_cons_zero, List.set_cons_succ])
    refine seq_store Z 1 rfl rfl rfl rfl rfl ?_; clear Z; intro W Z
    (try simp only [Act.put, List.setIfInBounds_toArray, List.set_cons_zero, List.set_cons_succ])
    refine seq_store Z 0 rfl rfl rfl rfl rfl ?_; clear Z; intro W Z
    (try simp only [Act.put, List.setIfInBounds_toArray, List.set_cons_zero, List.set_cons_succ])
    refine seq_is (v := .int .i64 (11)) rfl (run_assign rfl rfl) ?_
    (try simp only [Act.put, List.setIfInBounds_toArray, List.set_cons_zero, List.set_cons_succ])
    show Code.wp _ _ _ _ _
    refine wp_seq ?_
    refine wp_dag2 (pre := [_, _, _, _, _, _, _, _, _]) (sps := [.is (.agg #[.bool (b0), .slice a0 len0 cap0]), spR w (b0) (l0), .is (.agg #[.bool (b1), .slice a1 len1 cap1]), spR w (b1) (l1), spIi w ((0 : Int)) (.int .i64 (11)), spIi w ((0 : Int)) (.int .i64 (11)), spI w ((0 : Int)), .is (.int .i64 (11)), .box 25 #[.bool false, .slice none 0 0]]) Z (by kernel_rfl) _ rfl (by kernel_rfl) (by kernel_rfl) (by kernel_rfl) rfl (fun _ _ d _ _ h => by cases d <;> exact h) ⟨?_, ?_, ?_, ?_, ?_, ?_, ?_, ?_, ?_, trivial⟩ ?_
    · intro a e32 W Q Z; exact step_is (fun _ h => op_plain rfl rfl h) (run_load2 rfl (ev e32) (Z.bx 3 rfl))
    · intro a x34 e35 W Q Z; exact step_call (fun _ h => op_plain rfl rfl h) rfl Try.func15 rfl rfl (args1 (ev e35)) (Z.callR (trammellaw02_own.res (Z.rd 8 rfl) hl0))
    · intro a e37 W Q Z; exact step_is (fun _ h => op_plain rfl rfl h) (run_load2 rfl (ev e37) (Z.bx 2 rfl))
    · intro a x39 e40 W Q Z; exact step_call (fun _ h => op_plain rfl rfl h) rfl Try.func15 rfl rfl (args1 (ev e40)) (Z.callR (trammellaw02_own.res (Z.rd 9 rfl) hl1))
    · intro a x42 e43 x44 e45 W Q Z; exact step_call (fun _ h => op_plain rfl rfl h) rfl Try.func52 rfl rfl (args2 (ev e43) (ev e45)) (Z.callIi (zint_Near.sem0 (N0 _ _ (Z.rdO 1 rfl)) (N1 _ _ (Z.rdO 0 rfl)) (Bd.mono F0 (by decide)) (Bd.mono F1 (by decide)) (by omega)))
    · intro a x47 e48 W Q Z; exact step_val x47 (fun _ h => op_plain rfl rfl h) (run_move rfl (ev e48)) (has_one (Z.has 0 rfl))
    · intro a x50 e51 W Q Z; exact step_val x50 (fun _ h => op_plain rfl rfl h) (run_extract rfl (ev e51) rfl) (has_one (Z.has 0 rfl))
    · intro a x53 e54 W Q Z; exact step_is (fun _ h => op_plain rfl rfl h) (run_extract rfl (ev e54) rfl)
    · intro a W Q Z; exact step_box (fun _ h => op_plain rfl rfl h) (by decide) (run_alloc2 rfl)
    clear Z; intro x33 x36 x38 x41 x46 x49 x52 x55 g56 W Z
    (try simp only [Act.put, List.setIfInBounds_toArray, List.set_cons_zero, List.set_cons_succ])
    refine seq_store Z 0 rfl rfl rfl rfl rfl ?_; clear Z; intro W Z
    (try simp only [Act.put, List.setIfInBounds_toArray, List.set_cons_zero, List.set_cons_succ])
    refine seq_is (v := .int .i64 (11)) rfl (run_assign rfl rfl) ?_
    (try simp only [Act.put, List.setIfInBounds_toArray, List.set_cons_zero, List.set_cons_succ])
    show Code.wp _ _ _ _ _
    refine wp_seq ?_
    refine wp_dag2 (pre := [_, _, _, _, _, _, _, _, _]) (sps := [.is (.agg #[.bool (b0), .slice a0 len0 cap0]), spR w (b0) (l0), .is (.agg #[.bool (b1), .slice a1 len1 cap1]), spR w (b1) (l1), spIi w (exZ (x0) (x1)) (.int .i64 (exE (x0) (x1))), spIi w (exZ (x0) (x1)) (.int .i64 (exE (x0) (x1))), spI w (exZ (x0) (x1)), .is (.int .i64 (exE (x0) (x1))), .box 25 #[.bool false, .slice none 0 0]]) Z (by kernel_rfl) _ rfl (by kernel_rfl) (by kernel_rfl) (by kernel_rfl) rfl (fun _ _ d _ _ h => by cases d <;> exact h) ⟨?_, ?_, ?_, ?_, ?_, ?_, ?_, ?_, ?_, trivial⟩ ?_
    · intro a e57 W Q Z; exact step_is (fun _ h => op_plain rfl rfl h) (run_load2 rfl (ev e57) (Z.bx 4 rfl))
    · intro a x59 e60 W Q Z; exact step_call (fun _ h => op_plain rfl rfl h) rfl Try.func15 rfl rfl (args1 (ev e60)) (Z.callR (trammellaw02_own.res (Z.rd 13 rfl) hl0))
    · intro a e62 W Q Z; exact step_is (fun _ h => op_plain rfl rfl h) (run_load2 rfl (ev e62) (Z.bx 3 rfl))
    · intro a x64 e65 W Q Z; exact step_call (fun _ h => op_plain rfl rfl h) rfl Try.func15 rfl rfl (args1 (ev e65)) (Z.callR (trammellaw02_own.res (Z.rd 14 rfl) hl1))
    · intro a x67 e68 x69 e70 W Q Z; exact step_call (fun _ h => op_plain rfl rfl h) rfl Try.func53 rfl rfl (args2 (ev e68) (ev e70)) (Z.callIi (zint_Exact.sem (N0 _ _ (Z.rdO 1 rfl)) (N1 _ _ (Z.rdO 0 rfl))  (Bd.mono F0 (by decide)) (Bd.mono F1 (by decide))))
    · intro a x72 e73 W Q Z; exact step_val x72 (fun _ h => op_plain rfl rfl h) (run_move rfl (ev e73)) (has_one (Z.has 0 rfl))
    · intro a x75 e76 W Q Z; exact step_val x75 (fun _ h => op_plain rfl rfl h) (run_extract rfl (ev e76) rfl) (has_one (Z.has 0 rfl))
    · intro a x78 e79 W Q Z; exact step_is (fun _ h => op_plain rfl rfl h) (run_extract rfl (ev e79) rfl)
    · intro a W Q Z; exact step_box (fun _ h => op_plain rfl rfl h) (by decide) (run_alloc2 rfl)
    clear Z; intro x58 x61 x63 x66 x71 x74 x77 x80 g81 W Z
    (try simp only [Act.put, List.setIfInBounds_toArray, List.set_cons_zero, List.set_cons_succ])
    refine seq_store Z 0 rfl rfl rfl rfl rfl ?_; clear Z; intro W Z
    (try simp only [Act.put, List.setIfInBounds_toArray, List.set_cons_zero, List.set_cons_succ])
    refine seq_is (v := .int .i64 (exE (x0) (x1))) rfl (run_assign rfl rfl) ?_
    (try simp only [Act.put, List.setIfInBounds_toArray, List.set_cons_zero, List.set_cons_succ])
    show Code.wp _ _ _ _ _
    refine wp_seq ?_
    refine wp_region_list ?_
    refine seq_is (v := .agg #[.bool (b0), .slice a0 len0 cap0]) rfl (run_load2 rfl rfl (Z.bx 5 rfl)) ?_
    (try simp only [Act.put, List.setIfInBounds_toArray, List.set_cons_zero, List.set_cons_succ])
    refine seq_is (v := .agg #[.bool (b1), .slice a1 len1 cap1]) rfl (run_load2 rfl rfl (Z.bx 4 rfl)) ?_
    (try simp only [Act.put, List.setIfInBounds_toArray, List.set_cons_zero, List.set_cons_succ])
    refine seq_call Z rfl rfl Try.func54 rfl rfl (args2 rfl rfl) (Z.callIi (trammelref02_Exact.sem (N0 _ _ (Z.rd 18 rfl)) (N1 _ _ (Z.rd 19 rfl))  (Bd.mono F0 (by decide)) (Bd.mono F1 (by decide)))) ?_; clear Z; intro x82 W Z
    (try simp only [Act.put, List.setIfInBounds_toArray, List.set_cons_zero, List.set_cons_succ])
    refine seq_is (v := .tuple #[.agg #[.bool (decide (exZ (x0) (x1) < 0)), x82.v], .int .i64 (exE (x0) (x1))]) rfl (run_move rfl rfl) ?_
    (try simp only [Act.put, List.setIfInBounds_toArray, List.set_cons_zero, List.set_cons_succ])
    refine seq_is (v := .agg #[.bool (decide (exZ (x0) (x1) < 0)), x82.v]) rfl (run_extract rfl rfl rfl) ?_
    (try simp only [Act.put, List.setIfInBounds_toArray, List.set_cons_zero, List.set_cons_succ])
    refine seq_is (v := .int .i64 (exE (x0) (x1))) rfl (run_extract rfl rfl rfl) ?_
    (try simp only [Act.put, List.setIfInBounds_toArray, List.set_cons_zero, List.set_cons_succ])
    refine seq_alloc Z rfl rfl ?_; clear Z; intro g83 W Z
    (try simp only [Act.put, List.setIfInBounds_toArray, List.set_cons_zero, List.set_cons_succ])
    refine seq_store Z 0 rfl rfl rfl rfl rfl ?_; clear Z; intro W Z
    (try simp only [Act.put, List.setIfInBounds_toArray, List.set_cons_zero, List.set_cons_succ])
    refine seq_is (v := .int .i64 (exE (x0) (x1))) rfl (run_assign rfl rfl) ?_
    (try simp only [Act.put, List.setIfInBounds_toArray, List.set_cons_zero, List.set_cons_succ])
    show Code.wp _ _ _ _ _
    refine wp_seq ?_
    refine wp_seq ?_
    refine wp_region_list ?_
    refine seq_is (v := .int .i64 (exE (x0) (x1))) rfl (run_move rfl rfl) ?_
    (try simp only [Act.put, List.setIfInBounds_toArray, List.set_cons_zero, List.set_cons_succ])
    refine seq_is (v := .int .i64 (exE (x0) (x1))) rfl (run_move rfl rfl) ?_
    (try simp only [Act.put, List.setIfInBounds_toArray, List.set_cons_zero, List.set_cons_succ])
    refine seq_is (v := .bool (decide ((exE (x0) (x1)) ≠ (exE (x0) (x1))))) rfl (run_neq rfl rfl rfl) ?_
    (try simp only [Act.put, List.setIfInBounds_toArray, List.set_cons_zero, List.set_cons_succ])
    refine seq_is (v := .bool (decide ((exE (x0) (x1)) ≠ (exE (x0) (x1))))) rfl (run_move rfl rfl) ?_
    (try simp only [Act.put, List.setIfInBounds_toArray, List.set_cons_zero, List.set_cons_succ])
    refine list_want rfl rfl (congrArg some (congrArg Value.bool (decide_eq_false (fun h => h rfl)))) (wp_run (v := .agg #[.bool (decide (exZ (x0) (x1) < 0)), x77.v]) (run_load2 rfl rfl (Z.bx 1 rfl)) ?_)
    (try simp only [Act.put, List.setIfInBounds_toArray, List.set_cons_zero, List.set_cons_succ])
    refine list_want rfl rfl (congrArg some (congrArg Value.bool (decide_eq_false (fun h => h rfl)))) (wp_run (v := .agg #[.bool (decide (exZ (x0) (x1) < 0)), x82.v]) (run_load2 rfl rfl (Z.bx 0 rfl)) ?_)
    (try simp only [Act.put, List.setIfInBounds_toArray, List.set_cons_zero, List.set_cons_succ])
    refine seq_callw Z (fun h => list_want rfl rfl (congrArg some (congrArg Value.bool (decide_eq_false (fun h => h rfl)))) h) rfl Try.func16 rfl rfl (args2 rfl rfl) (Z.callV (eqI_same (z1 := exZ (x0) (x1)) (z2 := exZ (x0) (x1)) (Z.rdO 1 rfl) (Z.rdO 0 rfl) (Bd.fm (Bd.abs (Bd.ex F0)) (by decide)) rfl)) ?_; clear Z; intro x84 W Z
    (try simp only [Act.put, List.setIfInBounds_toArray, List.set_cons_zero, List.set_cons_succ])
    refine list_want rfl rfl (congrArg some (congrArg Value.bool (decide_eq_false (fun h => h rfl)))) (wp_run (v := .bool (!(true))) (run_not rfl rfl) ?_)
    (try simp only [Act.put, List.setIfInBounds_toArray, List.set_cons_zero, List.set_cons_succ])
    refine seq_is (v := .bool (!(true))) rfl (run_pickF rfl ((show _ = Value.bool (decide ((exE (x0) (x1)) ≠ (exE (x0) (x1)))) from rfl).trans (congrArg Value.bool (decide_eq_false (fun h => h rfl)))) rfl) ?_
    (try simp only [Act.put, List.setIfInBounds_toArray, List.set_cons_zero, List.set_cons_succ])
    show Code.wp _ _ _ _ _
    refine wp_cond_false rfl ?_
    refine wp_skip ?_
    show Code.wp _ _ _ _ _
    refine wp_seq ?_
    refine wp_seq ?_
    refine wp_region_list ?_
    refine seq_is (v := .agg #[.bool (b1), .slice a1 len1 cap1]) rfl (run_load2 rfl rfl (Z.bx 5 rfl)) ?_
    (try simp only [Act.put, List.setIfInBounds_toArray, List.set_cons_zero, List.set_cons_succ])
    refine seq_call Z rfl rfl Try.func37 rfl rfl (args1 rfl) (Z.callV (trammelref02_Sign.sem (N1 _ _ (Z.rd 20 rfl)) (Bd.fm (Bd.abs F1) (by decide)) )) ?_; clear Z; intro x85 W Z
    (try simp only [Act.put, List.setIfInBounds_toArray, List.set_cons_zero, List.set_cons_succ])
    refine seq_is (v := .bool (decide (((x1).sign) = (0)))) rfl (run_eql rfl rfl rfl) ?_
    (try simp only [Act.put, List.setIfInBounds_toArray, List.set_cons_zero, List.set_cons_succ])
    show Code.wp _ _ _ _ _
    refine wp_cond_true ((show _ = Value.bool (decide (((x1).sign) = (0))) from rfl).trans (congrArg Value.bool hs)) ?_
    refine wp_seq ?_
    refine wp_region_list ?_
    refine seq_is (v := .int .i64 (11)) rfl (run_move rfl rfl) ?_
    (try simp only [Act.put, List.setIfInBounds_toArray, List.set_cons_zero, List.set_cons_succ])
    refine seq_is (v := .bool (decide ((11 : Int) = (11)))) rfl (run_eqlE rfl rfl rfl) ?_
    (try simp only [Act.put, List.setIfInBounds_toArray, List.set_cons_zero, List.set_cons_succ])
    refine seq_is (v := .bool (decide ((11 : Int) = (11)))) rfl (run_move rfl rfl) ?_
    (try simp only [Act.put, List.setIfInBounds_toArray, List.set_cons_zero, List.set_cons_succ])
    refine list_want rfl rfl rfl (wp_run (v := .int .i64 (11)) (run_move rfl rfl) ?_)
    (try simp only [Act.put, List.setIfInBounds_toArray, List.set_cons_zero, List.set_cons_succ])
    refine list_want rfl rfl rfl (wp_run (v := .bool (decide ((11 : Int) = (11)))) (run_eqlE rfl rfl rfl) ?_)
    (try simp only [Act.put, List.setIfInBounds_toArray, List.set_cons_zero, List.set_cons_succ])
    refine seq_is (v := .bool (decide ((11 : Int) = (11)))) rfl (run_pickT rfl rfl rfl) ?_
    (try simp only [Act.put, List.setIfInBounds_toArray, List.set_cons_zero, List.set_cons_succ])
    refine seq_is (v := .bool (decide ((11 : Int) = (11)))) rfl (run_move rfl rfl) ?_
    (try simp only [Act.put, List.setIfInBounds_toArray, List.set_cons_zero, List.set_cons_succ])
    refine list_want rfl rfl rfl (wp_run (v := .agg #[.bool (decide ((0 : Int) < 0)), x23.v]) (run_load2 rfl rfl (Z.bx 4 rfl)) ?_)
    (try simp only [Act.put, List.setIfInBounds_toArray, List.set_cons_zero, List.set_cons_succ])
    refine list_want rfl rfl rfl (wp_run (v := .agg #[.bool (false), .slice none 0 0]) (run_build0 rfl) ?_)
    (try simp only [Act.put, List.setIfInBounds_toArray, List.set_cons_zero, List.set_cons_succ])
    refine seq_callw Z (fun h => list_want rfl rfl rfl h) rfl Try.func16 rfl rfl (args2 rfl rfl) (Z.callV (eqI_same (z1 := (0 : Int)) (z2 := 0) (Z.rdO 12 rfl) (Rd_nil0 _) (Bd.fm (Bd.abs (Bd.lit (k := 64) (z := 0) (by decide))) (by decide)) rfl)) ?_; clear Z; intro x86 W Z
    (try simp only [Act.put, List.setIfInBounds_toArray, List.set_cons_zero, List.set_cons_succ])
    refine seq_is (v := .bool (true)) rfl (run_pickT rfl rfl rfl) ?_
    (try simp only [Act.put, List.setIfInBounds_toArray, List.set_cons_zero, List.set_cons_succ])
    refine seq_is (v := .bool (true)) rfl (run_move rfl rfl) ?_
    (try simp only [Act.put, List.setIfInBounds_toArray, List.set_cons_zero, List.set_cons_succ])
    refine list_want rfl rfl rfl (wp_run (v := .agg #[.bool (decide ((0 : Int) < 0)), x26.v]) (run_load2 rfl rfl (Z.bx 3 rfl)) ?_)
    (try simp only [Act.put, List.setIfInBounds_toArray, List.set_cons_zero, List.set_cons_succ])
    refine list_want rfl rfl rfl (wp_run (v := .agg #[.bool (false), .slice none 0 0]) (run_build0 rfl) ?_)
    (try simp only [Act.put, List.setIfInBounds_toArray, List.set_cons_zero, List.set_cons_succ])
    refine seq_callw Z (fun h => list_want rfl rfl rfl h) rfl Try.func16 rfl rfl (args2 rfl rfl) (Z.callV (eqI_same (z1 := (0 : Int)) (z2 := 0) (Z.rdO 11 rfl) (Rd_nil0 _) (Bd.fm (Bd.abs (Bd.lit (k := 64) (z := 0) (by decide))) (by decide)) rfl)) ?_; clear Z; intro x87 W Z
    (try simp only [Act.put, List.setIfInBounds_toArray, List.set_cons_zero, List.set_cons_succ])
    refine seq_is (v := .bool (true)) rfl (run_pickT rfl rfl rfl) ?_
    (try simp only [Act.put, List.setIfInBounds_toArray, List.set_cons_zero, List.set_cons_succ])
    refine seq_is (v := .bool (true)) rfl (run_move rfl rfl) ?_
    (try simp only [Act.put, List.setIfInBounds_toArray, List.set_cons_zero, List.set_cons_succ])
    refine list_want rfl rfl rfl (wp_run (v := .agg #[.bool (decide ((0 : Int) < 0)), x52.v]) (run_load2 rfl rfl (Z.bx 2 rfl)) ?_)
    (try simp only [Act.put, List.setIfInBounds_toArray, List.set_cons_zero, List.set_cons_succ])
    refine list_want rfl rfl rfl (wp_run (v := .agg #[.bool (false), .slice none 0 0]) (run_build0 rfl) ?_)
    (try simp only [Act.put, List.setIfInBounds_toArray, List.set_cons_zero, List.set_cons_succ])
    refine seq_callw Z (fun h => list_want rfl rfl rfl h) rfl Try.func16 rfl rfl (args2 rfl rfl) (Z.callV (eqI_same (z1 := (0 : Int)) (z2 := 0) (Z.rdO 6 rfl) (Rd_nil0 _) (Bd.fm (Bd.abs (Bd.lit (k := 64) (z := 0) (by decide))) (by decide)) rfl)) ?_; clear Z; intro x88 W Z
    (try simp only [Act.put, List.setIfInBounds_toArray, List.set_cons_zero, List.set_cons_succ])
    refine seq_is (v := .bool (true)) rfl (run_pickT rfl rfl rfl) ?_
    (try simp only [Act.put, List.setIfInBounds_toArray, List.set_cons_zero, List.set_cons_succ])
    refine seq_is (v := .bool (true)) rfl (run_assign rfl rfl) ?_
    (try simp only [Act.put, List.setIfInBounds_toArray, List.set_cons_zero, List.set_cons_succ])
    show Code.wp _ _ _ _ _
    refine wp_ret ?_
    exact Z.endsV rfl rfl rfl rfl
  · have hs := sign0_f h0
    go_enter Try.func9, Try.ntmps9
    refine wp_seq ?_
    refine wp_region_list ?_
    refine seq_box Z rfl rfl rfl ?_; clear Z; intro g1 W Z
    (try simp only [Act.put, List.setIfInBounds_toArray, List.set_cons_zero, List.set_cons_succ])
    refine seq_box Z rfl rfl rfl ?_; clear Z; intro g2 W Z
    (try simp only [Act.put, List.setIfInBounds_toArray, List.set_cons_zero, List.set_cons_succ])
    refine seq_is (v := .bool (false)) rfl (run_assign rfl rfl) ?_
    (try simp only [Act.put, List.setIfInBounds_toArray, List.set_cons_zero, List.set_cons_succ])
    show Code.wp _ _ _ _ _
    refine wp_seq ?_
    refine wp_dag2 (pre := [_, _, _, _, _, _, _, _, _, _, _]) (sps := [.is (.agg #[.bool (b0), .slice a0 len0 cap0]), spR w (b0) (l0), .is (.agg #[.bool (b1), .slice a1 len1 cap1]), spR w (b1) (l1), spIIi w ((x0).fdiv (x1)) ((x0).fmod (x1)) (.int .i64 (0)), spIIi w ((x0).fdiv (x1)) ((x0).fmod (x1)) (.int .i64 (0)), spI w ((x0).fdiv (x1)), spI w ((x0).fmod (x1)), .is (.int .i64 (0)), .box 25 #[.bool false, .slice none 0 0], .box 25 #[.bool false, .slice none 0 0]]) Z (by kernel_rfl) _ rfl (by kernel_rfl) (by kernel_rfl) (by kernel_rfl) rfl (fun _ _ d _ _ h => by cases d <;> exact h) ⟨?_, ?_, ?_, ?_, ?_, ?_, ?_, ?_, ?_, ?_, ?_, trivial⟩ ?_
    · intro a e3 W Q Z; exact step_is (fun _ h => op_plain rfl rfl h) (run_load2 rfl (ev e3) (Z.bx 1 rfl))
    · intro a x5 e6 W Q Z; exact step_call (fun _ h => op_plain rfl rfl h) rfl Try.func15 rfl rfl (args1 (ev e6)) (Z.callR (trammellaw02_own.res (Z.rd 0 rfl) hl0))
    · intro a e8 W Q Z; exact step_is (fun _ h => op_plain rfl rfl h) (run_load2 rfl (ev e8) (Z.bx 0 rfl))
    · intro a x10 e11 W Q Z; exact step_call (fun _ h => op_plain rfl rfl h) rfl Try.func15 rfl rfl (args1 (ev e11)) (Z.callR (trammellaw02_own.res (Z.rd 1 rfl) hl1))
    · intro a x13 e14 x15 e16 W Q Z; exact step_call (fun _ h => op_plain rfl rfl h) rfl Try.func51 rfl rfl (args2 (ev e14) (ev e16)) (Z.callIIi (zint_Floor.sem (N0 _ _ (Z.rdO 1 rfl)) (N1 _ _ (Z.rdO 0 rfl))  (Bd.mono F0 (by decide)) (Bd.mono F1 (by decide)) (by omega)))
    · intro a x18 e19 W Q Z; exact step_val x18 (fun _ h => op_plain rfl rfl h) (run_move rfl (ev e19)) (has_two (Z.has 0 rfl) (Z.has 1 rfl))
    · intro a x21 e22 W Q Z; exact step_val x21.1 (fun _ h => op_plain rfl rfl h) (run_extract rfl (ev e22) rfl) (has_one (Z.has 0 rfl))
    · intro a x24 e25 W Q Z; exact step_val x24.2 (fun _ h => op_plain rfl rfl h) (run_extract rfl (ev e25) rfl) (has_one (Z.has 1 rfl))
    · intro a x27 e28 W Q Z; exact step_is (fun _ h => op_plain rfl rfl h) (run_extract rfl (ev e28) rfl)
    · intro a W Q Z; exact step_box (fun _ h => op_plain rfl rfl h) (by decide) (run_alloc2 rfl)
    · intro a W Q Z; exact step_box (fun _ h => op_plain rfl rfl h) (by decide) (run_alloc2 rfl)
    clear Z; intro x4 x7 x9 x12 x17 x20 x23 x26 x29 g30 g31 W Z
    (try simp only [Act.put, List.setIfInBounds_toArray, List.set_cons_zero, List.set_cons_succ])
    refine seq_store Z 1 rfl rfl rfl rfl rfl ?_; clear Z; intro W Z
    (try simp only [Act.put, List.setIfInBounds_toArray, List.set_cons_zero, List.set_cons_succ])
    refine seq_store Z 0 rfl rfl rfl rfl rfl ?_; clear Z; intro W Z
    (try simp only [Act.put, List.setIfInBounds_toArray, List.set_cons_zero, List.set_cons_succ])
    refine seq_is (v := .int .i64 (0)) rfl (run_assign rfl rfl) ?_
    (try simp only [Act.put, List.setIfInBounds_toArray, List.set_cons_zero, List.set_cons_succ])
    show Code.wp _ _ _ _ _
    refine wp_seq ?_
    refine wp_dag2 (pre := [_, _, _, _, _, _, _, _, _]) (sps := [.is (.agg #[.bool (b0), .slice a0 len0 cap0]), spR w (b0) (l0), .is (.agg #[.bool (b1), .slice a1 len1 cap1]), spR w (b1) (l1), spIi w (nearZ (x0) (x1)) (.int .i64 (0)), spIi w (nearZ (x0) (x1)) (.int .i64 (0)), spI w (nearZ (x0) (x1)), .is (.int .i64 (0)), .box 25 #[.bool false, .slice none 0 0]]) Z (by kernel_rfl) _ rfl (by kernel_rfl) (by kernel_rfl) (by kernel_rfl) rfl (fun _ _ d _ _ h => by cases d <;> exact h) ⟨?_, ?_, ?_, ?_, ?_, ?_, ?_, ?_, ?_, trivial⟩ ?_
    · intro a e32 W Q Z; exact step_is (fun _ h => op_plain rfl rfl h) (run_load2 rfl (ev e32) (Z.bx 3 rfl))
    · intro a x34 e35 W Q Z; exact step_call (fun _ h => op_plain rfl rfl h) rfl Try.func15 rfl rfl (args1 (ev e35)) (Z.callR (trammellaw02_own.res (Z.rd 8 rfl) hl0))
    · intro a e37 W Q Z; exact step_is (fun _ h => op_plain rfl rfl h) (run_load2 rfl (ev e37) (Z.bx 2 rfl))
    · intro a x39 e40 W Q Z; exact step_call (fun _ h => op_plain rfl rfl h) rfl Try.func15 rfl rfl (args1 (ev e40)) (Z.callR (trammellaw02_own.res (Z.rd 9 rfl) hl1))
    · intro a x42 e43 x44 e45 W Q Z; exact step_call (fun _ h => op_plain rfl rfl h) rfl Try.func52 rfl rfl (args2 (ev e43) (ev e45)) (Z.callIi (zint_Near.sem (N0 _ _ (Z.rdO 1 rfl)) (N1 _ _ (Z.rdO 0 rfl))  (Bd.mono F0 (by decide)) (Bd.mono F1 (by decide)) (by omega)))
    · intro a x47 e48 W Q Z; exact step_val x47 (fun _ h => op_plain rfl rfl h) (run_move rfl (ev e48)) (has_one (Z.has 0 rfl))
    · intro a x50 e51 W Q Z; exact step_val x50 (fun _ h => op_plain rfl rfl h) (run_extract rfl (ev e51) rfl) (has_one (Z.has 0 rfl))
    · intro a x53 e54 W Q Z; exact step_is (fun _ h => op_plain rfl rfl h) (run_extract rfl (ev e54) rfl)
    · intro a W Q Z; exact step_box (fun _ h => op_plain rfl rfl h) (by decide) (run_alloc2 rfl)
    clear Z; intro x33 x36 x38 x41 x46 x49 x52 x55 g56 W Z
    (try simp only [Act.put, List.setIfInBounds_toArray, List.set_cons_zero, List.set_cons_succ])
    refine seq_store Z 0 rfl rfl rfl rfl rfl ?_; clear Z; intro W Z
    (try simp only [Act.put, List.setIfInBounds_toArray, List.set_cons_zero, List.set_cons_succ])
    refine seq_is (v := .int .i64 (0)) rfl (run_assign rfl rfl) ?_
    (try simp only [Act.put, List.setIfInBounds_toArray, List.set_cons_zero, List.set_cons_succ])
    show Code.wp _ _ _ _ _
    refine wp_seq ?_
    refine wp_dag2 (pre := [_, _, _, _, _, _, _, _, _]) (sps := [.is (.agg #[.bool (b0), .slice a0 len0 cap0]), spR w (b0) (l0), .is (.agg #[.bool (b1), .slice a1 len1 cap1]), spR w (b1) (l1), spIi w (exZ (x0) (x1)) (.int .i64 (exE (x0) (x1))), spIi w (exZ (x0) (x1)) (.int .i64 (exE (x0) (x1))), spI w (exZ (x0) (x1)), .is (.int .i64 (exE (x0) (x1))), .box 25 #[.bool false, .slice none 0 0]]) Z (by kernel_rfl) _ rfl (by kernel_rfl) (by kernel_rfl) (by kernel_rfl) rfl (fun _ _ d _ _ h => by cases d <;> exact h) ⟨?_, ?_, ?_, ?_, ?_, ?_, ?_, ?_, ?_, trivial⟩ ?_
    · intro a e57 W Q Z; exact step_is (fun _ h => op_plain rfl rfl h) (run_load2 rfl (ev e57) (Z.bx 4 rfl))
    · intro a x59 e60 W Q Z; exact step_call (fun _ h => op_plain rfl rfl h) rfl Try.func15 rfl rfl (args1 (ev e60)) (Z.callR (trammellaw02_own.res (Z.rd 13 rfl) hl0))
    · intro a e62 W Q Z; exact step_is (fun _ h => op_plain rfl rfl h) (run_load2 rfl (ev e62) (Z.bx 3 rfl))
    · intro a x64 e65 W Q Z; exact step_call (fun _ h => op_plain rfl rfl h) rfl Try.func15 rfl rfl (args1 (ev e65)) (Z.callR (trammellaw02_own.res (Z.rd 14 rfl) hl1))
    · intro a x67 e68 x69 e70 W Q Z; exact step_call (fun _ h => op_plain rfl rfl h) rfl Try.func53 rfl rfl (args2 (ev e68) (ev e70)) (Z.callIi (zint_Exact.sem (N0 _ _ (Z.rdO 1 rfl)) (N1 _ _ (Z.rdO 0 rfl))  (Bd.mono F0 (by decide)) (Bd.mono F1 (by decide))))
    · intro a x72 e73 W Q Z; exact step_val x72 (fun _ h => op_plain rfl rfl h) (run_move rfl (ev e73)) (has_one (Z.has 0 rfl))
    · intro a x75 e76 W Q Z; exact step_val x75 (fun _ h => op_plain rfl rfl h) (run_extract rfl (ev e76) rfl) (has_one (Z.has 0 rfl))
    · intro a x78 e79 W Q Z; exact step_is (fun _ h => op_plain rfl rfl h) (run_extract rfl (ev e79) rfl)
    · intro a W Q Z; exact step_box (fun _ h => op_plain rfl rfl h) (by decide) (run_alloc2 rfl)
    clear Z; intro x58 x61 x63 x66 x71 x74 x77 x80 g81 W Z
    (try simp only [Act.put, List.setIfInBounds_toArray, List.set_cons_zero, List.set_cons_succ])
    refine seq_store Z 0 rfl rfl rfl rfl rfl ?_; clear Z; intro W Z
    (try simp only [Act.put, List.setIfInBounds_toArray, List.set_cons_zero, List.set_cons_succ])
    refine seq_is (v := .int .i64 (exE (x0) (x1))) rfl (run_assign rfl rfl) ?_
    (try simp only [Act.put, List.setIfInBounds_toArray, List.set_cons_zero, List.set_cons_succ])
    show Code.wp _ _ _ _ _
    refine wp_seq ?_
    refine wp_region_list ?_
    refine seq_is (v := .agg #[.bool (b0), .slice a0 len0 cap0]) rfl (run_load2 rfl rfl (Z.bx 5 rfl)) ?_
    (try simp only [Act.put, List.setIfInBounds_toArray, List.set_cons_zero, List.set_cons_succ])
    refine seq_is (v := .agg #[.bool (b1), .slice a1 len1 cap1]) rfl (run_load2 rfl rfl (Z.bx 4 rfl)) ?_
    (try simp only [Act.put, List.setIfInBounds_toArray, List.set_cons_zero, List.set_cons_succ])
    refine seq_call Z rfl rfl Try.func54 rfl rfl (args2 rfl rfl) (Z.callIi (trammelref02_Exact.sem (N0 _ _ (Z.rd 18 rfl)) (N1 _ _ (Z.rd 19 rfl))  (Bd.mono F0 (by decide)) (Bd.mono F1 (by decide)))) ?_; clear Z; intro x82 W Z
    (try simp only [Act.put, List.setIfInBounds_toArray, List.set_cons_zero, List.set_cons_succ])
    refine seq_is (v := .tuple #[.agg #[.bool (decide (exZ (x0) (x1) < 0)), x82.v], .int .i64 (exE (x0) (x1))]) rfl (run_move rfl rfl) ?_
    (try simp only [Act.put, List.setIfInBounds_toArray, List.set_cons_zero, List.set_cons_succ])
    refine seq_is (v := .agg #[.bool (decide (exZ (x0) (x1) < 0)), x82.v]) rfl (run_extract rfl rfl rfl) ?_
    (try simp only [Act.put, List.setIfInBounds_toArray, List.set_cons_zero, List.set_cons_succ])
    refine seq_is (v := .int .i64 (exE (x0) (x1))) rfl (run_extract rfl rfl rfl) ?_
    (try simp only [Act.put, List.setIfInBounds_toArray, List.set_cons_zero, List.set_cons_succ])
    refine seq_alloc Z rfl rfl ?_; clear Z; intro g83 W Z
    (try simp only [Act.put, List.setIfInBounds_toArray, List.set_cons_zero, List.set_cons_succ])
    refine seq_store Z 0 rfl rfl rfl rfl rfl ?_; clear Z; intro W Z
    (try simp only [Act.put, List.setIfInBounds_toArray, List.set_cons_zero, List.set_cons_succ])
    refine seq_is (v := .int .i64 (exE (x0) (x1))) rfl (run_assign rfl rfl) ?_
    (try simp only [Act.put, List.setIfInBounds_toArray, List.set_cons_zero, List.set_cons_succ])
    show Code.wp _ _ _ _ _
    refine wp_seq ?_
    refine wp_seq ?_
    refine wp_region_list ?_
    refine seq_is (v := .int .i64 (exE (x0) (x1))) rfl (run_move rfl rfl) ?_
    (try simp only [Act.put, List.setIfInBounds_toArray, List.set_cons_zero, List.set_cons_succ])
    refine seq_is (v := .int .i64 (exE (x0) (x1))) rfl (run_move rfl rfl) ?_
    (try simp only [Act.put, List.setIfInBounds_toArray, List.set_cons_zero, List.set_cons_succ])
    refine seq_is (v := .bool (decide ((exE (x0) (x1)) ≠ (exE (x0) (x1))))) rfl (run_neq rfl rfl rfl) ?_
    (try simp only [Act.put, List.setIfInBounds_toArray, List.set_cons_zero, List.set_cons_succ])
    refine seq_is (v := .bool (decide ((exE (x0) (x1)) ≠ (exE (x0) (x1))))) rfl (run_move rfl rfl) ?_
    (try simp only [Act.put, List.setIfInBounds_toArray, List.set_cons_zero, List.set_cons_succ])
    refine list_want rfl rfl (congrArg some (congrArg Value.bool (decide_eq_false (fun h => h rfl)))) (wp_run (v := .agg #[.bool (decide (exZ (x0) (x1) < 0)), x77.v]) (run_load2 rfl rfl (Z.bx 1 rfl)) ?_)
    (try simp only [Act.put, List.setIfInBounds_toArray, List.set_cons_zero, List.set_cons_succ])
    refine list_want rfl rfl (congrArg some (congrArg Value.bool (decide_eq_false (fun h => h rfl)))) (wp_run (v := .agg #[.bool (decide (exZ (x0) (x1) < 0)), x82.v]) (run_load2 rfl rfl (Z.bx 0 rfl)) ?_)
    (try simp only [Act.put, List.setIfInBounds_toArray, List.set_cons_zero, List.set_cons_succ])
    refine seq_callw Z (fun h => list_want rfl rfl (congrArg some (congrArg Value.bool (decide_eq_false (fun h => h rfl)))) h) rfl Try.func16 rfl rfl (args2 rfl rfl) (Z.callV (eqI_same (z1 := exZ (x0) (x1)) (z2 := exZ (x0) (x1)) (Z.rdO 1 rfl) (Z.rdO 0 rfl) (Bd.fm (Bd.abs (Bd.ex F0)) (by decide)) rfl)) ?_; clear Z; intro x84 W Z
    (try simp only [Act.put, List.setIfInBounds_toArray, List.set_cons_zero, List.set_cons_succ])
    refine list_want rfl rfl (congrArg some (congrArg Value.bool (decide_eq_false (fun h => h rfl)))) (wp_run (v := .bool (!(true))) (run_not rfl rfl) ?_)
    (try simp only [Act.put, List.setIfInBounds_toArray, List.set_cons_zero, List.set_cons_succ])
    refine seq_is (v := .bool (!(true))) rfl (run_pickF rfl ((show _ = Value.bool (decide ((exE (x0) (x1)) ≠ (exE (x0) (x1)))) from rfl).trans (congrArg Value.bool (decide_eq_false (fun h => h rfl)))) rfl) ?_
    (try simp only [Act.put, List.setIfInBounds_toArray, List.set_cons_zero, List.set_cons_succ])
    show Code.wp _ _ _ _ _
    refine wp_cond_false rfl ?_
    refine wp_skip ?_
    show Code.wp _ _ _ _ _
    refine wp_seq ?_
    refine wp_seq ?_
    refine wp_region_list ?_
    refine seq_is (v := .agg #[.bool (b1), .slice a1 len1 cap1]) rfl (run_load2 rfl rfl (Z.bx 5 rfl)) ?_
    (try simp only [Act.put, List.setIfInBounds_toArray, List.set_cons_zero, List.set_cons_succ])
    refine seq_call Z rfl rfl Try.func37 rfl rfl (args1 rfl) (Z.callV (trammelref02_Sign.sem (N1 _ _ (Z.rd 20 rfl)) (Bd.fm (Bd.abs F1) (by decide)) )) ?_; clear Z; intro x85 W Z
    (try simp only [Act.put, List.setIfInBounds_toArray, List.set_cons_zero, List.set_cons_succ])
    refine seq_is (v := .bool (decide (((x1).sign) = (0)))) rfl (run_eql rfl rfl rfl) ?_
    (try simp only [Act.put, List.setIfInBounds_toArray, List.set_cons_zero, List.set_cons_succ])
    show Code.wp _ _ _ _ _
    refine wp_cond_false ((show _ = Value.bool (decide (((x1).sign) = (0))) from rfl).trans (congrArg Value.bool hs)) ?_
    refine wp_skip ?_
    show Code.wp _ _ _ _ _
    refine wp_seq ?_
    refine wp_region_list ?_
    refine seq_is (v := .agg #[.bool (b0), .slice a0 len0 cap0]) rfl (run_load2 rfl rfl (Z.bx 6 rfl)) ?_
    (try simp only [Act.put, List.setIfInBounds_toArray, List.set_cons_zero, List.set_cons_succ])
    refine seq_is (v := .agg #[.bool (b1), .slice a1 len1 cap1]) rfl (run_load2 rfl rfl (Z.bx 5 rfl)) ?_
    (try simp only [Act.put, List.setIfInBounds_toArray, List.set_cons_zero, List.set_cons_succ])
    refine seq_call Z rfl rfl Try.func55 rfl rfl (args2 rfl rfl) (Z.callII (trammelref02_Floor.sem (N0 _ _ (Z.rd 19 rfl)) (N1 _ _ (Z.rd 20 rfl))  (Bd.mono F0 (by decide)) (Bd.mono F1 (by decide)) (by omega))) ?_; clear Z; intro x86 W Z
    (try simp only [Act.put, List.setIfInBounds_toArray, List.set_cons_zero, List.set_cons_succ])
    refine seq_is (v := .tuple #[.agg #[.bool (decide ((x0).fdiv (x1) < 0)), x86.1.v], .agg #[.bool (decide ((x0).fmod (x1) < 0)), x86.2.v]]) rfl (run_move rfl rfl) ?_
    (try simp only [Act.put, List.setIfInBounds_toArray, List.set_cons_zero, List.set_cons_succ])
    refine seq_is (v := .agg #[.bool (decide ((x0).fdiv (x1) < 0)), x86.1.v]) rfl (run_extract rfl rfl rfl) ?_
    (try simp only [Act.put, List.setIfInBounds_toArray, List.set_cons_zero, List.set_cons_succ])
    refine seq_is (v := .agg #[.bool (decide ((x0).fmod (x1) < 0)), x86.2.v]) rfl (run_extract rfl rfl rfl) ?_
    (try simp only [Act.put, List.setIfInBounds_toArray, List.set_cons_zero, List.set_cons_succ])
    refine seq_alloc Z rfl rfl ?_; clear Z; intro g87 W Z
    (try simp only [Act.put, List.setIfInBounds_toArray, List.set_cons_zero, List.set_cons_succ])
    refine seq_alloc Z rfl rfl ?_; clear Z; intro g88 W Z
    (try simp only [Act.put, List.setIfInBounds_toArray, List.set_cons_zero, List.set_cons_succ])
    refine seq_store Z 1 rfl rfl rfl rfl rfl ?_; clear Z; intro W Z
    (try simp only [Act.put, List.setIfInBounds_toArray, List.set_cons_zero, List.set_cons_succ])
    refine seq_store Z 0 rfl rfl rfl rfl rfl ?_; clear Z; intro W Z
    (try simp only [Act.put, List.setIfInBounds_toArray, List.set_cons_zero, List.set_cons_succ])
    show Code.wp _ _ _ _ _
    refine wp_seq ?_
    refine wp_dag (pre := [_, _, _, _, _, _, _, _, _, _, _, _, _, _, _, _, _, _, _, _, _, _, _, _]) (sps := [.is (.int .i64 (0)), .is (.bool (decide ((0 : Int) = (0)))), .is (.bool (decide ((0 : Int) = (0)))), .is (.int .i64 (0)), .is (.bool (decide ((0 : Int) = (0)))), .is (.bool (decide ((0 : Int) = (0)))), .is (.bool (decide ((0 : Int) = (0)))), .is (.agg #[.bool (decide ((x0).fdiv (x1) < 0)), x23.v]), .is (.agg #[.bool (decide ((x0).fdiv (x1) < 0)), x86.1.v]), .is (.bool (true)), .is (.bool (true)), .is (.bool (true)), .is (.agg #[.bool (decide ((x0).fmod (x1) < 0)), x26.v]), .is (.agg #[.bool (decide ((x0).fmod (x1) < 0)), x86.2.v]), .is (.bool (true)), .is (.bool (true)), .is (.bool (true)), .is (.agg #[.bool (decide (nearZ (x0) (x1) < 0)), x52.v]), .is (.agg #[.bool (b0), .slice a0 len0 cap0]), .is (.agg #[.bool (b1), .slice a1 len1 cap1]), spI w (nearZ (x0) (x1)), .is (.bool (true)), .is (.bool (true)), .is (.bool (true))]) Z (by kernel_rfl) _ rfl (by kernel_rfl) (by kernel_rfl) rfl ⟨?_, ?_, ?_, ?_, ?_, ?_, ?_, ?_, ?_, ?_, ?_, ?_, ?_, ?_, ?_, ?_, ?_, ?_, ?_, ?_, ?_, ?_, ?_, ?_, trivial⟩ ?_
    · intro a e89 W Q Z; exact step_is (fun _ h => op_plain rfl rfl h) (run_move rfl (ev e89))
    · intro a x91 e92 W Q Z; exact step_is (fun _ h => op_plain rfl rfl h) (run_eqlE rfl (ev e92) rfl)
    · intro a x94 e95 W Q Z; exact step_is (fun _ h => op_plain rfl rfl h) (run_move rfl (ev e95))
    · intro a x97 e98 e99 W Q Z; exact step_is (fun _ h => op_want rfl rfl rfl e98 h) (run_move rfl (ev e99))
    · intro a x101 e102 x103 e104 W Q Z; exact step_is (fun _ h => op_want rfl rfl rfl e102 h) (run_eqlE rfl (ev e104) rfl)
    · intro a x106 e107 x108 e109 W Q Z; exact step_is (fun _ h => op_plain rfl rfl h) (run_pickT rfl (ev e107) (ev e109))
    · intro a x111 e112 W Q Z; exact step_is (fun _ h => op_plain rfl rfl h) (run_move rfl (ev e112))
    · intro a x114 e115 e116 W Q Z; exact step_is (fun _ h => op_want rfl rfl rfl e115 h) (run_load2 rfl (ev e116) (Z.bx 6 rfl))
    · intro a x118 e119 e120 W Q Z; exact step_is (fun _ h => op_want rfl rfl rfl e119 h) (run_load2 rfl (ev e120) (Z.bx 1 rfl))
    · intro a x122 e123 x124 e125 x126 e127 W Q Z; exact step_call (fun _ h => op_want rfl rfl rfl e123 h) rfl Try.func16 rfl rfl (args2 (ev e125) (ev e127)) (Z.callV (eqI_same (z1 := (x0).fdiv (x1)) (z2 := (x0).fdiv (x1)) (Z.rdO 14 rfl) (Z.rdO 0 rfl) (Bd.fm (Bd.abs (fdiv_bd F0)) (by decide)) rfl))
    · intro a x129 e130 x131 e132 W Q Z; exact step_is (fun _ h => op_plain rfl rfl h) (run_pickT rfl (ev e130) (ev e132))
    · intro a x134 e135 W Q Z; exact step_is (fun _ h => op_plain rfl rfl h) (run_move rfl (ev e135))
    · intro a x137 e138 e139 W Q Z; exact step_is (fun _ h => op_want rfl rfl rfl e138 h) (run_load2 rfl (ev e139) (Z.bx 5 rfl))
    · intro a x141 e142 e143 W Q Z; exact step_is (fun _ h => op_want rfl rfl rfl e142 h) (run_load2 rfl (ev e143) (Z.bx 0 rfl))
    · intro a x145 e146 x147 e148 x149 e150 W Q Z; exact step_call (fun _ h => op_want rfl rfl rfl e146 h) rfl Try.func16 rfl rfl (args2 (ev e148) (ev e150)) (Z.callV (eqI_same (z1 := (x0).fmod (x1)) (z2 := (x0).fmod (x1)) (Z.rdO 13 rfl) (Z.rdO 1 rfl) (Bd.fm (Bd.abs (fmod_bd (k := 0) (by omega) F1)) (by decide)) rfl))
    · intro a x152 e153 x154 e155 W Q Z; exact step_is (fun _ h => op_plain rfl rfl h) (run_pickT rfl (ev e153) (ev e155))
    · intro a x157 e158 W Q Z; exact step_is (fun _ h => op_plain rfl rfl h) (run_move rfl (ev e158))
    · intro a x160 e161 e162 W Q Z; exact step_is (fun _ h => op_want rfl rfl rfl e161 h) (run_load2 rfl (ev e162) (Z.bx 4 rfl))
    · intro a x164 e165 e166 W Q Z; exact step_is (fun _ h => op_want rfl rfl rfl e165 h) (run_load2 rfl (ev e166) (Z.bx 8 rfl))
    · intro a x168 e169 e170 W Q Z; exact step_is (fun _ h => op_want rfl rfl rfl e169 h) (run_load2 rfl (ev e170) (Z.bx 7 rfl))
    · intro a x172 e173 x174 e175 x176 e177 W Q Z; exact step_call (fun _ h => op_want rfl rfl rfl e173 h) rfl Try.func56 rfl rfl (args2 (ev e175) (ev e177)) (Z.callI (trammelref02_Near.sem (N0 _ _ (Z.rd 21 rfl)) (N1 _ _ (Z.rd 22 rfl))  (Bd.mono F0 (by decide)) (Bd.mono F1 (by decide)) (by omega)))
    · intro a x179 e180 x181 e182 x183 e184 W Q Z; exact step_call (fun _ h => op_want rfl rfl rfl e180 h) rfl Try.func16 rfl rfl (args2 (ev e182) (ev e184)) (Z.callV (eqI_same (z1 := nearZ (x0) (x1)) (z2 := nearZ (x0) (x1)) (Z.rdO 9 rfl) (Z.rdO 0 rfl) (Bd.fm (Bd.abs (Bd.near F0 F1)) (by decide)) rfl))
    · intro a x186 e187 x188 e189 W Q Z; exact step_is (fun _ h => op_plain rfl rfl h) (run_pickT rfl (ev e187) (ev e189))
    · intro a x191 e192 W Q Z; exact step_is (fun _ h => op_plain rfl rfl h) (run_assign rfl (ev e192))
    clear Z; intro x90 x93 x96 x100 x105 x110 x113 x117 x121 x128 x133 x136 x140 x144 x151 x156 x159 x163 x167 x171 x178 x185 x190 x193 W Z
    (try simp only [Act.put, List.setIfInBounds_toArray, List.set_cons_zero, List.set_cons_succ])
    show Code.wp _ _ _ _ _
    refine wp_ret ?_
    exact Z.endsV rfl rfl rfl rfl

end Go.Proofs.Ytmbmbmkmjbpcpaa.PA
