/- The walk of the law RatMakes: what its code answers for arguments of a bulk of at most 1048576. -/
import Derived.Outline
import Derived.Test.YtndopanohhdfgaaZawakeK
import Derived.Test.YtndopanohhdfgaaZBulkRK
import Derived.Test.YtndopanohhdfgaaPAx0K
namespace Go.Proofs.Ytndopanohhdfgaa.PA
open Go Go.Proofs.Ytndopanohhdfgaa.Nums Go.RowKit Go.Proofs.YtndopanohhdfgaaW.PrintWords Go.Proofs.YtndopanohhdfgaaW.PrintLast Go.Proofs.YtndopanohhdfgaaW.PrintMore
set_option linter.unusedVariables false
set_option linter.unusedSimpArgs false
set_option maxHeartbeats 8000000 in
set_option maxRecDepth 100000 in
theorem trammellaw03_RatMakes.walk (b0 : Bool) (a0 : Option Addr) (len0 cap0 : Nat) (q0 : List Int) (b1 : Bool) (a1 : Option Addr) (len1 cap1 : Nat) (q1 : List Int) (w : World) (w0 : bulks.IsRow .u32 w a0 len0 cap0 q0) (y0 : len0 ≤ 1048576) (w1 : bulks.IsRow .u32 w a1 len1 cap1 q1) (y1 : len1 ≤ 1048576) : Calls Try.prog 4 #[.agg #[.bool b0, .slice a0 len0 cap0], .agg #[.bool b1, .slice a1 len1 cap1]] w (RetV w (.bool true)) := by
  obtain ⟨l0, r0, o0, hl0⟩ := row_rd w0 y0
  obtain ⟨x0, N0, F0, hx0⟩ := arg_num (b := b0) o0 hl0
  obtain ⟨l1, r1, o1, hl1⟩ := row_rd w1 y1
  obtain ⟨x1, N1, F1, hx1⟩ := arg_num (b := b1) o1 hl1
  have Z := Zt.start w (r0.has.append r1.has)
  obtain ⟨tt, htt⟩ : ∃ b : Bool, b = true := ⟨true, rfl⟩
  obtain ⟨ff, hff⟩ : ∃ b : Bool, b = false := ⟨false, rfl⟩
  rcases (Classical.em (x1 = 0)) with h0 | h0
  · go_enter Try.func4, Try.ntmps4
    refine wp_seq ?_
    refine wp_region_list ?_
    refine seq_box Z rfl rfl rfl ?_; clear Z; intro g1 W Z
    (try simp only [Act.put, List.setIfInBounds_toArray, List.set_cons_zero, List.set_cons_succ])
    refine seq_box Z rfl rfl rfl ?_; clear Z; intro g2 W Z
    (try simp only [Act.put, List.setIfInBounds_toArray, List.set_cons_zero, List.set_cons_succ])
    refine seq_is (v := .bool (false)) rfl (run_assign rfl rfl) ?_
    (try simp only [Act.put, List.setIfInBounds_toArray, List.set_cons_zero, List.set_cons_succ])
    show Code.wp _ _ _ _ _
    refine wp_seq ?_
    refine wp_region_list ?_
    refine seq_is (v := .agg #[.bool (b0), .slice a0 len0 cap0]) rfl (run_load2 rfl rfl (Z.bx 1 rfl)) ?_
    (try simp only [Act.put, List.setIfInBounds_toArray, List.set_cons_zero, List.set_cons_succ])
    refine seq_is (v := .agg #[.bool (b1), .slice a1 len1 cap1]) rfl (run_load2 rfl rfl (Z.bx 0 rfl)) ?_
    (try simp only [Act.put, List.setIfInBounds_toArray, List.set_cons_zero, List.set_cons_succ])
    refine seq_call Z rfl rfl Try.func13 rfl rfl (args2 rfl rfl) (Z.callQi (rat_Make.sem0 (N0 _ _ (Z.rd 0 rfl)) (N1 _ _ (Z.rd 1 rfl)) h0)) ?_; clear Z; intro x3 W Z
    (try simp only [Act.put, List.setIfInBounds_toArray, List.set_cons_zero, List.set_cons_succ])
    refine seq_is (v := .tuple #[.agg #[.bool (decide (0 < 0)), x3.1.v, .bool (decide (0 < 0)), x3.2.v], .int .i64 (11)]) rfl (run_move rfl rfl) ?_
    (try simp only [Act.put, List.setIfInBounds_toArray, List.set_cons_zero, List.set_cons_succ])
    refine seq_is (v := .agg #[.bool (decide (0 < 0)), x3.1.v, .bool (decide (0 < 0)), x3.2.v]) rfl (run_extract rfl rfl rfl) ?_
    (try simp only [Act.put, List.setIfInBounds_toArray, List.set_cons_zero, List.set_cons_succ])
    refine seq_is (v := .int .i64 (11)) rfl (run_extract rfl rfl rfl) ?_
    (try simp only [Act.put, List.setIfInBounds_toArray, List.set_cons_zero, List.set_cons_succ])
    refine seq_alloc4 Z rfl rfl ?_; clear Z; intro g4 W Z
    (try simp only [Act.put, List.setIfInBounds_toArray, List.set_cons_zero, List.set_cons_succ])
    refine seq_store4 Z 0 rfl rfl rfl rfl rfl ?_; clear Z; intro W Z
    (try simp only [Act.put, List.setIfInBounds_toArray, List.set_cons_zero, List.set_cons_succ])
    refine seq_is (v := .int .i64 (11)) rfl (run_assign rfl rfl) ?_
    (try simp only [Act.put, List.setIfInBounds_toArray, List.set_cons_zero, List.set_cons_succ])
    show Code.wp _ _ _ _ _
    refine wp_seq ?_
    refine wp_seq ?_
    refine wp_region_list ?_
    refine seq_is (v := .agg #[.bool (b1), .slice a1 len1 cap1]) rfl (run_load2 rfl rfl (Z.bx 1 rfl)) ?_
    (try simp only [Act.put, List.setIfInBounds_toArray, List.set_cons_zero, List.set_cons_succ])
    refine seq_call Z rfl rfl Try.func14 rfl rfl (args1 rfl) (Z.callV (trammelref02_Sign.sem (N1 _ _ (Z.rd 3 rfl)) (Bd.fm (Bd.abs F1) (by decide)) )) ?_; clear Z; intro x5 W Z
    (try simp only [Act.put, List.setIfInBounds_toArray, List.set_cons_zero, List.set_cons_succ])
    refine seq_is (v := .bool (decide (((x1).sign) = (0)))) rfl (run_eql rfl rfl rfl) ?_
    (try simp only [Act.put, List.setIfInBounds_toArray, List.set_cons_zero, List.set_cons_succ])
    show Code.wp _ _ _ _ _
    refine wp_cond_true ((show _ = Value.bool (decide (((x1).sign) = (0))) from rfl).trans (congrArg Value.bool (sign0_t h0))) ?_
    refine wp_seq ?_
    refine wp_region_list ?_
    refine seq_is (v := .int .i64 (11)) rfl (run_move rfl rfl) ?_
    (try simp only [Act.put, List.setIfInBounds_toArray, List.set_cons_zero, List.set_cons_succ])
    refine seq_is (v := .bool (decide ((11 : Int) = (11)))) rfl (run_eqlE rfl rfl rfl) ?_
    (try simp only [Act.put, List.setIfInBounds_toArray, List.set_cons_zero, List.set_cons_succ])
    refine seq_is (v := .bool (decide ((11 : Int) = (11)))) rfl (run_move rfl rfl) ?_
    (try simp only [Act.put, List.setIfInBounds_toArray, List.set_cons_zero, List.set_cons_succ])
    refine list_want rfl rfl (congrArg some (congrArg Value.bool (Eq.refl true))) (wp_run (v := .agg #[.bool (decide (0 < 0)), x3.1.v, .bool (decide (0 < 0)), x3.2.v]) (run_load4 rfl rfl (Z.bx 0 rfl)) ?_)
    (try simp only [Act.put, List.setIfInBounds_toArray, List.set_cons_zero, List.set_cons_succ])
    refine list_want rfl rfl (congrArg some (congrArg Value.bool (Eq.refl true))) (wp_run (v := .agg #[.bool (false), .slice none 0 0, .bool (false), .slice none 0 0]) (run_buildR0 rfl) ?_)
    (try simp only [Act.put, List.setIfInBounds_toArray, List.set_cons_zero, List.set_cons_succ])
    refine seq_callw Z (fun h => list_want rfl rfl (congrArg some (congrArg Value.bool (Eq.refl true))) h) rfl Try.func15 rfl rfl (args2 rfl rfl) (Z.callV (sameQ (z1 := 0) (z2 := 0) (y1 := 0) (y2 := 0) (Z.rdO 0 rfl) (Z.rdO 1 rfl) (Rd_nil0 _) (Rd_nil0 _) (Bd.fm (Bd.abs (Bd.lit (k := 64) (z := 0) (by decide))) (by decide)) (Bd.fm (Bd.abs (Bd.lit (k := 64) (z := 0) (by decide))) (by decide)) rfl rfl)) ?_; clear Z; intro x6 W Z
    (try simp only [Act.put, List.setIfInBounds_toArray, List.set_cons_zero, List.set_cons_succ])
    refine seq_is (v := .bool (tt)) rfl (run_castR (run_pickT rfl rfl rfl) htt.symm) ?_
    (try simp only [Act.put, List.setIfInBounds_toArray, List.set_cons_zero, List.set_cons_succ])
    refine seq_is (v := .bool (tt)) rfl (run_move rfl rfl) ?_
    (try simp only [Act.put, List.setIfInBounds_toArray, List.set_cons_zero, List.set_cons_succ])
    refine seq_callw Z (fun h => list_want rfl rfl (congrArg some (congrArg Value.bool htt)) h) rfl Try.func16 rfl rfl (show Array.map _ #[] = #[] by simp) (Z.callV (trammellaw03_awake.sem _)) ?_; clear Z; intro x7 W Z
    (try simp only [Act.put, List.setIfInBounds_toArray, List.set_cons_zero, List.set_cons_succ])
    refine seq_is (v := .bool (tt)) rfl (run_castR (run_pickT rfl ((show _ = Value.bool (tt) from rfl).trans (congrArg Value.bool htt)) rfl) htt.symm) ?_
    (try simp only [Act.put, List.setIfInBounds_toArray, List.set_cons_zero, List.set_cons_succ])
    refine seq_is (v := .bool (tt)) rfl (run_assign rfl rfl) ?_
    (try simp only [Act.put, List.setIfInBounds_toArray, List.set_cons_zero, List.set_cons_succ])
    show Code.wp _ _ _ _ _
    refine wp_ret ?_
    exact Z.endsV rfl rfl rfl (by first | rfl | exact (congrArg Value.bool htt) | simp)
  · go_enter Try.func4, Try.ntmps4
    refine wp_seq ?_
    refine wp_region_list ?_
    refine seq_box Z rfl rfl rfl ?_; clear Z; intro g1 W Z
    (try simp only [Act.put, List.setIfInBounds_toArray, List.set_cons_zero, List.set_cons_succ])
    refine seq_box Z rfl rfl rfl ?_; clear Z; intro g2 W Z
    (try simp only [Act.put, List.setIfInBounds_toArray, List.set_cons_zero, List.set_cons_succ])
    refine seq_is (v := .bool (false)) rfl (run_assign rfl rfl) ?_
    (try simp only [Act.put, List.setIfInBounds_toArray, List.set_cons_zero, List.set_cons_succ])
    show Code.wp _ _ _ _ _
    refine wp_seq ?_
    refine wp_region_list ?_
    refine seq_is (v := .agg #[.bool (b0), .slice a0 len0 cap0]) rfl (run_load2 rfl rfl (Z.bx 1 rfl)) ?_
    (try simp only [Act.put, List.setIfInBounds_toArray, List.set_cons_zero, List.set_cons_succ])
    refine seq_is (v := .agg #[.bool (b1), .slice a1 len1 cap1]) rfl (run_load2 rfl rfl (Z.bx 0 rfl)) ?_
    (try simp only [Act.put, List.setIfInBounds_toArray, List.set_cons_zero, List.set_cons_succ])
    refine seq_call Z rfl rfl Try.func13 rfl rfl (args2 rfl rfl) (Z.callQi (rat_Make.semq (N0 _ _ (Z.rd 0 rfl)) (N1 _ _ (Z.rd 1 rfl)) (Bd.mono F0 (by decide)) (Bd.mono F1 (by decide)) h0)) ?_; clear Z; intro x3 W Z
    (try simp only [Act.put, List.setIfInBounds_toArray, List.set_cons_zero, List.set_cons_succ])
    refine seq_is (v := .tuple #[.agg #[.bool (decide (qn (x0) (x1) < 0)), x3.1.v, .bool (decide (qd (x0) (x1) < 0)), x3.2.v], .int .i64 (0)]) rfl (run_move rfl rfl) ?_
    (try simp only [Act.put, List.setIfInBounds_toArray, List.set_cons_zero, List.set_cons_succ])
    refine seq_is (v := .agg #[.bool (decide (qn (x0) (x1) < 0)), x3.1.v, .bool (decide (qd (x0) (x1) < 0)), x3.2.v]) rfl (run_extract rfl rfl rfl) ?_
    (try simp only [Act.put, List.setIfInBounds_toArray, List.set_cons_zero, List.set_cons_succ])
    refine seq_is (v := .int .i64 (0)) rfl (run_extract rfl rfl rfl) ?_
    (try simp only [Act.put, List.setIfInBounds_toArray, List.set_cons_zero, List.set_cons_succ])
    refine seq_alloc4 Z rfl rfl ?_; clear Z; intro g4 W Z
    (try simp only [Act.put, List.setIfInBounds_toArray, List.set_cons_zero, List.set_cons_succ])
    refine seq_store4 Z 0 rfl rfl rfl rfl rfl ?_; clear Z; intro W Z
    (try simp only [Act.put, List.setIfInBounds_toArray, List.set_cons_zero, List.set_cons_succ])
    refine seq_is (v := .int .i64 (0)) rfl (run_assign rfl rfl) ?_
    (try simp only [Act.put, List.setIfInBounds_toArray, List.set_cons_zero, List.set_cons_succ])
    show Code.wp _ _ _ _ _
    refine wp_seq ?_
    refine wp_seq ?_
    refine wp_region_list ?_
    refine seq_is (v := .agg #[.bool (b1), .slice a1 len1 cap1]) rfl (run_load2 rfl rfl (Z.bx 1 rfl)) ?_
    (try simp only [Act.put, List.setIfInBounds_toArray, List.set_cons_zero, List.set_cons_succ])
    refine seq_call Z rfl rfl Try.func14 rfl rfl (args1 rfl) (Z.callV (trammelref02_Sign.sem (N1 _ _ (Z.rd 3 rfl)) (Bd.fm (Bd.abs F1) (by decide)) )) ?_; clear Z; intro x5 W Z
    (try simp only [Act.put, List.setIfInBounds_toArray, List.set_cons_zero, List.set_cons_succ])
    refine seq_is (v := .bool (decide (((x1).sign) = (0)))) rfl (run_eql rfl rfl rfl) ?_
    (try simp only [Act.put, List.setIfInBounds_toArray, List.set_cons_zero, List.set_cons_succ])
    show Code.wp _ _ _ _ _
    refine wp_cond_false ((show _ = Value.bool (decide (((x1).sign) = (0))) from rfl).trans (congrArg Value.bool (sign0_f h0))) ?_
    refine wp_skip ?_
    show Code.wp _ _ _ _ _
    refine wp_seq ?_
    refine wp_dag (pre := [_, _, _, _, _, _, _, _, _, _, _, _, _, _, _, _, _, _, _, _]) (sps := [.is (.int .i64 (0)), .is (.bool (decide ((0 : Int) = (0)))), .is (.bool (decide ((0 : Int) = (0)))), .is (.agg #[.bool (decide (qn (x0) (x1) < 0)), x3.1.v, .bool (decide (qd (x0) (x1) < 0)), x3.2.v]), .is (.agg #[.bool (b0), .slice a0 len0 cap0]), .is (.agg #[.bool (b1), .slice a1 len1 cap1]), spQ w (qn (x0) (x1)) (qd (x0) (x1)), .is (.bool (true)), .is (.bool (tt)), .is (.bool (tt)), .is (.agg #[.bool (b0), .slice a0 len0 cap0]), spQ w ((x0)) (1), .is (.agg #[.bool (b0), .slice a0 len0 cap0]), spQ w ((x0)) (1), .is (.bool (true)), .is (.bool (tt)), .is (.bool (tt)), .is (.bool (true)), .is (.bool (tt)), .is (.bool (tt))]) Z (by kernel_rfl) _ rfl (by kernel_rfl) (by kernel_rfl) rfl ⟨?_, ?_, ?_, ?_, ?_, ?_, ?_, ?_, ?_, ?_, ?_, ?_, ?_, ?_, ?_, ?_, ?_, ?_, ?_, ?_, trivial⟩ ?_
    · intro a e6 W Q Z; exact step_is (fun _ h => op_plain rfl rfl h) (run_move rfl (ev e6))
    · intro a x8 e9 W Q Z; exact step_is (fun _ h => op_plain rfl rfl h) (run_eqlE rfl (ev e9) rfl)
    · intro a x11 e12 W Q Z; exact step_is (fun _ h => op_plain rfl rfl h) (run_move rfl (ev e12))
    · intro a x14 e15 e16 W Q Z; exact step_is (fun _ h => op_want rfl rfl rfl e15 h) (run_load4 rfl (ev e16) (Z.bx 0 rfl))
    · intro a x18 e19 e20 W Q Z; exact step_is (fun _ h => op_want rfl rfl rfl e19 h) (run_load2 rfl (ev e20) (Z.bx 2 rfl))
    · intro a x22 e23 e24 W Q Z; exact step_is (fun _ h => op_want rfl rfl rfl e23 h) (run_load2 rfl (ev e24) (Z.bx 1 rfl))
    · intro a x26 e27 x28 e29 x30 e31 W Q Z; exact step_call (fun _ h => op_want rfl rfl rfl e27 h) rfl Try.func17 rfl rfl (args2 (ev e29) (ev e31)) (Z.callQ (trammelref03_Make.semq (N0 _ _ (Z.rd 2 rfl)) (N1 _ _ (Z.rd 3 rfl)) (Bd.mono F0 (by decide)) (Bd.mono F1 (by decide)) h0))
    · intro a x33 e34 x35 e36 x37 e38 W Q Z; exact step_call (fun _ h => op_want rfl rfl rfl e34 h) rfl Try.func15 rfl rfl (args2 (ev e36) (ev e38)) (Z.callV (sameQ (z1 := qn (x0) (x1)) (z2 := qn (x0) (x1)) (y1 := qd (x0) (x1)) (y2 := qd (x0) (x1)) (Z.rdO 2 rfl) (Z.rdO 3 rfl) (Z.rdO 0 rfl) (Z.rdO 1 rfl) (Bd.fm (Bd.abs (Bd.qn F0)) (by decide)) (Bd.fm (Bd.abs (Bd.qd F1)) (by decide)) rfl rfl))
    · intro a x40 e41 x42 e43 W Q Z; exact step_is (fun _ h => op_plain rfl rfl h) (run_castR (run_pickT rfl (ev e41) (ev e43)) htt.symm)
    · intro a x45 e46 W Q Z; exact step_is (fun _ h => op_plain rfl rfl h) (run_move rfl (ev e46))
    · intro a x48 e49 e50 W Q Z; exact step_is (fun _ h => op_want rfl rfl rfl (e49.trans (congrArg some (congrArg Value.bool htt))) h) (run_load2 rfl (ev e50) (Z.bx 2 rfl))
    · intro a x52 e53 x54 e55 W Q Z; exact step_call (fun _ h => op_want rfl rfl rfl (e53.trans (congrArg some (congrArg Value.bool htt))) h) rfl Try.func18 rfl rfl (args1 (ev e55)) (Z.callQ (rat_Of.sem (N0 _ _ (Z.rd 2 rfl)) ))
    · intro a x57 e58 e59 W Q Z; exact step_is (fun _ h => op_want rfl rfl rfl (e58.trans (congrArg some (congrArg Value.bool htt))) h) (run_load2 rfl (ev e59) (Z.bx 2 rfl))
    · intro a x61 e62 x63 e64 W Q Z; exact step_call (fun _ h => op_want rfl rfl rfl (e62.trans (congrArg some (congrArg Value.bool htt))) h) rfl Try.func19 rfl rfl (args1 (ev e64)) (Z.callQ (trammelref03_Of.sem (N0 _ _ (Z.rd 2 rfl)) ))
    · intro a x66 e67 x68 e69 x70 e71 W Q Z; exact step_call (fun _ h => op_want rfl rfl rfl (e67.trans (congrArg some (congrArg Value.bool htt))) h) rfl Try.func15 rfl rfl (args2 (ev e69) (ev e71)) (Z.callV (sameQ (z1 := (x0)) (z2 := (x0)) (y1 := 1) (y2 := 1) (Z.rdO 2 rfl) (Z.rdO 3 rfl) (Z.rdO 0 rfl) (Z.rdO 1 rfl) (Bd.fm (Bd.abs F0) (by decide)) (Bd.fm (Bd.abs (Bd.lit (k := 64) (z := 1) (by decide))) (by decide)) rfl rfl))
    · intro a x73 e74 x75 e76 W Q Z; exact step_is (fun _ h => op_plain rfl rfl h) (run_castR (run_pickT rfl ((show _ = Value.bool (tt) from (ev e74)).trans (congrArg Value.bool htt)) (ev e76)) htt.symm)
    · intro a x78 e79 W Q Z; exact step_is (fun _ h => op_plain rfl rfl h) (run_move rfl (ev e79))
    · intro a x81 e82 W Q Z; exact step_call (fun _ h => op_want rfl rfl rfl (e82.trans (congrArg some (congrArg Value.bool htt))) h) rfl Try.func16 rfl rfl (show Array.map _ #[] = #[] by simp) (Z.callV (trammellaw03_awake.sem _))
    · intro a x84 e85 x86 e87 W Q Z; exact step_is (fun _ h => op_plain rfl rfl h) (run_castR (run_pickT rfl ((show _ = Value.bool (tt) from (ev e85)).trans (congrArg Value.bool htt)) (ev e87)) htt.symm)
    · intro a x89 e90 W Q Z; exact step_is (fun _ h => op_plain rfl rfl h) (run_assign rfl (ev e90))
    clear Z; intro x7 x10 x13 x17 x21 x25 x32 x39 x44 x47 x51 x56 x60 x65 x72 x77 x80 x83 x88 x91 W Z
    (try simp only [Act.put, List.setIfInBounds_toArray, List.set_cons_zero, List.set_cons_succ])
    show Code.wp _ _ _ _ _
    refine wp_ret ?_
    exact Z.endsV rfl rfl rfl (by first | rfl | exact (congrArg Value.bool htt) | simp)

end Go.Proofs.Ytndopanohhdfgaa.PA

