/- The walk of the law RatSums: what its code answers for arguments of a bulk of at most 1048576. -/
import Derived.Outline
import Derived.Test.YtndopanohhdfgaaZYK
import Derived.Test.YtndopanohhdfgaaZDK
import Derived.Test.YtndopanohhdfgaaPAx0K
namespace Go.Proofs.Ytndopanohhdfgaa.PA
open Go Go.Proofs.Ytndopanohhdfgaa.Nums Go.RowKit Go.Proofs.YtndopanohhdfgaaW.PrintWords Go.Proofs.YtndopanohhdfgaaW.PrintLast Go.Proofs.YtndopanohhdfgaaW.PrintMore
set_option linter.unusedVariables false
set_option linter.unusedSimpArgs false
set_option maxHeartbeats 8000000 in
set_option maxRecDepth 100000 in
theorem trammellaw03_RatSums.walk (b0n : Bool) (a0n : Option Addr) (len0n cap0n : Nat) (q0n : List Int) (b0d : Bool) (a0d : Option Addr) (len0d cap0d : Nat) (q0d : List Int) (b1n : Bool) (a1n : Option Addr) (len1n cap1n : Nat) (q1n : List Int) (b1d : Bool) (a1d : Option Addr) (len1d cap1d : Nat) (q1d : List Int) (w : World) (w0n : bulks.IsRow .u32 w a0n len0n cap0n q0n) (y0n : len0n ≤ 1048576) (w0d : bulks.IsRow .u32 w a0d len0d cap0d q0d) (y0d : len0d ≤ 1048576) (w1n : bulks.IsRow .u32 w a1n len1n cap1n q1n) (y1n : len1n ≤ 1048576) (w1d : bulks.IsRow .u32 w a1d len1d cap1d q1d) (y1d : len1d ≤ 1048576) : Calls Try.prog 6 #[.agg #[.bool b0n, .slice a0n len0n cap0n, .bool b0d, .slice a0d len0d cap0d], .agg #[.bool b1n, .slice a1n len1n cap1n, .bool b1d, .slice a1d len1d cap1d]] w (RetV w (.bool true)) := by
  obtain ⟨l0n, r0n, o0n, hl0n⟩ := row_rd w0n y0n
  obtain ⟨x0n, N0n, F0n, hx0n⟩ := arg_num (b := b0n) o0n hl0n
  obtain ⟨l0d, r0d, o0d, hl0d⟩ := row_rd w0d y0d
  obtain ⟨x0d, N0d, F0d, hx0d⟩ := arg_num (b := b0d) o0d hl0d
  obtain ⟨l1n, r1n, o1n, hl1n⟩ := row_rd w1n y1n
  obtain ⟨x1n, N1n, F1n, hx1n⟩ := arg_num (b := b1n) o1n hl1n
  obtain ⟨l1d, r1d, o1d, hl1d⟩ := row_rd w1d y1d
  obtain ⟨x1d, N1d, F1d, hx1d⟩ := arg_num (b := b1d) o1d hl1d
  have Z := Zt.start w (r0n.has.append (r0d.has.append (r1n.has.append r1d.has)))
  obtain ⟨tt, htt⟩ : ∃ b : Bool, b = true := ⟨true, rfl⟩
  obtain ⟨ff, hff⟩ : ∃ b : Bool, b = false := ⟨false, rfl⟩
  rcases (Classical.em (0 < x0d ∧ 0 < x1d)) with H | H
  · go_enter Try.func6, Try.ntmps6
    refine wp_seq ?_
    refine wp_region_list ?_
    refine seq_box4 Z rfl rfl rfl ?_; clear Z; intro g1 W Z
    (try simp only [Act.put, List.setIfInBounds_toArray, List.set_cons_zero, List.set_cons_succ])
    refine seq_box4 Z rfl rfl rfl ?_; clear Z; intro g2 W Z
    (try simp only [Act.put, List.setIfInBounds_toArray, List.set_cons_zero, List.set_cons_succ])
    refine seq_is (v := .bool (false)) rfl (run_assign rfl rfl) ?_
    (try simp only [Act.put, List.setIfInBounds_toArray, List.set_cons_zero, List.set_cons_succ])
    show Code.wp _ _ _ _ _
    refine wp_seq ?_
    refine wp_region_list ?_
    refine seq_is (v := .agg #[.bool (b0n), .slice a0n len0n cap0n, .bool (b0d), .slice a0d len0d cap0d]) rfl (run_load4 rfl rfl (Z.bx 1 rfl)) ?_
    (try simp only [Act.put, List.setIfInBounds_toArray, List.set_cons_zero, List.set_cons_succ])
    refine seq_is (v := .agg #[.bool (b1n), .slice a1n len1n cap1n, .bool (b1d), .slice a1d len1d cap1d]) rfl (run_load4 rfl rfl (Z.bx 0 rfl)) ?_
    (try simp only [Act.put, List.setIfInBounds_toArray, List.set_cons_zero, List.set_cons_succ])
    refine seq_call Z rfl rfl Try.func23 rfl rfl (args2 rfl rfl) (Z.callQi (rat_Add.sem (N0n _ _ (Z.rd 0 rfl)) (N0d _ _ (Z.rd 1 rfl)) (N1n _ _ (Z.rd 2 rfl)) (N1d _ _ (Z.rd 3 rfl)) (Bd.mono F0n (by decide)) (Bd.mono F0d (by decide)) (Bd.mono F1n (by decide)) (Bd.mono F1d (by decide)) H.1 H.2)) ?_; clear Z; intro x3 W Z
    (try simp only [Act.put, List.setIfInBounds_toArray, List.set_cons_zero, List.set_cons_succ])
    refine seq_is (v := .tuple #[.agg #[.bool (decide (qn (((x0n) * (x1d)) + ((x1n) * (x0d))) ((x0d) * (x1d)) < 0)), x3.1.v, .bool (decide (qd (((x0n) * (x1d)) + ((x1n) * (x0d))) ((x0d) * (x1d)) < 0)), x3.2.v], .int .i64 (0)]) rfl (run_move rfl rfl) ?_
    (try simp only [Act.put, List.setIfInBounds_toArray, List.set_cons_zero, List.set_cons_succ])
    refine seq_is (v := .agg #[.bool (decide (qn (((x0n) * (x1d)) + ((x1n) * (x0d))) ((x0d) * (x1d)) < 0)), x3.1.v, .bool (decide (qd (((x0n) * (x1d)) + ((x1n) * (x0d))) ((x0d) * (x1d)) < 0)), x3.2.v]) rfl (run_extract rfl rfl rfl) ?_
    (try simp only [Act.put, List.setIfInBounds_toArray, List.set_cons_zero, List.set_cons_succ])
    refine seq_is (v := .int .i64 (0)) rfl (run_extract rfl rfl rfl) ?_
    (try simp only [Act.put, List.setIfInBounds_toArray, List.set_cons_zero, List.set_cons_succ])
    refine seq_alloc4 Z rfl rfl ?_; clear Z; intro g4 W Z
    (try simp only [Act.put, List.setIfInBounds_toArray, List.set_cons_zero, List.set_cons_succ])
    refine seq_store4 Z 0 rfl rfl rfl rfl rfl ?_; clear Z; intro W Z
    (try simp only [Act.put, List.setIfInBounds_toArray, List.set_cons_zero, List.set_cons_succ])
    refine seq_is (v := .int .i64 (0)) rfl (run_assign rfl rfl) ?_
    (try simp only [Act.put, List.setIfInBounds_toArray, List.set_cons_zero, List.set_cons_succ])
    show Code.wp _ _ _ _ _
    refine wp_seq ?_
    refine wp_region_list ?_
    refine seq_is (v := .agg #[.bool (b0n), .slice a0n len0n cap0n, .bool (b0d), .slice a0d len0d cap0d]) rfl (run_load4 rfl rfl (Z.bx 2 rfl)) ?_
    (try simp only [Act.put, List.setIfInBounds_toArray, List.set_cons_zero, List.set_cons_succ])
    refine seq_is (v := .agg #[.bool (b1n), .slice a1n len1n cap1n, .bool (b1d), .slice a1d len1d cap1d]) rfl (run_load4 rfl rfl (Z.bx 1 rfl)) ?_
    (try simp only [Act.put, List.setIfInBounds_toArray, List.set_cons_zero, List.set_cons_succ])
    refine seq_call Z rfl rfl Try.func24 rfl rfl (args2 rfl rfl) (Z.callQi (rat_Sub.sem (N0n _ _ (Z.rd 2 rfl)) (N0d _ _ (Z.rd 3 rfl)) (N1n _ _ (Z.rd 4 rfl)) (N1d _ _ (Z.rd 5 rfl)) (Bd.mono F0n (by decide)) (Bd.mono F0d (by decide)) (Bd.mono F1n (by decide)) (Bd.mono F1d (by decide)) H.1 H.2)) ?_; clear Z; intro x5 W Z
    (try simp only [Act.put, List.setIfInBounds_toArray, List.set_cons_zero, List.set_cons_succ])
    refine seq_is (v := .tuple #[.agg #[.bool (decide (qn (((x0n) * (x1d)) - ((x1n) * (x0d))) ((x0d) * (x1d)) < 0)), x5.1.v, .bool (decide (qd (((x0n) * (x1d)) - ((x1n) * (x0d))) ((x0d) * (x1d)) < 0)), x5.2.v], .int .i64 (0)]) rfl (run_move rfl rfl) ?_
    (try simp only [Act.put, List.setIfInBounds_toArray, List.set_cons_zero, List.set_cons_succ])
    refine seq_is (v := .agg #[.bool (decide (qn (((x0n) * (x1d)) - ((x1n) * (x0d))) ((x0d) * (x1d)) < 0)), x5.1.v, .bool (decide (qd (((x0n) * (x1d)) - ((x1n) * (x0d))) ((x0d) * (x1d)) < 0)), x5.2.v]) rfl (run_extract rfl rfl rfl) ?_
    (try simp only [Act.put, List.setIfInBounds_toArray, List.set_cons_zero, List.set_cons_succ])
    refine seq_is (v := .int .i64 (0)) rfl (run_extract rfl rfl rfl) ?_
    (try simp only [Act.put, List.setIfInBounds_toArray, List.set_cons_zero, List.set_cons_succ])
    refine seq_alloc4 Z rfl rfl ?_; clear Z; intro g6 W Z
    (try simp only [Act.put, List.setIfInBounds_toArray, List.set_cons_zero, List.set_cons_succ])
    refine seq_store4 Z 0 rfl rfl rfl rfl rfl ?_; clear Z; intro W Z
    (try simp only [Act.put, List.setIfInBounds_toArray, List.set_cons_zero, List.set_cons_succ])
    refine seq_is (v := .int .i64 (0)) rfl (run_assign rfl rfl) ?_
    (try simp only [Act.put, List.setIfInBounds_toArray, List.set_cons_zero, List.set_cons_succ])
    show Code.wp _ _ _ _ _
    refine wp_seq ?_
    refine wp_seq ?_
    refine wp_region_list ?_
    refine seq_is (v := .agg #[.bool (b0n), .slice a0n len0n cap0n, .bool (b0d), .slice a0d len0d cap0d]) rfl (run_load4 rfl rfl (Z.bx 3 rfl)) ?_
    (try simp only [Act.put, List.setIfInBounds_toArray, List.set_cons_zero, List.set_cons_succ])
    refine seq_is (v := .agg #[.bool (b1n), .slice a1n len1n cap1n, .bool (b1d), .slice a1d len1d cap1d]) rfl (run_load4 rfl rfl (Z.bx 2 rfl)) ?_
    (try simp only [Act.put, List.setIfInBounds_toArray, List.set_cons_zero, List.set_cons_succ])
    refine seq_call Z rfl rfl Try.func21 rfl rfl (args2 rfl rfl) (Z.callV (trammellaw03_both.sem (N0n _ _ (Z.rd 4 rfl)) (N0d _ _ (Z.rd 5 rfl)) (N1n _ _ (Z.rd 6 rfl)) (N1d _ _ (Z.rd 7 rfl)) (Bd.mono F0d (by decide)) (Bd.mono F1d (by decide)))) ?_; clear Z; intro x7 W Z
    (try simp only [Act.put, List.setIfInBounds_toArray, List.set_cons_zero, List.set_cons_succ])
    refine seq_is (v := .bool (!(okB2 (x0d) (x1d)))) rfl (run_not rfl rfl) ?_
    (try simp only [Act.put, List.setIfInBounds_toArray, List.set_cons_zero, List.set_cons_succ])
    show Code.wp _ _ _ _ _
    refine wp_cond_false ((show _ = Value.bool (!(okB2 (x0d) (x1d))) from rfl).trans (congrArg Value.bool (congrArg Bool.not (okB2_t H)))) ?_
    refine wp_skip ?_
    show Code.wp _ _ _ _ _
    refine wp_seq ?_
    refine wp_dag (pre := [_, _, _, _, _, _, _, _, _, _, _, _, _, _, _, _, _, _, _, _, _, _, _, _]) (sps := [.is (.int .i64 (0)), .is (.bool (decide ((0 : Int) = (0)))), .is (.bool (decide ((0 : Int) = (0)))), .is (.int .i64 (0)), .is (.bool (decide ((0 : Int) = (0)))), .is (.bool (decide ((0 : Int) = (0)))), .is (.bool (decide ((0 : Int) = (0)))), .is (.agg #[.bool (decide (qn (((x0n) * (x1d)) + ((x1n) * (x0d))) ((x0d) * (x1d)) < 0)), x3.1.v, .bool (decide (qd (((x0n) * (x1d)) + ((x1n) * (x0d))) ((x0d) * (x1d)) < 0)), x3.2.v]), .is (.agg #[.bool (b0n), .slice a0n len0n cap0n, .bool (b0d), .slice a0d len0d cap0d]), .is (.agg #[.bool (b1n), .slice a1n len1n cap1n, .bool (b1d), .slice a1d len1d cap1d]), spQ w (qn (((x0n) * (x1d)) + ((x1n) * (x0d))) ((x0d) * (x1d))) (qd (((x0n) * (x1d)) + ((x1n) * (x0d))) ((x0d) * (x1d))), .is (.bool (true)), .is (.bool (tt)), .is (.bool (tt)), .is (.agg #[.bool (decide (qn (((x0n) * (x1d)) - ((x1n) * (x0d))) ((x0d) * (x1d)) < 0)), x5.1.v, .bool (decide (qd (((x0n) * (x1d)) - ((x1n) * (x0d))) ((x0d) * (x1d)) < 0)), x5.2.v]), .is (.agg #[.bool (b0n), .slice a0n len0n cap0n, .bool (b0d), .slice a0d len0d cap0d]), .is (.agg #[.bool (b1n), .slice a1n len1n cap1n, .bool (b1d), .slice a1d len1d cap1d]), spQ w (qn (((x0n) * (x1d)) - ((x1n) * (x0d))) ((x0d) * (x1d))) (qd (((x0n) * (x1d)) - ((x1n) * (x0d))) ((x0d) * (x1d))), .is (.bool (true)), .is (.bool (tt)), .is (.bool (tt)), .is (.bool (true)), .is (.bool (tt)), .is (.bool (tt))]) Z (by kernel_rfl) _ rfl (by kernel_rfl) (by kernel_rfl) rfl ⟨?_, ?_, ?_, ?_, ?_, ?_, ?_, ?_, ?_, ?_, ?_, ?_, ?_, ?_, ?_, ?_, ?_, ?_, ?_, ?_, ?_, ?_, ?_, ?_, trivial⟩ ?_
    · intro a e8 W Q Z; exact step_is (fun _ h => op_plain rfl rfl h) (run_move rfl (ev e8))
    · intro a x10 e11 W Q Z; exact step_is (fun _ h => op_plain rfl rfl h) (run_eqlE rfl (ev e11) rfl)
    · intro a x13 e14 W Q Z; exact step_is (fun _ h => op_plain rfl rfl h) (run_move rfl (ev e14))
    · intro a x16 e17 e18 W Q Z; exact step_is (fun _ h => op_want rfl rfl rfl e17 h) (run_move rfl (ev e18))
    · intro a x20 e21 x22 e23 W Q Z; exact step_is (fun _ h => op_want rfl rfl rfl e21 h) (run_eqlE rfl (ev e23) rfl)
    · intro a x25 e26 x27 e28 W Q Z; exact step_is (fun _ h => op_plain rfl rfl h) (run_pickT rfl (ev e26) (ev e28))
    · intro a x30 e31 W Q Z; exact step_is (fun _ h => op_plain rfl rfl h) (run_move rfl (ev e31))
    · intro a x33 e34 e35 W Q Z; exact step_is (fun _ h => op_want rfl rfl rfl e34 h) (run_load4 rfl (ev e35) (Z.bx 1 rfl))
    · intro a x37 e38 e39 W Q Z; exact step_is (fun _ h => op_want rfl rfl rfl e38 h) (run_load4 rfl (ev e39) (Z.bx 3 rfl))
    · intro a x41 e42 e43 W Q Z; exact step_is (fun _ h => op_want rfl rfl rfl e42 h) (run_load4 rfl (ev e43) (Z.bx 2 rfl))
    · intro a x45 e46 x47 e48 x49 e50 W Q Z; exact step_call (fun _ h => op_want rfl rfl rfl e46 h) rfl Try.func25 rfl rfl (args2 (ev e48) (ev e50)) (Z.callQ (trammelref03_Add.sem (N0n _ _ (Z.rd 4 rfl)) (N0d _ _ (Z.rd 5 rfl)) (N1n _ _ (Z.rd 6 rfl)) (N1d _ _ (Z.rd 7 rfl)) (Bd.mono F0n (by decide)) (Bd.mono F0d (by decide)) (Bd.mono F1n (by decide)) (Bd.mono F1d (by decide)) (pos_ne H.1) (pos_ne H.2)))
    · intro a x52 e53 x54 e55 x56 e57 W Q Z; exact step_call (fun _ h => op_want rfl rfl rfl e53 h) rfl Try.func15 rfl rfl (args2 (ev e55) (ev e57)) (Z.callV (sameQ (z1 := qn (((x0n) * (x1d)) + ((x1n) * (x0d))) ((x0d) * (x1d))) (z2 := qn (((x0n) * (x1d)) + ((x1n) * (x0d))) ((x0d) * (x1d))) (y1 := qd (((x0n) * (x1d)) + ((x1n) * (x0d))) ((x0d) * (x1d))) (y2 := qd (((x0n) * (x1d)) + ((x1n) * (x0d))) ((x0d) * (x1d))) (Z.rdO 4 rfl) (Z.rdO 5 rfl) (Z.rdO 0 rfl) (Z.rdO 1 rfl) (Bd.fm (Bd.abs (Bd.qn (Bd.add (Bd.mul F0n F1d) (Bd.mul F1n F0d)))) (by decide)) (Bd.fm (Bd.abs (Bd.qd (Bd.mul F0d F1d))) (by decide)) rfl rfl))
    · intro a x59 e60 x61 e62 W Q Z; exact step_is (fun _ h => op_plain rfl rfl h) (run_castR (run_pickT rfl (ev e60) (ev e62)) htt.symm)
    · intro a x64 e65 W Q Z; exact step_is (fun _ h => op_plain rfl rfl h) (run_move rfl (ev e65))
    · intro a x67 e68 e69 W Q Z; exact step_is (fun _ h => op_want rfl rfl rfl (e68.trans (congrArg some (congrArg Value.bool htt))) h) (run_load4 rfl (ev e69) (Z.bx 0 rfl))
    · intro a x71 e72 e73 W Q Z; exact step_is (fun _ h => op_want rfl rfl rfl (e72.trans (congrArg some (congrArg Value.bool htt))) h) (run_load4 rfl (ev e73) (Z.bx 3 rfl))
    · intro a x75 e76 e77 W Q Z; exact step_is (fun _ h => op_want rfl rfl rfl (e76.trans (congrArg some (congrArg Value.bool htt))) h) (run_load4 rfl (ev e77) (Z.bx 2 rfl))
    · intro a x79 e80 x81 e82 x83 e84 W Q Z; exact step_call (fun _ h => op_want rfl rfl rfl (e80.trans (congrArg some (congrArg Value.bool htt))) h) rfl Try.func26 rfl rfl (args2 (ev e82) (ev e84)) (Z.callQ (trammelref03_Sub.sem (N0n _ _ (Z.rd 4 rfl)) (N0d _ _ (Z.rd 5 rfl)) (N1n _ _ (Z.rd 6 rfl)) (N1d _ _ (Z.rd 7 rfl)) (Bd.mono F0n (by decide)) (Bd.mono F0d (by decide)) (Bd.mono F1n (by decide)) (Bd.mono F1d (by decide)) (pos_ne H.1) (pos_ne H.2)))
    · intro a x86 e87 x88 e89 x90 e91 W Q Z; exact step_call (fun _ h => op_want rfl rfl rfl (e87.trans (congrArg some (congrArg Value.bool htt))) h) rfl Try.func15 rfl rfl (args2 (ev e89) (ev e91)) (Z.callV (sameQ (z1 := qn (((x0n) * (x1d)) - ((x1n) * (x0d))) ((x0d) * (x1d))) (z2 := qn (((x0n) * (x1d)) - ((x1n) * (x0d))) ((x0d) * (x1d))) (y1 := qd (((x0n) * (x1d)) - ((x1n) * (x0d))) ((x0d) * (x1d))) (y2 := qd (((x0n) * (x1d)) - ((x1n) * (x0d))) ((x0d) * (x1d))) (Z.rdO 2 rfl) (Z.rdO 3 rfl) (Z.rdO 0 rfl) (Z.rdO 1 rfl) (Bd.fm (Bd.abs (Bd.qn (Bd.sub (Bd.mul F0n F1d) (Bd.mul F1n F0d)))) (by decide)) (Bd.fm (Bd.abs (Bd.qd (Bd.mul F0d F1d))) (by decide)) rfl rfl))
    · intro a x93 e94 x95 e96 W Q Z; exact step_is (fun _ h => op_plain rfl rfl h) (run_castR (run_pickT rfl ((show _ = Value.bool (tt) from (ev e94)).trans (congrArg Value.bool htt)) (ev e96)) htt.symm)
    · intro a x98 e99 W Q Z; exact step_is (fun _ h => op_plain rfl rfl h) (run_move rfl (ev e99))
    · intro a x101 e102 W Q Z; exact step_call (fun _ h => op_want rfl rfl rfl (e102.trans (congrArg some (congrArg Value.bool htt))) h) rfl Try.func16 rfl rfl (show Array.map _ #[] = #[] by simp) (Z.callV (trammellaw03_awake.sem _))
    · intro a x104 e105 x106 e107 W Q Z; exact step_is (fun _ h => op_plain rfl rfl h) (run_castR (run_pickT rfl ((show _ = Value.bool (tt) from (ev e105)).trans (congrArg Value.bool htt)) (ev e107)) htt.symm)
    · intro a x109 e110 W Q Z; exact step_is (fun _ h => op_plain rfl rfl h) (run_assign rfl (ev e110))
    clear Z; intro x9 x12 x15 x19 x24 x29 x32 x36 x40 x44 x51 x58 x63 x66 x70 x74 x78 x85 x92 x97 x100 x103 x108 x111 W Z
    (try simp only [Act.put, List.setIfInBounds_toArray, List.set_cons_zero, List.set_cons_succ])
    show Code.wp _ _ _ _ _
    refine wp_ret ?_
    exact Z.endsV rfl rfl rfl (by first | rfl | exact (congrArg Value.bool htt) | simp)
  · go_enter Try.func6, Try.ntmps6
    refine wp_seq ?_
    refine wp_region_list ?_
    refine seq_box4 Z rfl rfl rfl ?_; clear Z; intro g1 W Z
    (try simp only [Act.put, List.setIfInBounds_toArray, List.set_cons_zero, List.set_cons_succ])
    refine seq_box4 Z rfl rfl rfl ?_; clear Z; intro g2 W Z
    (try simp only [Act.put, List.setIfInBounds_toArray, List.set_cons_zero, List.set_cons_succ])
    refine seq_is (v := .bool (false)) rfl (run_assign rfl rfl) ?_
    (try simp only [Act.put, List.setIfInBounds_toArray, List.set_cons_zero, List.set_cons_succ])
    show Code.wp _ _ _ _ _
    refine wp_seq ?_
    refine wp_region_list ?_
    refine seq_is (v := .agg #[.bool (b0n), .slice a0n len0n cap0n, .bool (b0d), .slice a0d len0d cap0d]) rfl (run_load4 rfl rfl (Z.bx 1 rfl)) ?_
    (try simp only [Act.put, List.setIfInBounds_toArray, List.set_cons_zero, List.set_cons_succ])
    refine seq_is (v := .agg #[.bool (b1n), .slice a1n len1n cap1n, .bool (b1d), .slice a1d len1d cap1d]) rfl (run_load4 rfl rfl (Z.bx 0 rfl)) ?_
    (try simp only [Act.put, List.setIfInBounds_toArray, List.set_cons_zero, List.set_cons_succ])
    refine seq_call Z rfl rfl Try.func23 rfl rfl (args2 rfl rfl) (Z.callQi (rat_Add.semF (N0n _ _ (Z.rd 0 rfl)) (N0d _ _ (Z.rd 1 rfl)) (N1n _ _ (Z.rd 2 rfl)) (N1d _ _ (Z.rd 3 rfl)) H)) ?_; clear Z; intro x3 W Z
    (try simp only [Act.put, List.setIfInBounds_toArray, List.set_cons_zero, List.set_cons_succ])
    refine seq_is (v := .tuple #[.agg #[.bool (decide (0 < 0)), x3.1.v, .bool (decide (0 < 0)), x3.2.v], .int .i64 (30)]) rfl (run_move rfl rfl) ?_
    (try simp only [Act.put, List.setIfInBounds_toArray, List.set_cons_zero, List.set_cons_succ])
    refine seq_is (v := .agg #[.bool (decide (0 < 0)), x3.1.v, .bool (decide (0 < 0)), x3.2.v]) rfl (run_extract rfl rfl rfl) ?_
    (try simp only [Act.put, List.setIfInBounds_toArray, List.set_cons_zero, List.set_cons_succ])
    refine seq_is (v := .int .i64 (30)) rfl (run_extract rfl rfl rfl) ?_
    (try simp only [Act.put, List.setIfInBounds_toArray, List.set_cons_zero, List.set_cons_succ])
    refine seq_alloc4 Z rfl rfl ?_; clear Z; intro g4 W Z
    (try simp only [Act.put, List.setIfInBounds_toArray, List.set_cons_zero, List.set_cons_succ])
    refine seq_store4 Z 0 rfl rfl rfl rfl rfl ?_; clear Z; intro W Z
    (try simp only [Act.put, List.setIfInBounds_toArray, List.set_cons_zero, List.set_cons_succ])
    refine seq_is (v := .int .i64 (30)) rfl (run_assign rfl rfl) ?_
    (try simp only [Act.put, List.setIfInBounds_toArray, List.set_cons_zero, List.set_cons_succ])
    show Code.wp _ _ _ _ _
    refine wp_seq ?_
    refine wp_region_list ?_
    refine seq_is (v := .agg #[.bool (b0n), .slice a0n len0n cap0n, .bool (b0d), .slice a0d len0d cap0d]) rfl (run_load4 rfl rfl (Z.bx 2 rfl)) ?_
    (try simp only [Act.put, List.setIfInBounds_toArray, List.set_cons_zero, List.set_cons_succ])
    refine seq_is (v := .agg #[.bool (b1n), .slice a1n len1n cap1n, .bool (b1d), .slice a1d len1d cap1d]) rfl (run_load4 rfl rfl (Z.bx 1 rfl)) ?_
    (try simp only [Act.put, List.setIfInBounds_toArray, List.set_cons_zero, List.set_cons_succ])
    refine seq_call Z rfl rfl Try.func24 rfl rfl (args2 rfl rfl) (Z.callQi (rat_Sub.semF (N0n _ _ (Z.rd 2 rfl)) (N0d _ _ (Z.rd 3 rfl)) (N1n _ _ (Z.rd 4 rfl)) (N1d _ _ (Z.rd 5 rfl)) H)) ?_; clear Z; intro x5 W Z
    (try simp only [Act.put, List.setIfInBounds_toArray, List.set_cons_zero, List.set_cons_succ])
    refine seq_is (v := .tuple #[.agg #[.bool (decide (0 < 0)), x5.1.v, .bool (decide (0 < 0)), x5.2.v], .int .i64 (30)]) rfl (run_move rfl rfl) ?_
    (try simp only [Act.put, List.setIfInBounds_toArray, List.set_cons_zero, List.set_cons_succ])
    refine seq_is (v := .agg #[.bool (decide (0 < 0)), x5.1.v, .bool (decide (0 < 0)), x5.2.v]) rfl (run_extract rfl rfl rfl) ?_
    (try simp only [Act.put, List.setIfInBounds_toArray, List.set_cons_zero, List.set_cons_succ])
    refine seq_is (v := .int .i64 (30)) rfl (run_extract rfl rfl rfl) ?_
    (try simp only [Act.put, List.setIfInBounds_toArray, List.set_cons_zero, List.set_cons_succ])
    refine seq_alloc4 Z rfl rfl ?_; clear Z; intro g6 W Z
    (try simp only [Act.put, List.setIfInBounds_toArray, List.set_cons_zero, List.set_cons_succ])
    refine seq_store4 Z 0 rfl rfl rfl rfl rfl ?_; clear Z; intro W Z
    (try simp only [Act.put, List.setIfInBounds_toArray, List.set_cons_zero, List.set_cons_succ])
    refine seq_is (v := .int .i64 (30)) rfl (run_assign rfl rfl) ?_
    (try simp only [Act.put, List.setIfInBounds_toArray, List.set_cons_zero, List.set_cons_succ])
    show Code.wp _ _ _ _ _
    refine wp_seq ?_
    refine wp_seq ?_
    refine wp_region_list ?_
    refine seq_is (v := .agg #[.bool (b0n), .slice a0n len0n cap0n, .bool (b0d), .slice a0d len0d cap0d]) rfl (run_load4 rfl rfl (Z.bx 3 rfl)) ?_
    (try simp only [Act.put, List.setIfInBounds_toArray, List.set_cons_zero, List.set_cons_succ])
    refine seq_is (v := .agg #[.bool (b1n), .slice a1n len1n cap1n, .bool (b1d), .slice a1d len1d cap1d]) rfl (run_load4 rfl rfl (Z.bx 2 rfl)) ?_
    (try simp only [Act.put, List.setIfInBounds_toArray, List.set_cons_zero, List.set_cons_succ])
    refine seq_call Z rfl rfl Try.func21 rfl rfl (args2 rfl rfl) (Z.callV (trammellaw03_both.sem (N0n _ _ (Z.rd 4 rfl)) (N0d _ _ (Z.rd 5 rfl)) (N1n _ _ (Z.rd 6 rfl)) (N1d _ _ (Z.rd 7 rfl)) (Bd.mono F0d (by decide)) (Bd.mono F1d (by decide)))) ?_; clear Z; intro x7 W Z
    (try simp only [Act.put, List.setIfInBounds_toArray, List.set_cons_zero, List.set_cons_succ])
    refine seq_is (v := .bool (!(okB2 (x0d) (x1d)))) rfl (run_not rfl rfl) ?_
    (try simp only [Act.put, List.setIfInBounds_toArray, List.set_cons_zero, List.set_cons_succ])
    show Code.wp _ _ _ _ _
    refine wp_cond_true ((show _ = Value.bool (!(okB2 (x0d) (x1d))) from rfl).trans (congrArg Value.bool (congrArg Bool.not (okB2_f H)))) ?_
    refine wp_seq ?_
    refine wp_region_list ?_
    refine seq_is (v := .int .i64 (30)) rfl (run_move rfl rfl) ?_
    (try simp only [Act.put, List.setIfInBounds_toArray, List.set_cons_zero, List.set_cons_succ])
    refine seq_is (v := .bool (decide ((30 : Int) = (30)))) rfl (run_eqlE rfl rfl rfl) ?_
    (try simp only [Act.put, List.setIfInBounds_toArray, List.set_cons_zero, List.set_cons_succ])
    refine seq_is (v := .bool (decide ((30 : Int) = (30)))) rfl (run_move rfl rfl) ?_
    (try simp only [Act.put, List.setIfInBounds_toArray, List.set_cons_zero, List.set_cons_succ])
    refine list_want rfl rfl (congrArg some (congrArg Value.bool (Eq.refl true))) (wp_run (v := .int .i64 (30)) (run_move rfl rfl) ?_)
    (try simp only [Act.put, List.setIfInBounds_toArray, List.set_cons_zero, List.set_cons_succ])
    refine list_want rfl rfl (congrArg some (congrArg Value.bool (Eq.refl true))) (wp_run (v := .bool (decide ((30 : Int) = (30)))) (run_eqlE rfl rfl rfl) ?_)
    (try simp only [Act.put, List.setIfInBounds_toArray, List.set_cons_zero, List.set_cons_succ])
    refine seq_is (v := .bool (decide ((30 : Int) = (30)))) rfl (run_pickT rfl rfl rfl) ?_
    (try simp only [Act.put, List.setIfInBounds_toArray, List.set_cons_zero, List.set_cons_succ])
    refine seq_is (v := .bool (decide ((30 : Int) = (30)))) rfl (run_move rfl rfl) ?_
    (try simp only [Act.put, List.setIfInBounds_toArray, List.set_cons_zero, List.set_cons_succ])
    refine list_want rfl rfl (congrArg some (congrArg Value.bool (Eq.refl true))) (wp_run (v := .agg #[.bool (decide (0 < 0)), x3.1.v, .bool (decide (0 < 0)), x3.2.v]) (run_load4 rfl rfl (Z.bx 1 rfl)) ?_)
    (try simp only [Act.put, List.setIfInBounds_toArray, List.set_cons_zero, List.set_cons_succ])
    refine list_want rfl rfl (congrArg some (congrArg Value.bool (Eq.refl true))) (wp_run (v := .agg #[.bool (false), .slice none 0 0, .bool (false), .slice none 0 0]) (run_buildR0 rfl) ?_)
    (try simp only [Act.put, List.setIfInBounds_toArray, List.set_cons_zero, List.set_cons_succ])
    refine seq_callw Z (fun h => list_want rfl rfl (congrArg some (congrArg Value.bool (Eq.refl true))) h) rfl Try.func15 rfl rfl (args2 rfl rfl) (Z.callV (sameQ (z1 := 0) (z2 := 0) (y1 := 0) (y2 := 0) (Z.rdO 2 rfl) (Z.rdO 3 rfl) (Rd_nil0 _) (Rd_nil0 _) (Bd.fm (Bd.abs (Bd.lit (k := 64) (z := 0) (by decide))) (by decide)) (Bd.fm (Bd.abs (Bd.lit (k := 64) (z := 0) (by decide))) (by decide)) rfl rfl)) ?_; clear Z; intro x8 W Z
    (try simp only [Act.put, List.setIfInBounds_toArray, List.set_cons_zero, List.set_cons_succ])
    refine seq_is (v := .bool (tt)) rfl (run_castR (run_pickT rfl rfl rfl) htt.symm) ?_
    (try simp only [Act.put, List.setIfInBounds_toArray, List.set_cons_zero, List.set_cons_succ])
    refine seq_is (v := .bool (tt)) rfl (run_move rfl rfl) ?_
    (try simp only [Act.put, List.setIfInBounds_toArray, List.set_cons_zero, List.set_cons_succ])
    refine list_want rfl rfl (congrArg some (congrArg Value.bool htt)) (wp_run (v := .agg #[.bool (decide (0 < 0)), x5.1.v, .bool (decide (0 < 0)), x5.2.v]) (run_load4 rfl rfl (Z.bx 0 rfl)) ?_)
    (try simp only [Act.put, List.setIfInBounds_toArray, List.set_cons_zero, List.set_cons_succ])
    refine list_want rfl rfl (congrArg some (congrArg Value.bool htt)) (wp_run (v := .agg #[.bool (false), .slice none 0 0, .bool (false), .slice none 0 0]) (run_buildR0 rfl) ?_)
    (try simp only [Act.put, List.setIfInBounds_toArray, List.set_cons_zero, List.set_cons_succ])
    refine seq_callw Z (fun h => list_want rfl rfl (congrArg some (congrArg Value.bool htt)) h) rfl Try.func15 rfl rfl (args2 rfl rfl) (Z.callV (sameQ (z1 := 0) (z2 := 0) (y1 := 0) (y2 := 0) (Z.rdO 0 rfl) (Z.rdO 1 rfl) (Rd_nil0 _) (Rd_nil0 _) (Bd.fm (Bd.abs (Bd.lit (k := 64) (z := 0) (by decide))) (by decide)) (Bd.fm (Bd.abs (Bd.lit (k := 64) (z := 0) (by decide))) (by decide)) rfl rfl)) ?_; clear Z; intro x9 W Z
    (try simp only [Act.put, List.setIfInBounds_toArray, List.set_cons_zero, List.set_cons_succ])
    refine seq_is (v := .bool (tt)) rfl (run_castR (run_pickT rfl ((show _ = Value.bool (tt) from rfl).trans (congrArg Value.bool htt)) rfl) htt.symm) ?_
    (try simp only [Act.put, List.setIfInBounds_toArray, List.set_cons_zero, List.set_cons_succ])
    refine seq_is (v := .bool (tt)) rfl (run_move rfl rfl) ?_
    (try simp only [Act.put, List.setIfInBounds_toArray, List.set_cons_zero, List.set_cons_succ])
    refine seq_callw Z (fun h => list_want rfl rfl (congrArg some (congrArg Value.bool htt)) h) rfl Try.func16 rfl rfl (show Array.map _ #[] = #[] by simp) (Z.callV (trammellaw03_awake.sem _)) ?_; clear Z; intro x10 W Z
    (try simp only [Act.put, List.setIfInBounds_toArray, List.set_cons_zero, List.set_cons_succ])
    refine seq_is (v := .bool (tt)) rfl (run_castR (run_pickT rfl ((show _ = Value.bool (tt) from rfl).trans (congrArg Value.bool htt)) rfl) htt.symm) ?_
    (try simp only [Act.put, List.setIfInBounds_toArray, List.set_cons_zero, List.set_cons_succ])
    refine seq_is (v := .bool (tt)) rfl (run_assign rfl rfl) ?_
    (try simp only [Act.put, List.setIfInBounds_toArray, List.set_cons_zero, List.set_cons_succ])
    show Code.wp _ _ _ _ _
    refine wp_ret ?_
    exact Z.endsV rfl rfl rfl (by first | rfl | exact (congrArg Value.bool htt) | simp)

end Go.Proofs.Ytndopanohhdfgaa.PA

