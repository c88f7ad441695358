/- The walk of the law RatProducts: what its code answers for arguments of a bulk of at most 1048576. -/
import Derived.Outline
import Derived.Test.YtndopanohhdfgaaZYK
import Derived.Test.YtndopanohhdfgaaZDK
import Derived.Test.YtndopanohhdfgaaPAx0K
namespace Go.Proofs.Ytndopanohhdfgaa.PA
open Go Go.Proofs.Ytndopanohhdfgaa.Nums Go.RowKit Go.Proofs.YtndopanohhdfgaaW.PrintWords Go.Proofs.YtndopanohhdfgaaW.PrintLast Go.Proofs.YtndopanohhdfgaaW.PrintMore
set_option linter.unusedVariables false
set_option linter.unusedSimpArgs false
set_option maxHeartbeats 8000000 in
set_option maxRecDepth 100000 in
theorem trammellaw03_RatProducts.walk (b0n : Bool) (a0n : Option Addr) (len0n cap0n : Nat) (q0n : List Int) (b0d : Bool) (a0d : Option Addr) (len0d cap0d : Nat) (q0d : List Int) (b1n : Bool) (a1n : Option Addr) (len1n cap1n : Nat) (q1n : List Int) (b1d : Bool) (a1d : Option Addr) (len1d cap1d : Nat) (q1d : List Int) (w : World) (w0n : bulks.IsRow .u32 w a0n len0n cap0n q0n) (y0n : len0n ≤ 1048576) (w0d : bulks.IsRow .u32 w a0d len0d cap0d q0d) (y0d : len0d ≤ 1048576) (w1n : bulks.IsRow .u32 w a1n len1n cap1n q1n) (y1n : len1n ≤ 1048576) (w1d : bulks.IsRow .u32 w a1d len1d cap1d q1d) (y1d : len1d ≤ 1048576) : Calls Try.prog 7 #[.agg #[.bool b0n, .slice a0n len0n cap0n, .bool b0d, .slice a0d len0d cap0d], .agg #[.bool b1n, .slice a1n len1n cap1n, .bool b1d, .slice a1d len1d cap1d]] w (RetV w (.bool true)) := by
  obtain ⟨l0n, r0n, o0n, hl0n⟩ := row_rd w0n y0n
  obtain ⟨x0n, N0n, F0n, hx0n⟩ := arg_num (b := b0n) o0n hl0n
  obtain ⟨l0d, r0d, o0d, hl0d⟩ := row_rd w0d y0d
  obtain ⟨x0d, N0d, F0d, hx0d⟩ := arg_num (b := b0d) o0d hl0d
  obtain ⟨l1n, r1n, o1n, hl1n⟩ := row_rd w1n y1n
  obtain ⟨x1n, N1n, F1n, hx1n⟩ := arg_num (b := b1n) o1n hl1n
  obtain ⟨l1d, r1d, o1d, hl1d⟩ := row_rd w1d y1d
  obtain ⟨x1d, N1d, F1d, hx1d⟩ := arg_num (b := b1d) o1d hl1d
  have Z := Zt.start w (r0n.has.append (r0d.has.append (r1n.has.append r1d.has)))
  obtain ⟨tt, htt⟩ : ∃ b : Bool, b = true := ⟨true, rfl⟩
  obtain ⟨ff, hff⟩ : ∃ b : Bool, b = false := ⟨false, rfl⟩
  rcases (Classical.em (0 < x0d ∧ 0 < x1d)) with H | H
  · rcases (Classical.em (x1n = 0)) with h3 | h3
    · go_enter Try.func7, Try.ntmps7
      refine wp_seq ?_
      refine wp_region_list ?_
      refine seq_box4 Z rfl rfl rfl ?_; clear Z; intro g1 W Z
      (try simp only [Act.put, List.setIfInBounds_toArray, List.set_cons_zero, List.set_cons_succ])
      refine seq_box4 Z rfl rfl rfl ?_; clear Z; intro g2 W Z
      (try simp only [Act.put, List.setIfInBounds_toArray, List.set_cons_zero, List.set_cons_succ])
      refine seq_is (v := .bool (false)) rfl (run_assign rfl rfl) ?_
      (try simp only [Act.put, List.setIfInBounds_toArray, List.set_cons_zero, List.set_cons_succ])
      show Code.wp _ _ _ _ _
      refine wp_seq ?_
      refine wp_region_list ?_
      refine seq_is (v := .agg #[.bool (b0n), .slice a0n len0n cap0n, .bool (b0d), .slice a0d len0d cap0d]) rfl (run_load4 rfl rfl (Z.bx 1 rfl)) ?_
      (try simp only [Act.put, List.setIfInBounds_toArray, List.set_cons_zero, List.set_cons_succ])
      refine seq_is (v := .agg #[.bool (b1n), .slice a1n len1n cap1n, .bool (b1d), .slice a1d len1d cap1d]) rfl (run_load4 rfl rfl (Z.bx 0 rfl)) ?_
      (try simp only [Act.put, List.setIfInBounds_toArray, List.set_cons_zero, List.set_cons_succ])
      refine seq_call Z rfl rfl Try.func27 rfl rfl (args2 rfl rfl) (Z.callQi (rat_Mul.sem (N0n _ _ (Z.rd 0 rfl)) (N0d _ _ (Z.rd 1 rfl)) (N1n _ _ (Z.rd 2 rfl)) (N1d _ _ (Z.rd 3 rfl)) (Bd.mono F0n (by decide)) (Bd.mono F0d (by decide)) (Bd.mono F1n (by decide)) (Bd.mono F1d (by decide)) H.1 H.2)) ?_; clear Z; intro x3 W Z
      (try simp only [Act.put, List.setIfInBounds_toArray, List.set_cons_zero, List.set_cons_succ])
      refine seq_is (v := .tuple #[.agg #[.bool (decide (qn ((x0n) * (x1n)) ((x0d) * (x1d)) < 0)), x3.1.v, .bool (decide (qd ((x0n) * (x1n)) ((x0d) * (x1d)) < 0)), x3.2.v], .int .i64 (0)]) rfl (run_move rfl rfl) ?_
      (try simp only [Act.put, List.setIfInBounds_toArray, List.set_cons_zero, List.set_cons_succ])
      refine seq_is (v := .agg #[.bool (decide (qn ((x0n) * (x1n)) ((x0d) * (x1d)) < 0)), x3.1.v, .bool (decide (qd ((x0n) * (x1n)) ((x0d) * (x1d)) < 0)), x3.2.v]) rfl (run_extract rfl rfl rfl) ?_
      (try simp only [Act.put, List.setIfInBounds_toArray, List.set_cons_zero, List.set_cons_succ])
      refine seq_is (v := .int .i64 (0)) rfl (run_extract rfl rfl rfl) ?_
      (try simp only [Act.put, List.setIfInBounds_toArray, List.set_cons_zero, List.set_cons_succ])
      refine seq_alloc4 Z rfl rfl ?_; clear Z; intro g4 W Z
      (try simp only [Act.put, List.setIfInBounds_toArray, List.set_cons_zero, List.set_cons_succ])
      refine seq_store4 Z 0 rfl rfl rfl rfl rfl ?_; clear Z; intro W Z
      (try simp only [Act.put, List.setIfInBounds_toArray, List.set_cons_zero, List.set_cons_succ])
      refine seq_is (v := .int .i64 (0)) rfl (run_assign rfl rfl) ?_
      (try simp only [Act.put, List.setIfInBounds_toArray, List.set_cons_zero, List.set_cons_succ])
      show Code.wp _ _ _ _ _
      refine wp_seq ?_
      refine wp_region_list ?_
      refine seq_is (v := .agg #[.bool (b0n), .slice a0n len0n cap0n, .bool (b0d), .slice a0d len0d cap0d]) rfl (run_load4 rfl rfl (Z.bx 2 rfl)) ?_
      (try simp only [Act.put, List.setIfInBounds_toArray, List.set_cons_zero, List.set_cons_succ])
      refine seq_is (v := .agg #[.bool (b1n), .slice a1n len1n cap1n, .bool (b1d), .slice a1d len1d cap1d]) rfl (run_load4 rfl rfl (Z.bx 1 rfl)) ?_
      (try simp only [Act.put, List.setIfInBounds_toArray, List.set_cons_zero, List.set_cons_succ])
      refine seq_call Z rfl rfl Try.func28 rfl rfl (args2 rfl rfl) (Z.callQi (rat_Div.sem0 (N0n _ _ (Z.rd 2 rfl)) (N0d _ _ (Z.rd 3 rfl)) (N1n _ _ (Z.rd 4 rfl)) (N1d _ _ (Z.rd 5 rfl)) H.1 H.2 h3)) ?_; clear Z; intro x5 W Z
      (try simp only [Act.put, List.setIfInBounds_toArray, List.set_cons_zero, List.set_cons_succ])
      refine seq_is (v := .tuple #[.agg #[.bool (decide (0 < 0)), x5.1.v, .bool (decide (0 < 0)), x5.2.v], .int .i64 (11)]) rfl (run_move rfl rfl) ?_
      (try simp only [Act.put, List.setIfInBounds_toArray, List.set_cons_zero, List.set_cons_succ])
      refine seq_is (v := .agg #[.bool (decide (0 < 0)), x5.1.v, .bool (decide (0 < 0)), x5.2.v]) rfl (run_extract rfl rfl rfl) ?_
      (try simp only [Act.put, List.setIfInBounds_toArray, List.set_cons_zero, List.set_cons_succ])
      refine seq_is (v := .int .i64 (11)) rfl (run_extract rfl rfl rfl) ?_
      (try simp only [Act.put, List.setIfInBounds_toArray, List.set_cons_zero, List.set_cons_succ])
      refine seq_alloc4 Z rfl rfl ?_; clear Z; intro g6 W Z
      (try simp only [Act.put, List.setIfInBounds_toArray, List.set_cons_zero, List.set_cons_succ])
      refine seq_store4 Z 0 rfl rfl rfl rfl rfl ?_; clear Z; intro W Z
      (try simp only [Act.put, List.setIfInBounds_toArray, List.set_cons_zero, List.set_cons_succ])
      refine seq_is (v := .int .i64 (11)) rfl (run_assign rfl rfl) ?_
      (try simp only [Act.put, List.setIfInBounds_toArray, List.set_cons_zero, List.set_cons_succ])
      show Code.wp _ _ _ _ _
      refine wp_seq ?_
      refine wp_seq ?_
      refine wp_region_list ?_
      refine seq_is (v := .agg #[.bool (b0n), .slice a0n len0n cap0n, .bool (b0d), .slice a0d len0d cap0d]) rfl (run_load4 rfl rfl (Z.bx 3 rfl)) ?_
      (try simp only [Act.put, List.setIfInBounds_toArray, List.set_cons_zero, List.set_cons_succ])
      refine seq_is (v := .agg #[.bool (b1n), .slice a1n len1n cap1n, .bool (b1d), .slice a1d len1d cap1d]) rfl (run_load4 rfl rfl (Z.bx 2 rfl)) ?_
      (try simp only [Act.put, List.setIfInBounds_toArray, List.set_cons_zero, List.set_cons_succ])
      refine seq_call Z rfl rfl Try.func21 rfl rfl (args2 rfl rfl) (Z.callV (trammellaw03_both.sem (N0n _ _ (Z.rd 4 rfl)) (N0d _ _ (Z.rd 5 rfl)) (N1n _ _ (Z.rd 6 rfl)) (N1d _ _ (Z.rd 7 rfl)) (Bd.mono F0d (by decide)) (Bd.mono F1d (by decide)))) ?_; clear Z; intro x7 W Z
      (try simp only [Act.put, List.setIfInBounds_toArray, List.set_cons_zero, List.set_cons_succ])
      refine seq_is (v := .bool (!(okB2 (x0d) (x1d)))) rfl (run_not rfl rfl) ?_
      (try simp only [Act.put, List.setIfInBounds_toArray, List.set_cons_zero, List.set_cons_succ])
      show Code.wp _ _ _ _ _
      refine wp_cond_false ((show _ = Value.bool (!(okB2 (x0d) (x1d))) from rfl).trans (congrArg Value.bool (congrArg Bool.not (okB2_t H)))) ?_
      refine wp_skip ?_
      show Code.wp _ _ _ _ _
      refine wp_seq ?_
      refine wp_seq ?_
      refine wp_dag (pre := [_, _, _, _, _, _, _, _, _, _]) (sps := [.is (.int .i64 (0)), .is (.bool (decide ((0 : Int) ≠ (0)))), .is (.bool (decide ((0 : Int) ≠ (0)))), .is (.agg #[.bool (decide (qn ((x0n) * (x1n)) ((x0d) * (x1d)) < 0)), x3.1.v, .bool (decide (qd ((x0n) * (x1n)) ((x0d) * (x1d)) < 0)), x3.2.v]), .is (.agg #[.bool (b0n), .slice a0n len0n cap0n, .bool (b0d), .slice a0d len0d cap0d]), .is (.agg #[.bool (b1n), .slice a1n len1n cap1n, .bool (b1d), .slice a1d len1d cap1d]), spQ w (qn ((x0n) * (x1n)) ((x0d) * (x1d))) (qd ((x0n) * (x1n)) ((x0d) * (x1d))), .is (.bool (true)), .is (.bool (!(true))), .is (.bool (!(true)))]) Z (by kernel_rfl) _ rfl (by kernel_rfl) (by kernel_rfl) rfl ⟨?_, ?_, ?_, ?_, ?_, ?_, ?_, ?_, ?_, ?_, trivial⟩ ?_
      · intro a e8 W Q Z; exact step_is (fun _ h => op_plain rfl rfl h) (run_move rfl (ev e8))
      · intro a x10 e11 W Q Z; exact step_is (fun _ h => op_plain rfl rfl h) (run_neqE rfl (ev e11) rfl)
      · intro a x13 e14 W Q Z; exact step_is (fun _ h => op_plain rfl rfl h) (run_move rfl (ev e14))
      · intro a x16 e17 e18 W Q Z; exact step_is (fun _ h => op_want rfl rfl rfl e17 h) (run_load4 rfl (ev e18) (Z.bx 1 rfl))
      · intro a x20 e21 e22 W Q Z; exact step_is (fun _ h => op_want rfl rfl rfl e21 h) (run_load4 rfl (ev e22) (Z.bx 3 rfl))
      · intro a x24 e25 e26 W Q Z; exact step_is (fun _ h => op_want rfl rfl rfl e25 h) (run_load4 rfl (ev e26) (Z.bx 2 rfl))
      · intro a x28 e29 x30 e31 x32 e33 W Q Z; exact step_call (fun _ h => op_want rfl rfl rfl e29 h) rfl Try.func29 rfl rfl (args2 (ev e31) (ev e33)) (Z.callQ (trammelref03_Mul.sem (N0n _ _ (Z.rd 4 rfl)) (N0d _ _ (Z.rd 5 rfl)) (N1n _ _ (Z.rd 6 rfl)) (N1d _ _ (Z.rd 7 rfl)) (Bd.mono F0n (by decide)) (Bd.mono F0d (by decide)) (Bd.mono F1n (by decide)) (Bd.mono F1d (by decide)) (pos_ne H.1) (pos_ne H.2)))
      · intro a x35 e36 x37 e38 x39 e40 W Q Z; exact step_call (fun _ h => op_want rfl rfl rfl e36 h) rfl Try.func15 rfl rfl (args2 (ev e38) (ev e40)) (Z.callV (sameQ (z1 := qn ((x0n) * (x1n)) ((x0d) * (x1d))) (z2 := qn ((x0n) * (x1n)) ((x0d) * (x1d))) (y1 := qd ((x0n) * (x1n)) ((x0d) * (x1d))) (y2 := qd ((x0n) * (x1n)) ((x0d) * (x1d))) (Z.rdO 4 rfl) (Z.rdO 5 rfl) (Z.rdO 0 rfl) (Z.rdO 1 rfl) (Bd.fm (Bd.abs (Bd.qn (Bd.mul F0n F1n))) (by decide)) (Bd.fm (Bd.abs (Bd.qd (Bd.mul F0d F1d))) (by decide)) rfl rfl))
      · intro a x42 e43 x44 e45 W Q Z; exact step_is (fun _ h => op_want rfl rfl rfl e43 h) (run_not rfl (ev e45))
      · intro a x47 e48 x49 e50 W Q Z; exact step_is (fun _ h => op_plain rfl rfl h) (run_pickF rfl (ev e48) (ev e50))
      clear Z; intro x9 x12 x15 x19 x23 x27 x34 x41 x46 x51 W Z
      (try simp only [Act.put, List.setIfInBounds_toArray, List.set_cons_zero, List.set_cons_succ])
      show Code.wp _ _ _ _ _
      refine wp_cond_false rfl ?_
      refine wp_skip ?_
      show Code.wp _ _ _ _ _
      refine wp_seq ?_
      refine wp_seq ?_
      refine wp_region_list ?_
      refine seq_is (v := .pointer (some ⟨g2, 0, none⟩)) rfl (run_fieldR0 rfl rfl) ?_
      (try simp only [Act.put, List.setIfInBounds_toArray, List.set_cons_zero, List.set_cons_succ])
      refine seq_is (v := .agg #[.bool (b1n), .slice a1n len1n cap1n]) rfl (run_loadNum rfl rfl (Z.bx 2 rfl)) ?_
      (try simp only [Act.put, List.setIfInBounds_toArray, List.set_cons_zero, List.set_cons_succ])
      refine seq_call Z rfl rfl Try.func14 rfl rfl (args1 rfl) (Z.callV (trammelref02_Sign.sem (N1n _ _ (Z.rd 8 rfl)) (Bd.fm (Bd.abs F1n) (by decide)) )) ?_; clear Z; intro x52 W Z
      (try simp only [Act.put, List.setIfInBounds_toArray, List.set_cons_zero, List.set_cons_succ])
      refine seq_is (v := .bool (decide (((x1n).sign) = (0)))) rfl (run_eql rfl rfl rfl) ?_
      (try simp only [Act.put, List.setIfInBounds_toArray, List.set_cons_zero, List.set_cons_succ])
      show Code.wp _ _ _ _ _
      refine wp_cond_true ((show _ = Value.bool (decide (((x1n).sign) = (0))) from rfl).trans (congrArg Value.bool (sign0_t h3))) ?_
      refine wp_seq ?_
      refine wp_region_list ?_
      refine seq_is (v := .int .i64 (11)) rfl (run_move rfl rfl) ?_
      (try simp only [Act.put, List.setIfInBounds_toArray, List.set_cons_zero, List.set_cons_succ])
      refine seq_is (v := .bool (decide ((11 : Int) = (11)))) rfl (run_eqlE rfl rfl rfl) ?_
      (try simp only [Act.put, List.setIfInBounds_toArray, List.set_cons_zero, List.set_cons_succ])
      refine seq_is (v := .bool (decide ((11 : Int) = (11)))) rfl (run_move rfl rfl) ?_
      (try simp only [Act.put, List.setIfInBounds_toArray, List.set_cons_zero, List.set_cons_succ])
      refine list_want rfl rfl (congrArg some (congrArg Value.bool (Eq.refl true))) (wp_run (v := .agg #[.bool (decide (0 < 0)), x5.1.v, .bool (decide (0 < 0)), x5.2.v]) (run_load4 rfl rfl (Z.bx 0 rfl)) ?_)
      (try simp only [Act.put, List.setIfInBounds_toArray, List.set_cons_zero, List.set_cons_succ])
      refine list_want rfl rfl (congrArg some (congrArg Value.bool (Eq.refl true))) (wp_run (v := .agg #[.bool (false), .slice none 0 0, .bool (false), .slice none 0 0]) (run_buildR0 rfl) ?_)
      (try simp only [Act.put, List.setIfInBounds_toArray, List.set_cons_zero, List.set_cons_succ])
      refine seq_callw Z (fun h => list_want rfl rfl (congrArg some (congrArg Value.bool (Eq.refl true))) h) rfl Try.func15 rfl rfl (args2 rfl rfl) (Z.callV (sameQ (z1 := 0) (z2 := 0) (y1 := 0) (y2 := 0) (Z.rdO 2 rfl) (Z.rdO 3 rfl) (Rd_nil0 _) (Rd_nil0 _) (Bd.fm (Bd.abs (Bd.lit (k := 64) (z := 0) (by decide))) (by decide)) (Bd.fm (Bd.abs (Bd.lit (k := 64) (z := 0) (by decide))) (by decide)) rfl rfl)) ?_; clear Z; intro x53 W Z
      (try simp only [Act.put, List.setIfInBounds_toArray, List.set_cons_zero, List.set_cons_succ])
      refine seq_is (v := .bool (tt)) rfl (run_castR (run_pickT rfl rfl rfl) htt.symm) ?_
      (try simp only [Act.put, List.setIfInBounds_toArray, List.set_cons_zero, List.set_cons_succ])
      refine seq_is (v := .bool (tt)) rfl (run_move rfl rfl) ?_
      (try simp only [Act.put, List.setIfInBounds_toArray, List.set_cons_zero, List.set_cons_succ])
      refine seq_callw Z (fun h => list_want rfl rfl (congrArg some (congrArg Value.bool htt)) h) rfl Try.func16 rfl rfl (show Array.map _ #[] = #[] by simp) (Z.callV (trammellaw03_awake.sem _)) ?_; clear Z; intro x54 W Z
      (try simp only [Act.put, List.setIfInBounds_toArray, List.set_cons_zero, List.set_cons_succ])
      refine seq_is (v := .bool (tt)) rfl (run_castR (run_pickT rfl ((show _ = Value.bool (tt) from rfl).trans (congrArg Value.bool htt)) rfl) htt.symm) ?_
      (try simp only [Act.put, List.setIfInBounds_toArray, List.set_cons_zero, List.set_cons_succ])
      refine seq_is (v := .bool (tt)) rfl (run_assign rfl rfl) ?_
      (try simp only [Act.put, List.setIfInBounds_toArray, List.set_cons_zero, List.set_cons_succ])
      show Code.wp _ _ _ _ _
      refine wp_ret ?_
      exact Z.endsV rfl rfl rfl (by first | rfl | exact (congrArg Value.bool htt) | simp)
    · go_enter Try.func7, Try.ntmps7
      refine wp_seq ?_
      refine wp_region_list ?_
      refine seq_box4 Z rfl rfl rfl ?_; clear Z; intro g1 W Z
      (try simp only [Act.put, List.setIfInBounds_toArray, List.set_cons_zero, List.set_cons_succ])
      refine seq_box4 Z rfl rfl rfl ?_; clear Z; intro g2 W Z
      (try simp only [Act.put, List.setIfInBounds_toArray, List.set_cons_zero, List.set_cons_succ])
      refine seq_is (v := .bool (false)) rfl (run_assign rfl rfl) ?_
      (try simp only [Act.put, List.setIfInBounds_toArray, List.set_cons_zero, List.set_cons_succ])
      show Code.wp _ _ _ _ _
      refine wp_seq ?_
      refine wp_region_list ?_
      refine seq_is (v := .agg #[.bool (b0n), .slice a0n len0n cap0n, .bool (b0d), .slice a0d len0d cap0d]) rfl (run_load4 rfl rfl (Z.bx 1 rfl)) ?_
      (try simp only [Act.put, List.setIfInBounds_toArray, List.set_cons_zero, List.set_cons_succ])
      refine seq_is (v := .agg #[.bool (b1n), .slice a1n len1n cap1n, .bool (b1d), .slice a1d len1d cap1d]) rfl (run_load4 rfl rfl (Z.bx 0 rfl)) ?_
      (try simp only [Act.put, List.setIfInBounds_toArray, List.set_cons_zero, List.set_cons_succ])
      refine seq_call Z rfl rfl Try.func27 rfl rfl (args2 rfl rfl) (Z.callQi (rat_Mul.sem (N0n _ _ (Z.rd 0 rfl)) (N0d _ _ (Z.rd 1 rfl)) (N1n _ _ (Z.rd 2 rfl)) (N1d _ _ (Z.rd 3 rfl)) (Bd.mono F0n (by decide)) (Bd.mono F0d (by decide)) (Bd.mono F1n (by decide)) (Bd.mono F1d (by decide)) H.1 H.2)) ?_; clear Z; intro x3 W Z
      (try simp only [Act.put, List.setIfInBounds_toArray, List.set_cons_zero, List.set_cons_succ])
      refine seq_is (v := .tuple #[.agg #[.bool (decide (qn ((x0n) * (x1n)) ((x0d) * (x1d)) < 0)), x3.1.v, .bool (decide (qd ((x0n) * (x1n)) ((x0d) * (x1d)) < 0)), x3.2.v], .int .i64 (0)]) rfl (run_move rfl rfl) ?_
      (try simp only [Act.put, List.setIfInBounds_toArray, List.set_cons_zero, List.set_cons_succ])
      refine seq_is (v := .agg #[.bool (decide (qn ((x0n) * (x1n)) ((x0d) * (x1d)) < 0)), x3.1.v, .bool (decide (qd ((x0n) * (x1n)) ((x0d) * (x1d)) < 0)), x3.2.v]) rfl (run_extract rfl rfl rfl) ?_
      (try simp only [Act.put, List.setIfInBounds_toArray, List.set_cons_zero, List.set_cons_succ])
      refine seq_is (v := .int .i64 (0)) rfl (run_extract rfl rfl rfl) ?_
      (try simp only [Act.put, List.setIfInBounds_toArray, List.set_cons_zero, List.set_cons_succ])
      refine seq_alloc4 Z rfl rfl ?_; clear Z; intro g4 W Z
      (try simp only [Act.put, List.setIfInBounds_toArray, List.set_cons_zero, List.set_cons_succ])
      refine seq_store4 Z 0 rfl rfl rfl rfl rfl ?_; clear Z; intro W Z
      (try simp only [Act.put, List.setIfInBounds_toArray, List.set_cons_zero, List.set_cons_succ])
      refine seq_is (v := .int .i64 (0)) rfl (run_assign rfl rfl) ?_
      (try simp only [Act.put, List.setIfInBounds_toArray, List.set_cons_zero, List.set_cons_succ])
      show Code.wp _ _ _ _ _
      refine wp_seq ?_
      refine wp_region_list ?_
      refine seq_is (v := .agg #[.bool (b0n), .slice a0n len0n cap0n, .bool (b0d), .slice a0d len0d cap0d]) rfl (run_load4 rfl rfl (Z.bx 2 rfl)) ?_
      (try simp only [Act.put, List.setIfInBounds_toArray, List.set_cons_zero, List.set_cons_succ])
      refine seq_is (v := .agg #[.bool (b1n), .slice a1n len1n cap1n, .bool (b1d), .slice a1d len1d cap1d]) rfl (run_load4 rfl rfl (Z.bx 1 rfl)) ?_
      (try simp only [Act.put, List.setIfInBounds_toArray, List.set_cons_zero, List.set_cons_succ])
      refine seq_call Z rfl rfl Try.func28 rfl rfl (args2 rfl rfl) (Z.callQi (rat_Div.semN (N0n _ _ (Z.rd 2 rfl)) (N0d _ _ (Z.rd 3 rfl)) (N1n _ _ (Z.rd 4 rfl)) (N1d _ _ (Z.rd 5 rfl)) (Bd.mono F0n (by decide)) (Bd.mono F0d (by decide)) (Bd.mono F1n (by decide)) (Bd.mono F1d (by decide)) H.1 H.2 h3)) ?_; clear Z; intro x5 W Z
      (try simp only [Act.put, List.setIfInBounds_toArray, List.set_cons_zero, List.set_cons_succ])
      refine seq_is (v := .tuple #[.agg #[.bool (decide (qn ((x0n) * (x1d)) ((x0d) * (x1n)) < 0)), x5.1.v, .bool (decide (qd ((x0n) * (x1d)) ((x0d) * (x1n)) < 0)), x5.2.v], .int .i64 (0)]) rfl (run_move rfl rfl) ?_
      (try simp only [Act.put, List.setIfInBounds_toArray, List.set_cons_zero, List.set_cons_succ])
      refine seq_is (v := .agg #[.bool (decide (qn ((x0n) * (x1d)) ((x0d) * (x1n)) < 0)), x5.1.v, .bool (decide (qd ((x0n) * (x1d)) ((x0d) * (x1n)) < 0)), x5.2.v]) rfl (run_extract rfl rfl rfl) ?_
      (try simp only [Act.put, List.setIfInBounds_toArray, List.set_cons_zero, List.set_cons_succ])
      refine seq_is (v := .int .i64 (0)) rfl (run_extract rfl rfl rfl) ?_
      (try simp only [Act.put, List.setIfInBounds_toArray, List.set_cons_zero, List.set_cons_succ])
      refine seq_alloc4 Z rfl rfl ?_; clear Z; intro g6 W Z
      (try simp only [Act.put, List.setIfInBounds_toArray, List.set_cons_zero, List.set_cons_succ])
      refine seq_store4 Z 0 rfl rfl rfl rfl rfl ?_; clear Z; intro W Z
      (try simp only [Act.put, List.setIfInBounds_toArray, List.set_cons_zero, List.set_cons_succ])
      refine seq_is (v := .int .i64 (0)) rfl (run_assign rfl rfl) ?_
      (try simp only [Act.put, List.setIfInBounds_toArray, List.set_cons_zero, List.set_cons_succ])
      show Code.wp _ _ _ _ _
      refine wp_seq ?_
      refine wp_seq ?_
      refine wp_region_list ?_
      refine seq_is (v := .agg #[.bool (b0n), .slice a0n len0n cap0n, .bool (b0d), .slice a0d len0d cap0d]) rfl (run_load4 rfl rfl (Z.bx 3 rfl)) ?_
      (try simp only [Act.put, List.setIfInBounds_toArray, List.set_cons_zero, List.set_cons_succ])
      refine seq_is (v := .agg #[.bool (b1n), .slice a1n len1n cap1n, .bool (b1d), .slice a1d len1d cap1d]) rfl (run_load4 rfl rfl (Z.bx 2 rfl)) ?_
      (try simp only [Act.put, List.setIfInBounds_toArray, List.set_cons_zero, List.set_cons_succ])
      refine seq_call Z rfl rfl Try.func21 rfl rfl (args2 rfl rfl) (Z.callV (trammellaw03_both.sem (N0n _ _ (Z.rd 4 rfl)) (N0d _ _ (Z.rd 5 rfl)) (N1n _ _ (Z.rd 6 rfl)) (N1d _ _ (Z.rd 7 rfl)) (Bd.mono F0d (by decide)) (Bd.mono F1d (by decide)))) ?_; clear Z; intro x7 W Z
      (try simp only [Act.put, List.setIfInBounds_toArray, List.set_cons_zero, List.set_cons_succ])
      refine seq_is (v := .bool (!(okB2 (x0d) (x1d)))) rfl (run_not rfl rfl) ?_
      (try simp only [Act.put, List.setIfInBounds_toArray, List.set_cons_zero, List.set_cons_succ])
      show Code.wp _ _ _ _ _
      refine wp_cond_false ((show _ = Value.bool (!(okB2 (x0d) (x1d))) from rfl).trans (congrArg Value.bool (congrArg Bool.not (okB2_t H)))) ?_
      refine wp_skip ?_
      show Code.wp _ _ _ _ _
      refine wp_seq ?_
      refine wp_seq ?_
      refine wp_dag (pre := [_, _, _, _, _, _, _, _, _, _]) (sps := [.is (.int .i64 (0)), .is (.bool (decide ((0 : Int) ≠ (0)))), .is (.bool (decide ((0 : Int) ≠ (0)))), .is (.agg #[.bool (decide (qn ((x0n) * (x1n)) ((x0d) * (x1d)) < 0)), x3.1.v, .bool (decide (qd ((x0n) * (x1n)) ((x0d) * (x1d)) < 0)), x3.2.v]), .is (.agg #[.bool (b0n), .slice a0n len0n cap0n, .bool (b0d), .slice a0d len0d cap0d]), .is (.agg #[.bool (b1n), .slice a1n len1n cap1n, .bool (b1d), .slice a1d len1d cap1d]), spQ w (qn ((x0n) * (x1n)) ((x0d) * (x1d))) (qd ((x0n) * (x1n)) ((x0d) * (x1d))), .is (.bool (true)), .is (.bool (!(true))), .is (.bool (!(true)))]) Z (by kernel_rfl) _ rfl (by kernel_rfl) (by kernel_rfl) rfl ⟨?_, ?_, ?_, ?_, ?_, ?_, ?_, ?_, ?_, ?_, trivial⟩ ?_
      · intro a e8 W Q Z; exact step_is (fun _ h => op_plain rfl rfl h) (run_move rfl (ev e8))
      · intro a x10 e11 W Q Z; exact step_is (fun _ h => op_plain rfl rfl h) (run_neqE rfl (ev e11) rfl)
      · intro a x13 e14 W Q Z; exact step_is (fun _ h => op_plain rfl rfl h) (run_move rfl (ev e14))
      · intro a x16 e17 e18 W Q Z; exact step_is (fun _ h => op_want rfl rfl rfl e17 h) (run_load4 rfl (ev e18) (Z.bx 1 rfl))
      · intro a x20 e21 e22 W Q Z; exact step_is (fun _ h => op_want rfl rfl rfl e21 h) (run_load4 rfl (ev e22) (Z.bx 3 rfl))
      · intro a x24 e25 e26 W Q Z; exact step_is (fun _ h => op_want rfl rfl rfl e25 h) (run_load4 rfl (ev e26) (Z.bx 2 rfl))
      · intro a x28 e29 x30 e31 x32 e33 W Q Z; exact step_call (fun _ h => op_want rfl rfl rfl e29 h) rfl Try.func29 rfl rfl (args2 (ev e31) (ev e33)) (Z.callQ (trammelref03_Mul.sem (N0n _ _ (Z.rd 4 rfl)) (N0d _ _ (Z.rd 5 rfl)) (N1n _ _ (Z.rd 6 rfl)) (N1d _ _ (Z.rd 7 rfl)) (Bd.mono F0n (by decide)) (Bd.mono F0d (by decide)) (Bd.mono F1n (by decide)) (Bd.mono F1d (by decide)) (pos_ne H.1) (pos_ne H.2)))
      · intro a x35 e36 x37 e38 x39 e40 W Q Z; exact step_call (fun _ h => op_want rfl rfl rfl e36 h) rfl Try.func15 rfl rfl (args2 (ev e38) (ev e40)) (Z.callV (sameQ (z1 := qn ((x0n) * (x1n)) ((x0d) * (x1d))) (z2 := qn ((x0n) * (x1n)) ((x0d) * (x1d))) (y1 := qd ((x0n) * (x1n)) ((x0d) * (x1d))) (y2 := qd ((x0n) * (x1n)) ((x0d) * (x1d))) (Z.rdO 4 rfl) (Z.rdO 5 rfl) (Z.rdO 0 rfl) (Z.rdO 1 rfl) (Bd.fm (Bd.abs (Bd.qn (Bd.mul F0n F1n))) (by decide)) (Bd.fm (Bd.abs (Bd.qd (Bd.mul F0d F1d))) (by decide)) rfl rfl))
      · intro a x42 e43 x44 e45 W Q Z; exact step_is (fun _ h => op_want rfl rfl rfl e43 h) (run_not rfl (ev e45))
      · intro a x47 e48 x49 e50 W Q Z; exact step_is (fun _ h => op_plain rfl rfl h) (run_pickF rfl (ev e48) (ev e50))
      clear Z; intro x9 x12 x15 x19 x23 x27 x34 x41 x46 x51 W Z
      (try simp only [Act.put, List.setIfInBounds_toArray, List.set_cons_zero, List.set_cons_succ])
      show Code.wp _ _ _ _ _
      refine wp_cond_false rfl ?_
      refine wp_skip ?_
      show Code.wp _ _ _ _ _
      refine wp_seq ?_
      refine wp_seq ?_
      refine wp_region_list ?_
      refine seq_is (v := .pointer (some ⟨g2, 0, none⟩)) rfl (run_fieldR0 rfl rfl) ?_
      (try simp only [Act.put, List.setIfInBounds_toArray, List.set_cons_zero, List.set_cons_succ])
      refine seq_is (v := .agg #[.bool (b1n), .slice a1n len1n cap1n]) rfl (run_loadNum rfl rfl (Z.bx 2 rfl)) ?_
      (try simp only [Act.put, List.setIfInBounds_toArray, List.set_cons_zero, List.set_cons_succ])
      refine seq_call Z rfl rfl Try.func14 rfl rfl (args1 rfl) (Z.callV (trammelref02_Sign.sem (N1n _ _ (Z.rd 8 rfl)) (Bd.fm (Bd.abs F1n) (by decide)) )) ?_; clear Z; intro x52 W Z
      (try simp only [Act.put, List.setIfInBounds_toArray, List.set_cons_zero, List.set_cons_succ])
      refine seq_is (v := .bool (decide (((x1n).sign) = (0)))) rfl (run_eql rfl rfl rfl) ?_
      (try simp only [Act.put, List.setIfInBounds_toArray, List.set_cons_zero, List.set_cons_succ])
      show Code.wp _ _ _ _ _
      refine wp_cond_false ((show _ = Value.bool (decide (((x1n).sign) = (0))) from rfl).trans (congrArg Value.bool (sign0_f h3))) ?_
      refine wp_skip ?_
      show Code.wp _ _ _ _ _
      refine wp_seq ?_
      refine wp_dag (pre := [_, _, _, _, _, _, _, _, _, _, _, _, _]) (sps := [.is (.int .i64 (0)), .is (.bool (decide ((0 : Int) = (0)))), .is (.bool (decide ((0 : Int) = (0)))), .is (.agg #[.bool (decide (qn ((x0n) * (x1d)) ((x0d) * (x1n)) < 0)), x5.1.v, .bool (decide (qd ((x0n) * (x1d)) ((x0d) * (x1n)) < 0)), x5.2.v]), .is (.agg #[.bool (b0n), .slice a0n len0n cap0n, .bool (b0d), .slice a0d len0d cap0d]), .is (.agg #[.bool (b1n), .slice a1n len1n cap1n, .bool (b1d), .slice a1d len1d cap1d]), spQ w (qn ((x0n) * (x1d)) ((x0d) * (x1n))) (qd ((x0n) * (x1d)) ((x0d) * (x1n))), .is (.bool (true)), .is (.bool (tt)), .is (.bool (tt)), .is (.bool (true)), .is (.bool (tt)), .is (.bool (tt))]) Z (by kernel_rfl) _ rfl (by kernel_rfl) (by kernel_rfl) rfl ⟨?_, ?_, ?_, ?_, ?_, ?_, ?_, ?_, ?_, ?_, ?_, ?_, ?_, trivial⟩ ?_
      · intro a e53 W Q Z; exact step_is (fun _ h => op_plain rfl rfl h) (run_move rfl (ev e53))
      · intro a x55 e56 W Q Z; exact step_is (fun _ h => op_plain rfl rfl h) (run_eqlE rfl (ev e56) rfl)
      · intro a x58 e59 W Q Z; exact step_is (fun _ h => op_plain rfl rfl h) (run_move rfl (ev e59))
      · intro a x61 e62 e63 W Q Z; exact step_is (fun _ h => op_want rfl rfl rfl e62 h) (run_load4 rfl (ev e63) (Z.bx 0 rfl))
      · intro a x65 e66 e67 W Q Z; exact step_is (fun _ h => op_want rfl rfl rfl e66 h) (run_load4 rfl (ev e67) (Z.bx 3 rfl))
      · intro a x69 e70 e71 W Q Z; exact step_is (fun _ h => op_want rfl rfl rfl e70 h) (run_load4 rfl (ev e71) (Z.bx 2 rfl))
      · intro a x73 e74 x75 e76 x77 e78 W Q Z; exact step_call (fun _ h => op_want rfl rfl rfl e74 h) rfl Try.func30 rfl rfl (args2 (ev e76) (ev e78)) (Z.callQ (trammelref03_Div.sem (N0n _ _ (Z.rd 6 rfl)) (N0d _ _ (Z.rd 7 rfl)) (N1n _ _ (Z.rd 8 rfl)) (N1d _ _ (Z.rd 9 rfl)) (Bd.mono F0n (by decide)) (Bd.mono F0d (by decide)) (Bd.mono F1n (by decide)) (Bd.mono F1d (by decide)) (pos_ne H.1) h3))
      · intro a x80 e81 x82 e83 x84 e85 W Q Z; exact step_call (fun _ h => op_want rfl rfl rfl e81 h) rfl Try.func15 rfl rfl (args2 (ev e83) (ev e85)) (Z.callV (sameQ (z1 := qn ((x0n) * (x1d)) ((x0d) * (x1n))) (z2 := qn ((x0n) * (x1d)) ((x0d) * (x1n))) (y1 := qd ((x0n) * (x1d)) ((x0d) * (x1n))) (y2 := qd ((x0n) * (x1d)) ((x0d) * (x1n))) (Z.rdO 4 rfl) (Z.rdO 5 rfl) (Z.rdO 0 rfl) (Z.rdO 1 rfl) (Bd.fm (Bd.abs (Bd.qn (Bd.mul F0n F1d))) (by decide)) (Bd.fm (Bd.abs (Bd.qd (Bd.mul F0d F1n))) (by decide)) rfl rfl))
      · intro a x87 e88 x89 e90 W Q Z; exact step_is (fun _ h => op_plain rfl rfl h) (run_castR (run_pickT rfl (ev e88) (ev e90)) htt.symm)
      · intro a x92 e93 W Q Z; exact step_is (fun _ h => op_plain rfl rfl h) (run_move rfl (ev e93))
      · intro a x95 e96 W Q Z; exact step_call (fun _ h => op_want rfl rfl rfl (e96.trans (congrArg some (congrArg Value.bool htt))) h) rfl Try.func16 rfl rfl (show Array.map _ #[] = #[] by simp) (Z.callV (trammellaw03_awake.sem _))
      · intro a x98 e99 x100 e101 W Q Z; exact step_is (fun _ h => op_plain rfl rfl h) (run_castR (run_pickT rfl ((show _ = Value.bool (tt) from (ev e99)).trans (congrArg Value.bool htt)) (ev e101)) htt.symm)
      · intro a x103 e104 W Q Z; exact step_is (fun _ h => op_plain rfl rfl h) (run_assign rfl (ev e104))
      clear Z; intro x54 x57 x60 x64 x68 x72 x79 x86 x91 x94 x97 x102 x105 W Z
      (try simp only [Act.put, List.setIfInBounds_toArray, List.set_cons_zero, List.set_cons_succ])
      show Code.wp _ _ _ _ _
      refine wp_ret ?_
      exact Z.endsV rfl rfl rfl (by first | rfl | exact (congrArg Value.bool htt) | simp)
  · go_enter Try.func7, Try.ntmps7
    refine wp_seq ?_
    refine wp_region_list ?_
    refine seq_box4 Z rfl rfl rfl ?_; clear Z; intro g1 W Z
    (try simp only [Act.put, List.setIfInBounds_toArray, List.set_cons_zero, List.set_cons_succ])
    refine seq_box4 Z rfl rfl rfl ?_; clear Z; intro g2 W Z
    (try simp only [Act.put, List.setIfInBounds_toArray, List.set_cons_zero, List.set_cons_succ])
    refine seq_is (v := .bool (false)) rfl (run_assign rfl rfl) ?_
    (try simp only [Act.put, List.setIfInBounds_toArray, List.set_cons_zero, List.set_cons_succ])
    show Code.wp _ _ _ _ _
    refine wp_seq ?_
    refine wp_region_list ?_
    refine seq_is (v := .agg #[.bool (b0n), .slice a0n len0n cap0n, .bool (b0d), .slice a0d len0d cap0d]) rfl (run_load4 rfl rfl (Z.bx 1 rfl)) ?_
    (try simp only [Act.put, List.setIfInBounds_toArray, List.set_cons_zero, List.set_cons_succ])
    refine seq_is (v := .agg #[.bool (b1n), .slice a1n len1n cap1n, .bool (b1d), .slice a1d len1d cap1d]) rfl (run_load4 rfl rfl (Z.bx 0 rfl)) ?_
    (try simp only [Act.put, List.setIfInBounds_toArray, List.set_cons_zero, List.set_cons_succ])
    refine seq_call Z rfl rfl Try.func27 rfl rfl (args2 rfl rfl) (Z.callQi (rat_Mul.semF (N0n _ _ (Z.rd 0 rfl)) (N0d _ _ (Z.rd 1 rfl)) (N1n _ _ (Z.rd 2 rfl)) (N1d _ _ (Z.rd 3 rfl)) H)) ?_; clear Z; intro x3 W Z
    (try simp only [Act.put, List.setIfInBounds_toArray, List.set_cons_zero, List.set_cons_succ])
    refine seq_is (v := .tuple #[.agg #[.bool (decide (0 < 0)), x3.1.v, .bool (decide (0 < 0)), x3.2.v], .int .i64 (30)]) rfl (run_move rfl rfl) ?_
    (try simp only [Act.put, List.setIfInBounds_toArray, List.set_cons_zero, List.set_cons_succ])
    refine seq_is (v := .agg #[.bool (decide (0 < 0)), x3.1.v, .bool (decide (0 < 0)), x3.2.v]) rfl (run_extract rfl rfl rfl) ?_
    (try simp only [Act.put, List.setIfInBounds_toArray, List.set_cons_zero, List.set_cons_succ])
    refine seq_is (v := .int .i64 (30)) rfl (run_extract rfl rfl rfl) ?_
    (try simp only [Act.put, List.setIfInBounds_toArray, List.set_cons_zero, List.set_cons_succ])
    refine seq_alloc4 Z rfl rfl ?_; clear Z; intro g4 W Z
    (try simp only [Act.put, List.setIfInBounds_toArray, List.set_cons_zero, List.set_cons_succ])
    refine seq_store4 Z 0 rfl rfl rfl rfl rfl ?_; clear Z; intro W Z
    (try simp only [Act.put, List.setIfInBounds_toArray, List.set_cons_zero, List.set_cons_succ])
    refine seq_is (v := .int .i64 (30)) rfl (run_assign rfl rfl) ?_
    (try simp only [Act.put, List.setIfInBounds_toArray, List.set_cons_zero, List.set_cons_succ])
    show Code.wp _ _ _ _ _
    refine wp_seq ?_
    refine wp_region_list ?_
    refine seq_is (v := .agg #[.bool (b0n), .slice a0n len0n cap0n, .bool (b0d), .slice a0d len0d cap0d]) rfl (run_load4 rfl rfl (Z.bx 2 rfl)) ?_
    (try simp only [Act.put, List.setIfInBounds_toArray, List.set_cons_zero, List.set_cons_succ])
    refine seq_is (v := .agg #[.bool (b1n), .slice a1n len1n cap1n, .bool (b1d), .slice a1d len1d cap1d]) rfl (run_load4 rfl rfl (Z.bx 1 rfl)) ?_
    (try simp only [Act.put, List.setIfInBounds_toArray, List.set_cons_zero, List.set_cons_succ])
    refine seq_call Z rfl rfl Try.func28 rfl rfl (args2 rfl rfl) (Z.callQi (rat_Div.semF (N0n _ _ (Z.rd 2 rfl)) (N0d _ _ (Z.rd 3 rfl)) (N1n _ _ (Z.rd 4 rfl)) (N1d _ _ (Z.rd 5 rfl)) H)) ?_; clear Z; intro x5 W Z
    (try simp only [Act.put, List.setIfInBounds_toArray, List.set_cons_zero, List.set_cons_succ])
    refine seq_is (v := .tuple #[.agg #[.bool (decide (0 < 0)), x5.1.v, .bool (decide (0 < 0)), x5.2.v], .int .i64 (30)]) rfl (run_move rfl rfl) ?_
    (try simp only [Act.put, List.setIfInBounds_toArray, List.set_cons_zero, List.set_cons_succ])
    refine seq_is (v := .agg #[.bool (decide (0 < 0)), x5.1.v, .bool (decide (0 < 0)), x5.2.v]) rfl (run_extract rfl rfl rfl) ?_
    (try simp only [Act.put, List.setIfInBounds_toArray, List.set_cons_zero, List.set_cons_succ])
    refine seq_is (v := .int .i64 (30)) rfl (run_extract rfl rfl rfl) ?_
    (try simp only [Act.put, List.setIfInBounds_toArray, List.set_cons_zero, List.set_cons_succ])
    refine seq_alloc4 Z rfl rfl ?_; clear Z; intro g6 W Z
    (try simp only [Act.put, List.setIfInBounds_toArray, List.set_cons_zero, List.set_cons_succ])
    refine seq_store4 Z 0 rfl rfl rfl rfl rfl ?_; clear Z; intro W Z
    (try simp only [Act.put, List.setIfInBounds_toArray, List.set_cons_zero, List.set_cons_succ])
    refine seq_is (v := .int .i64 (30)) rfl (run_assign rfl rfl) ?_
    (try simp only [Act.put, List.setIfInBounds_toArray, List.set_cons_zero, List.set_cons_succ])
    show Code.wp _ _ _ _ _
    refine wp_seq ?_
    refine wp_seq ?_
    refine wp_region_list ?_
    refine seq_is (v := .agg #[.bool (b0n), .slice a0n len0n cap0n, .bool (b0d), .slice a0d len0d cap0d]) rfl (run_load4 rfl rfl (Z.bx 3 rfl)) ?_
    (try simp only [Act.put, List.setIfInBounds_toArray, List.set_cons_zero, List.set_cons_succ])
    refine seq_is (v := .agg #[.bool (b1n), .slice a1n len1n cap1n, .bool (b1d), .slice a1d len1d cap1d]) rfl (run_load4 rfl rfl (Z.bx 2 rfl)) ?_
    (try simp only [Act.put, List.setIfInBounds_toArray, List.set_cons_zero, List.set_cons_succ])
    refine seq_call Z rfl rfl Try.func21 rfl rfl (args2 rfl rfl) (Z.callV (trammellaw03_both.sem (N0n _ _ (Z.rd 4 rfl)) (N0d _ _ (Z.rd 5 rfl)) (N1n _ _ (Z.rd 6 rfl)) (N1d _ _ (Z.rd 7 rfl)) (Bd.mono F0d (by decide)) (Bd.mono F1d (by decide)))) ?_; clear Z; intro x7 W Z
    (try simp only [Act.put, List.setIfInBounds_toArray, List.set_cons_zero, List.set_cons_succ])
    refine seq_is (v := .bool (!(okB2 (x0d) (x1d)))) rfl (run_not rfl rfl) ?_
    (try simp only [Act.put, List.setIfInBounds_toArray, List.set_cons_zero, List.set_cons_succ])
    show Code.wp _ _ _ _ _
    refine wp_cond_true ((show _ = Value.bool (!(okB2 (x0d) (x1d))) from rfl).trans (congrArg Value.bool (congrArg Bool.not (okB2_f H)))) ?_
    refine wp_seq ?_
    refine wp_region_list ?_
    refine seq_is (v := .int .i64 (30)) rfl (run_move rfl rfl) ?_
    (try simp only [Act.put, List.setIfInBounds_toArray, List.set_cons_zero, List.set_cons_succ])
    refine seq_is (v := .bool (decide ((30 : Int) = (30)))) rfl (run_eqlE rfl rfl rfl) ?_
    (try simp only [Act.put, List.setIfInBounds_toArray, List.set_cons_zero, List.set_cons_succ])
    refine seq_is (v := .bool (decide ((30 : Int) = (30)))) rfl (run_move rfl rfl) ?_
    (try simp only [Act.put, List.setIfInBounds_toArray, List.set_cons_zero, List.set_cons_succ])
    refine list_want rfl rfl (congrArg some (congrArg Value.bool (Eq.refl true))) (wp_run (v := .int .i64 (30)) (run_move rfl rfl) ?_)
    (try simp only [Act.put, List.setIfInBounds_toArray, List.set_cons_zero, List.set_cons_succ])
    refine list_want rfl rfl (congrArg some (congrArg Value.bool (Eq.refl true))) (wp_run (v := .bool (decide ((30 : Int) = (30)))) (run_eqlE rfl rfl rfl) ?_)
    (try simp only [Act.put, List.setIfInBounds_toArray, List.set_cons_zero, List.set_cons_succ])
    refine seq_is (v := .bool (decide ((30 : Int) = (30)))) rfl (run_pickT rfl rfl rfl) ?_
    (try simp only [Act.put, List.setIfInBounds_toArray, List.set_cons_zero, List.set_cons_succ])
    refine seq_is (v := .bool (decide ((30 : Int) = (30)))) rfl (run_move rfl rfl) ?_
    (try simp only [Act.put, List.setIfInBounds_toArray, List.set_cons_zero, List.set_cons_succ])
    refine list_want rfl rfl (congrArg some (congrArg Value.bool (Eq.refl true))) (wp_run (v := .agg #[.bool (decide (0 < 0)), x3.1.v, .bool (decide (0 < 0)), x3.2.v]) (run_load4 rfl rfl (Z.bx 1 rfl)) ?_)
    (try simp only [Act.put, List.setIfInBounds_toArray, List.set_cons_zero, List.set_cons_succ])
    refine list_want rfl rfl (congrArg some (congrArg Value.bool (Eq.refl true))) (wp_run (v := .agg #[.bool (false), .slice none 0 0, .bool (false), .slice none 0 0]) (run_buildR0 rfl) ?_)
    (try simp only [Act.put, List.setIfInBounds_toArray, List.set_cons_zero, List.set_cons_succ])
    refine seq_callw Z (fun h => list_want rfl rfl (congrArg some (congrArg Value.bool (Eq.refl true))) h) rfl Try.func15 rfl rfl (args2 rfl rfl) (Z.callV (sameQ (z1 := 0) (z2 := 0) (y1 := 0) (y2 := 0) (Z.rdO 2 rfl) (Z.rdO 3 rfl) (Rd_nil0 _) (Rd_nil0 _) (Bd.fm (Bd.abs (Bd.lit (k := 64) (z := 0) (by decide))) (by decide)) (Bd.fm (Bd.abs (Bd.lit (k := 64) (z := 0) (by decide))) (by decide)) rfl rfl)) ?_; clear Z; intro x8 W Z
    (try simp only [Act.put, List.setIfInBounds_toArray, List.set_cons_zero, List.set_cons_succ])
    refine seq_is (v := .bool (tt)) rfl (run_castR (run_pickT rfl rfl rfl) htt.symm) ?_
    (try simp only [Act.put, List.setIfInBounds_toArray, List.set_cons_zero, List.set_cons_succ])
    refine seq_is (v := .bool (tt)) rfl (run_move rfl rfl) ?_
    (try simp only [Act.put, List.setIfInBounds_toArray, List.set_cons_zero, List.set_cons_succ])
    refine list_want rfl rfl (congrArg some (congrArg Value.bool htt)) (wp_run (v := .agg #[.bool (decide (0 < 0)), x5.1.v, .bool (decide (0 < 0)), x5.2.v]) (run_load4 rfl rfl (Z.bx 0 rfl)) ?_)
    (try simp only [Act.put, List.setIfInBounds_toArray, List.set_cons_zero, List.set_cons_succ])
    refine list_want rfl rfl (congrArg some (congrArg Value.bool htt)) (wp_run (v := .agg #[.bool (false), .slice none 0 0, .bool (false), .slice none 0 0]) (run_buildR0 rfl) ?_)
    (try simp only [Act.put, List.setIfInBounds_toArray, List.set_cons_zero, List.set_cons_succ])
    refine seq_callw Z (fun h => list_want rfl rfl (congrArg some (congrArg Value.bool htt)) h) rfl Try.func15 rfl rfl (args2 rfl rfl) (Z.callV (sameQ (z1 := 0) (z2 := 0) (y1 := 0) (y2 := 0) (Z.rdO 0 rfl) (Z.rdO 1 rfl) (Rd_nil0 _) (Rd_nil0 _) (Bd.fm (Bd.abs (Bd.lit (k := 64) (z := 0) (by decide))) (by decide)) (Bd.fm (Bd.abs (Bd.lit (k := 64) (z := 0) (by decide))) (by decide)) rfl rfl)) ?_; clear Z; intro x9 W Z
    (try simp only [Act.put, List.setIfInBounds_toArray, List.set_cons_zero, List.set_cons_succ])
    refine seq_is (v := .bool (tt)) rfl (run_castR (run_pickT rfl ((show _ = Value.bool (tt) from rfl).trans (congrArg Value.bool htt)) rfl) htt.symm) ?_
    (try simp only [Act.put, List.setIfInBounds_toArray, List.set_cons_zero, List.set_cons_succ])
    refine seq_is (v := .bool (tt)) rfl (run_move rfl rfl) ?_
    (try simp only [Act.put, List.setIfInBounds_toArray, List.set_cons_zero, List.set_cons_succ])
    refine seq_callw Z (fun h => list_want rfl rfl (congrArg some (congrArg Value.bool htt)) h) rfl Try.func16 rfl rfl (show Array.map _ #[] = #[] by simp) (Z.callV (trammellaw03_awake.sem _)) ?_; clear Z; intro x10 W Z
    (try simp only [Act.put, List.setIfInBounds_toArray, List.set_cons_zero, List.set_cons_succ])
    refine seq_is (v := .bool (tt)) rfl (run_castR (run_pickT rfl ((show _ = Value.bool (tt) from rfl).trans (congrArg Value.bool htt)) rfl) htt.symm) ?_
    (try simp only [Act.put, List.setIfInBounds_toArray, List.set_cons_zero, List.set_cons_succ])
    refine seq_is (v := .bool (tt)) rfl (run_assign rfl rfl) ?_
    (try simp only [Act.put, List.setIfInBounds_toArray, List.set_cons_zero, List.set_cons_succ])
    show Code.wp _ _ _ _ _
    refine wp_ret ?_
    exact Z.endsV rfl rfl rfl (by first | rfl | exact (congrArg Value.bool htt) | simp)

end Go.Proofs.Ytndopanohhdfgaa.PA

