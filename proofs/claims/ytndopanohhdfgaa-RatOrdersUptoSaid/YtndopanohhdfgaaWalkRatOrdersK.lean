/- The walk of the law RatOrders: what its code answers for arguments of a bulk of at most 1048576. -/
import Derived.Outline
import Derived.Test.YtndopanohhdfgaaZsumsK
import Derived.Test.YtndopanohhdfgaaZBulkRK
import Derived.Test.YtndopanohhdfgaaPAx0K
namespace Go.Proofs.Ytndopanohhdfgaa.PA
open Go Go.Proofs.Ytndopanohhdfgaa.Nums Go.RowKit Go.Proofs.YtndopanohhdfgaaW.PrintWords Go.Proofs.YtndopanohhdfgaaW.PrintLast Go.Proofs.YtndopanohhdfgaaW.PrintMore
set_option linter.unusedVariables false
set_option linter.unusedSimpArgs false
set_option maxHeartbeats 8000000 in
set_option maxRecDepth 100000 in
theorem trammellaw03_RatOrders.walk (b0n : Bool) (a0n : Option Addr) (len0n cap0n : Nat) (q0n : List Int) (b0d : Bool) (a0d : Option Addr) (len0d cap0d : Nat) (q0d : List Int) (b1n : Bool) (a1n : Option Addr) (len1n cap1n : Nat) (q1n : List Int) (b1d : Bool) (a1d : Option Addr) (len1d cap1d : Nat) (q1d : List Int) (w : World) (w0n : bulks.IsRow .u32 w a0n len0n cap0n q0n) (y0n : len0n ≤ 1048576) (w0d : bulks.IsRow .u32 w a0d len0d cap0d q0d) (y0d : len0d ≤ 1048576) (w1n : bulks.IsRow .u32 w a1n len1n cap1n q1n) (y1n : len1n ≤ 1048576) (w1d : bulks.IsRow .u32 w a1d len1d cap1d q1d) (y1d : len1d ≤ 1048576) : Calls Try.prog 5 #[.agg #[.bool b0n, .slice a0n len0n cap0n, .bool b0d, .slice a0d len0d cap0d], .agg #[.bool b1n, .slice a1n len1n cap1n, .bool b1d, .slice a1d len1d cap1d]] w (RetV w (.bool true)) := by
  obtain ⟨l0n, r0n, o0n, hl0n⟩ := row_rd w0n y0n
  obtain ⟨x0n, N0n, F0n, hx0n⟩ := arg_num (b := b0n) o0n hl0n
  obtain ⟨l0d, r0d, o0d, hl0d⟩ := row_rd w0d y0d
  obtain ⟨x0d, N0d, F0d, hx0d⟩ := arg_num (b := b0d) o0d hl0d
  obtain ⟨l1n, r1n, o1n, hl1n⟩ := row_rd w1n y1n
  obtain ⟨x1n, N1n, F1n, hx1n⟩ := arg_num (b := b1n) o1n hl1n
  obtain ⟨l1d, r1d, o1d, hl1d⟩ := row_rd w1d y1d
  obtain ⟨x1d, N1d, F1d, hx1d⟩ := arg_num (b := b1d) o1d hl1d
  have Z := Zt.start w (r0n.has.append (r0d.has.append (r1n.has.append r1d.has)))
  obtain ⟨tt, htt⟩ : ∃ b : Bool, b = true := ⟨true, rfl⟩
  obtain ⟨ff, hff⟩ : ∃ b : Bool, b = false := ⟨false, rfl⟩
  rcases (Classical.em (0 < x0d ∧ 0 < x1d)) with H | H
  · go_enter Try.func5, Try.ntmps5
    refine wp_seq ?_
    refine wp_region_list ?_
    refine seq_box4 Z rfl rfl rfl ?_; clear Z; intro g1 W Z
    (try simp only [Act.put, List.setIfInBounds_toArray, List.set_cons_zero, List.set_cons_succ])
    refine seq_box4 Z rfl rfl rfl ?_; clear Z; intro g2 W Z
    (try simp only [Act.put, List.setIfInBounds_toArray, List.set_cons_zero, List.set_cons_succ])
    refine seq_is (v := .bool (false)) rfl (run_assign rfl rfl) ?_
    (try simp only [Act.put, List.setIfInBounds_toArray, List.set_cons_zero, List.set_cons_succ])
    show Code.wp _ _ _ _ _
    refine wp_seq ?_
    refine wp_region_list ?_
    refine seq_is (v := .agg #[.bool (b0n), .slice a0n len0n cap0n, .bool (b0d), .slice a0d len0d cap0d]) rfl (run_load4 rfl rfl (Z.bx 1 rfl)) ?_
    (try simp only [Act.put, List.setIfInBounds_toArray, List.set_cons_zero, List.set_cons_succ])
    refine seq_is (v := .agg #[.bool (b1n), .slice a1n len1n cap1n, .bool (b1d), .slice a1d len1d cap1d]) rfl (run_load4 rfl rfl (Z.bx 0 rfl)) ?_
    (try simp only [Act.put, List.setIfInBounds_toArray, List.set_cons_zero, List.set_cons_succ])
    refine seq_call Z rfl rfl Try.func20 rfl rfl (args2 rfl rfl) (Z.callV (rat_Cmp.sem (N0n _ _ (Z.rd 0 rfl)) (N0d _ _ (Z.rd 1 rfl)) (N1n _ _ (Z.rd 2 rfl)) (N1d _ _ (Z.rd 3 rfl)) (Bd.mono F0n (by decide)) (Bd.mono F0d (by decide)) (Bd.mono F1n (by decide)) (Bd.mono F1d (by decide)) H.1 H.2)) ?_; clear Z; intro x3 W Z
    (try simp only [Act.put, List.setIfInBounds_toArray, List.set_cons_zero, List.set_cons_succ])
    refine seq_is (v := .tuple #[.int .i64 (cmp ((x0n) * (x1d)) ((x1n) * (x0d))), .int .i64 (0)]) rfl (run_move rfl rfl) ?_
    (try simp only [Act.put, List.setIfInBounds_toArray, List.set_cons_zero, List.set_cons_succ])
    refine seq_is (v := .int .i64 (cmp ((x0n) * (x1d)) ((x1n) * (x0d)))) rfl (run_extract rfl rfl rfl) ?_
    (try simp only [Act.put, List.setIfInBounds_toArray, List.set_cons_zero, List.set_cons_succ])
    refine seq_is (v := .int .i64 (0)) rfl (run_extract rfl rfl rfl) ?_
    (try simp only [Act.put, List.setIfInBounds_toArray, List.set_cons_zero, List.set_cons_succ])
    refine seq_is (v := .int .i64 (cmp ((x0n) * (x1d)) ((x1n) * (x0d)))) rfl (run_assign rfl rfl) ?_
    (try simp only [Act.put, List.setIfInBounds_toArray, List.set_cons_zero, List.set_cons_succ])
    refine seq_is (v := .int .i64 (0)) rfl (run_assign rfl rfl) ?_
    (try simp only [Act.put, List.setIfInBounds_toArray, List.set_cons_zero, List.set_cons_succ])
    show Code.wp _ _ _ _ _
    refine wp_seq ?_
    refine wp_seq ?_
    refine wp_region_list ?_
    refine seq_is (v := .agg #[.bool (b0n), .slice a0n len0n cap0n, .bool (b0d), .slice a0d len0d cap0d]) rfl (run_load4 rfl rfl (Z.bx 1 rfl)) ?_
    (try simp only [Act.put, List.setIfInBounds_toArray, List.set_cons_zero, List.set_cons_succ])
    refine seq_is (v := .agg #[.bool (b1n), .slice a1n len1n cap1n, .bool (b1d), .slice a1d len1d cap1d]) rfl (run_load4 rfl rfl (Z.bx 0 rfl)) ?_
    (try simp only [Act.put, List.setIfInBounds_toArray, List.set_cons_zero, List.set_cons_succ])
    refine seq_call Z rfl rfl Try.func21 rfl rfl (args2 rfl rfl) (Z.callV (trammellaw03_both.sem (N0n _ _ (Z.rd 0 rfl)) (N0d _ _ (Z.rd 1 rfl)) (N1n _ _ (Z.rd 2 rfl)) (N1d _ _ (Z.rd 3 rfl)) (Bd.mono F0d (by decide)) (Bd.mono F1d (by decide)))) ?_; clear Z; intro x4 W Z
    (try simp only [Act.put, List.setIfInBounds_toArray, List.set_cons_zero, List.set_cons_succ])
    refine seq_is (v := .bool (!(okB2 (x0d) (x1d)))) rfl (run_not rfl rfl) ?_
    (try simp only [Act.put, List.setIfInBounds_toArray, List.set_cons_zero, List.set_cons_succ])
    show Code.wp _ _ _ _ _
    refine wp_cond_false ((show _ = Value.bool (!(okB2 (x0d) (x1d))) from rfl).trans (congrArg Value.bool (congrArg Bool.not (okB2_t H)))) ?_
    refine wp_skip ?_
    show Code.wp _ _ _ _ _
    refine wp_seq ?_
    refine wp_region_list ?_
    refine seq_is (v := .int .i64 (0)) rfl (run_move rfl rfl) ?_
    (try simp only [Act.put, List.setIfInBounds_toArray, List.set_cons_zero, List.set_cons_succ])
    refine seq_is (v := .bool (decide ((0 : Int) = (0)))) rfl (run_eqlE rfl rfl rfl) ?_
    (try simp only [Act.put, List.setIfInBounds_toArray, List.set_cons_zero, List.set_cons_succ])
    refine seq_is (v := .bool (decide ((0 : Int) = (0)))) rfl (run_move rfl rfl) ?_
    (try simp only [Act.put, List.setIfInBounds_toArray, List.set_cons_zero, List.set_cons_succ])
    refine list_want rfl rfl (congrArg some (congrArg Value.bool (Eq.refl true))) (wp_run (v := .int .i64 (cmp ((x0n) * (x1d)) ((x1n) * (x0d)))) (run_move rfl rfl) ?_)
    (try simp only [Act.put, List.setIfInBounds_toArray, List.set_cons_zero, List.set_cons_succ])
    refine list_want rfl rfl (congrArg some (congrArg Value.bool (Eq.refl true))) (wp_run (v := .agg #[.bool (b0n), .slice a0n len0n cap0n, .bool (b0d), .slice a0d len0d cap0d]) (run_load4 rfl rfl (Z.bx 1 rfl)) ?_)
    (try simp only [Act.put, List.setIfInBounds_toArray, List.set_cons_zero, List.set_cons_succ])
    refine list_want rfl rfl (congrArg some (congrArg Value.bool (Eq.refl true))) (wp_run (v := .agg #[.bool (b1n), .slice a1n len1n cap1n, .bool (b1d), .slice a1d len1d cap1d]) (run_load4 rfl rfl (Z.bx 0 rfl)) ?_)
    (try simp only [Act.put, List.setIfInBounds_toArray, List.set_cons_zero, List.set_cons_succ])
    refine seq_callw Z (fun h => list_want rfl rfl (congrArg some (congrArg Value.bool (Eq.refl true))) h) rfl Try.func22 rfl rfl (args2 rfl rfl) (Z.callV (trammelref03_Cmp.semc (N0n _ _ (Z.rd 0 rfl)) (N0d _ _ (Z.rd 1 rfl)) (N1n _ _ (Z.rd 2 rfl)) (N1d _ _ (Z.rd 3 rfl)) (Bd.mono F0n (by decide)) (Bd.mono F0d (by decide)) (Bd.mono F1n (by decide)) (Bd.mono F1d (by decide)) H.1 H.2)) ?_; clear Z; intro x5 W Z
    (try simp only [Act.put, List.setIfInBounds_toArray, List.set_cons_zero, List.set_cons_succ])
    refine list_want rfl rfl (congrArg some (congrArg Value.bool (Eq.refl true))) (wp_run (v := .bool (true)) (run_castR (run_eql rfl rfl rfl) (decide_eq_true rfl)) ?_)
    (try simp only [Act.put, List.setIfInBounds_toArray, List.set_cons_zero, List.set_cons_succ])
    refine seq_is (v := .bool (tt)) rfl (run_castR (run_pickT rfl rfl rfl) htt.symm) ?_
    (try simp only [Act.put, List.setIfInBounds_toArray, List.set_cons_zero, List.set_cons_succ])
    refine seq_is (v := .bool (tt)) rfl (run_move rfl rfl) ?_
    (try simp only [Act.put, List.setIfInBounds_toArray, List.set_cons_zero, List.set_cons_succ])
    refine seq_callw Z (fun h => list_want rfl rfl (congrArg some (congrArg Value.bool htt)) h) rfl Try.func16 rfl rfl (show Array.map _ #[] = #[] by simp) (Z.callV (trammellaw03_awake.sem _)) ?_; clear Z; intro x6 W Z
    (try simp only [Act.put, List.setIfInBounds_toArray, List.set_cons_zero, List.set_cons_succ])
    refine seq_is (v := .bool (tt)) rfl (run_castR (run_pickT rfl ((show _ = Value.bool (tt) from rfl).trans (congrArg Value.bool htt)) rfl) htt.symm) ?_
    (try simp only [Act.put, List.setIfInBounds_toArray, List.set_cons_zero, List.set_cons_succ])
    refine seq_is (v := .bool (tt)) rfl (run_assign rfl rfl) ?_
    (try simp only [Act.put, List.setIfInBounds_toArray, List.set_cons_zero, List.set_cons_succ])
    show Code.wp _ _ _ _ _
    refine wp_ret ?_
    exact Z.endsV rfl rfl rfl (by first | rfl | exact (congrArg Value.bool htt) | simp)
  · go_enter Try.func5, Try.ntmps5
    refine wp_seq ?_
    refine wp_region_list ?_
    refine seq_box4 Z rfl rfl rfl ?_; clear Z; intro g1 W Z
    (try simp only [Act.put, List.setIfInBounds_toArray, List.set_cons_zero, List.set_cons_succ])
    refine seq_box4 Z rfl rfl rfl ?_; clear Z; intro g2 W Z
    (try simp only [Act.put, List.setIfInBounds_toArray, List.set_cons_zero, List.set_cons_succ])
    refine seq_is (v := .bool (false)) rfl (run_assign rfl rfl) ?_
    (try simp only [Act.put, List.setIfInBounds_toArray, List.set_cons_zero, List.set_cons_succ])
    show Code.wp _ _ _ _ _
    refine wp_seq ?_
    refine wp_region_list ?_
    refine seq_is (v := .agg #[.bool (b0n), .slice a0n len0n cap0n, .bool (b0d), .slice a0d len0d cap0d]) rfl (run_load4 rfl rfl (Z.bx 1 rfl)) ?_
    (try simp only [Act.put, List.setIfInBounds_toArray, List.set_cons_zero, List.set_cons_succ])
    refine seq_is (v := .agg #[.bool (b1n), .slice a1n len1n cap1n, .bool (b1d), .slice a1d len1d cap1d]) rfl (run_load4 rfl rfl (Z.bx 0 rfl)) ?_
    (try simp only [Act.put, List.setIfInBounds_toArray, List.set_cons_zero, List.set_cons_succ])
    refine seq_call Z rfl rfl Try.func20 rfl rfl (args2 rfl rfl) (Z.callV (rat_Cmp.semF (N0n _ _ (Z.rd 0 rfl)) (N0d _ _ (Z.rd 1 rfl)) (N1n _ _ (Z.rd 2 rfl)) (N1d _ _ (Z.rd 3 rfl)) H)) ?_; clear Z; intro x3 W Z
    (try simp only [Act.put, List.setIfInBounds_toArray, List.set_cons_zero, List.set_cons_succ])
    refine seq_is (v := .tuple #[.int .i64 (0), .int .i64 (30)]) rfl (run_move rfl rfl) ?_
    (try simp only [Act.put, List.setIfInBounds_toArray, List.set_cons_zero, List.set_cons_succ])
    refine seq_is (v := .int .i64 (0)) rfl (run_extract rfl rfl rfl) ?_
    (try simp only [Act.put, List.setIfInBounds_toArray, List.set_cons_zero, List.set_cons_succ])
    refine seq_is (v := .int .i64 (30)) rfl (run_extract rfl rfl rfl) ?_
    (try simp only [Act.put, List.setIfInBounds_toArray, List.set_cons_zero, List.set_cons_succ])
    refine seq_is (v := .int .i64 (0)) rfl (run_assign rfl rfl) ?_
    (try simp only [Act.put, List.setIfInBounds_toArray, List.set_cons_zero, List.set_cons_succ])
    refine seq_is (v := .int .i64 (30)) rfl (run_assign rfl rfl) ?_
    (try simp only [Act.put, List.setIfInBounds_toArray, List.set_cons_zero, List.set_cons_succ])
    show Code.wp _ _ _ _ _
    refine wp_seq ?_
    refine wp_seq ?_
    refine wp_region_list ?_
    refine seq_is (v := .agg #[.bool (b0n), .slice a0n len0n cap0n, .bool (b0d), .slice a0d len0d cap0d]) rfl (run_load4 rfl rfl (Z.bx 1 rfl)) ?_
    (try simp only [Act.put, List.setIfInBounds_toArray, List.set_cons_zero, List.set_cons_succ])
    refine seq_is (v := .agg #[.bool (b1n), .slice a1n len1n cap1n, .bool (b1d), .slice a1d len1d cap1d]) rfl (run_load4 rfl rfl (Z.bx 0 rfl)) ?_
    (try simp only [Act.put, List.setIfInBounds_toArray, List.set_cons_zero, List.set_cons_succ])
    refine seq_call Z rfl rfl Try.func21 rfl rfl (args2 rfl rfl) (Z.callV (trammellaw03_both.sem (N0n _ _ (Z.rd 0 rfl)) (N0d _ _ (Z.rd 1 rfl)) (N1n _ _ (Z.rd 2 rfl)) (N1d _ _ (Z.rd 3 rfl)) (Bd.mono F0d (by decide)) (Bd.mono F1d (by decide)))) ?_; clear Z; intro x4 W Z
    (try simp only [Act.put, List.setIfInBounds_toArray, List.set_cons_zero, List.set_cons_succ])
    refine seq_is (v := .bool (!(okB2 (x0d) (x1d)))) rfl (run_not rfl rfl) ?_
    (try simp only [Act.put, List.setIfInBounds_toArray, List.set_cons_zero, List.set_cons_succ])
    show Code.wp _ _ _ _ _
    refine wp_cond_true ((show _ = Value.bool (!(okB2 (x0d) (x1d))) from rfl).trans (congrArg Value.bool (congrArg Bool.not (okB2_f H)))) ?_
    refine wp_seq ?_
    refine wp_region_list ?_
    refine seq_is (v := .int .i64 (30)) rfl (run_move rfl rfl) ?_
    (try simp only [Act.put, List.setIfInBounds_toArray, List.set_cons_zero, List.set_cons_succ])
    refine seq_is (v := .bool (decide ((30 : Int) = (30)))) rfl (run_eqlE rfl rfl rfl) ?_
    (try simp only [Act.put, List.setIfInBounds_toArray, List.set_cons_zero, List.set_cons_succ])
    refine seq_is (v := .bool (decide ((30 : Int) = (30)))) rfl (run_move rfl rfl) ?_
    (try simp only [Act.put, List.setIfInBounds_toArray, List.set_cons_zero, List.set_cons_succ])
    refine list_want rfl rfl (congrArg some (congrArg Value.bool (Eq.refl true))) (wp_run (v := .int .i64 (0)) (run_move rfl rfl) ?_)
    (try simp only [Act.put, List.setIfInBounds_toArray, List.set_cons_zero, List.set_cons_succ])
    refine list_want rfl rfl (congrArg some (congrArg Value.bool (Eq.refl true))) (wp_run (v := .bool (decide ((0 : Int) = (0)))) (run_eql rfl rfl rfl) ?_)
    (try simp only [Act.put, List.setIfInBounds_toArray, List.set_cons_zero, List.set_cons_succ])
    refine seq_is (v := .bool (decide ((0 : Int) = (0)))) rfl (run_pickT rfl rfl rfl) ?_
    (try simp only [Act.put, List.setIfInBounds_toArray, List.set_cons_zero, List.set_cons_succ])
    refine seq_is (v := .bool (decide ((0 : Int) = (0)))) rfl (run_move rfl rfl) ?_
    (try simp only [Act.put, List.setIfInBounds_toArray, List.set_cons_zero, List.set_cons_succ])
    refine seq_callw Z (fun h => list_want rfl rfl (congrArg some (congrArg Value.bool (Eq.refl true))) h) rfl Try.func16 rfl rfl (show Array.map _ #[] = #[] by simp) (Z.callV (trammellaw03_awake.sem _)) ?_; clear Z; intro x5 W Z
    (try simp only [Act.put, List.setIfInBounds_toArray, List.set_cons_zero, List.set_cons_succ])
    refine seq_is (v := .bool (tt)) rfl (run_castR (run_pickT rfl rfl rfl) htt.symm) ?_
    (try simp only [Act.put, List.setIfInBounds_toArray, List.set_cons_zero, List.set_cons_succ])
    refine seq_is (v := .bool (tt)) rfl (run_assign rfl rfl) ?_
    (try simp only [Act.put, List.setIfInBounds_toArray, List.set_cons_zero, List.set_cons_succ])
    show Code.wp _ _ _ _ _
    refine wp_ret ?_
    exact Z.endsV rfl rfl rfl (by first | rfl | exact (congrArg Value.bool htt) | simp)

end Go.Proofs.Ytndopanohhdfgaa.PA

