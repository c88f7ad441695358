/- The walk of the law RatRounds: what its code answers for arguments of a bulk of at most 1048576. -/
import Derived.Outline
import Derived.Test.YtndopanohhdfgaaZYK
import Derived.Test.YtndopanohhdfgaaZDK
import Derived.Test.YtndopanohhdfgaaPAx0K
namespace Go.Proofs.Ytndopanohhdfgaa.PA
open Go Go.Proofs.Ytndopanohhdfgaa.Nums Go.RowKit Go.Proofs.YtndopanohhdfgaaW.PrintWords Go.Proofs.YtndopanohhdfgaaW.PrintLast Go.Proofs.YtndopanohhdfgaaW.PrintMore
set_option linter.unusedVariables false
set_option linter.unusedSimpArgs false
set_option maxHeartbeats 8000000 in
set_option maxRecDepth 100000 in
theorem trammellaw03_RatRounds.walk (b0n : Bool) (a0n : Option Addr) (len0n cap0n : Nat) (q0n : List Int) (b0d : Bool) (a0d : Option Addr) (len0d cap0d : Nat) (q0d : List Int) (w : World) (w0n : bulks.IsRow .u32 w a0n len0n cap0n q0n) (y0n : len0n ≤ 1048576) (w0d : bulks.IsRow .u32 w a0d len0d cap0d q0d) (y0d : len0d ≤ 1048576) : Calls Try.prog 9 #[.agg #[.bool b0n, .slice a0n len0n cap0n, .bool b0d, .slice a0d len0d cap0d]] w (RetV w (.bool true)) := by
  obtain ⟨l0n, r0n, o0n, hl0n⟩ := row_rd w0n y0n
  obtain ⟨x0n, N0n, F0n, hx0n⟩ := arg_num (b := b0n) o0n hl0n
  obtain ⟨l0d, r0d, o0d, hl0d⟩ := row_rd w0d y0d
  obtain ⟨x0d, N0d, F0d, hx0d⟩ := arg_num (b := b0d) o0d hl0d
  have Z := Zt.start w (r0n.has.append r0d.has)
  obtain ⟨tt, htt⟩ : ∃ b : Bool, b = true := ⟨true, rfl⟩
  obtain ⟨ff, hff⟩ : ∃ b : Bool, b = false := ⟨false, rfl⟩
  rcases (Classical.em (0 < x0d)) with H | H
  · go_enter Try.func9, Try.ntmps9
    refine wp_seq ?_
    refine wp_region_list ?_
    refine seq_box4 Z rfl rfl rfl ?_; clear Z; intro g1 W Z
    (try simp only [Act.put, List.setIfInBounds_toArray, List.set_cons_zero, List.set_cons_succ])
    refine seq_is (v := .bool (false)) rfl (run_assign rfl rfl) ?_
    (try simp only [Act.put, List.setIfInBounds_toArray, List.set_cons_zero, List.set_cons_succ])
    show Code.wp _ _ _ _ _
    refine wp_seq ?_
    refine wp_region_list ?_
    refine seq_is (v := .agg #[.bool (b0n), .slice a0n len0n cap0n, .bool (b0d), .slice a0d len0d cap0d]) rfl (run_load4 rfl rfl (Z.bx 0 rfl)) ?_
    (try simp only [Act.put, List.setIfInBounds_toArray, List.set_cons_zero, List.set_cons_succ])
    refine seq_call Z rfl rfl Try.func12 rfl rfl (args1 rfl) (Z.callIi (rat_Floor.sem (N0n _ _ (Z.rd 0 rfl)) (N0d _ _ (Z.rd 1 rfl)) (Bd.mono F0n (by decide)) (Bd.mono F0d (by decide)) H)) ?_; clear Z; intro x2 W Z
    (try simp only [Act.put, List.setIfInBounds_toArray, List.set_cons_zero, List.set_cons_succ])
    refine seq_is (v := .tuple #[.agg #[.bool (decide (((x0n) : Int).fdiv ((x0d)) < 0)), x2.v], .int .i64 (0)]) rfl (run_move rfl rfl) ?_
    (try simp only [Act.put, List.setIfInBounds_toArray, List.set_cons_zero, List.set_cons_succ])
    refine seq_is (v := .agg #[.bool (decide (((x0n) : Int).fdiv ((x0d)) < 0)), x2.v]) rfl (run_extract rfl rfl rfl) ?_
    (try simp only [Act.put, List.setIfInBounds_toArray, List.set_cons_zero, List.set_cons_succ])
    refine seq_is (v := .int .i64 (0)) rfl (run_extract rfl rfl rfl) ?_
    (try simp only [Act.put, List.setIfInBounds_toArray, List.set_cons_zero, List.set_cons_succ])
    refine seq_alloc Z rfl rfl ?_; clear Z; intro g3 W Z
    (try simp only [Act.put, List.setIfInBounds_toArray, List.set_cons_zero, List.set_cons_succ])
    refine seq_store Z 0 rfl rfl rfl rfl rfl ?_; clear Z; intro W Z
    (try simp only [Act.put, List.setIfInBounds_toArray, List.set_cons_zero, List.set_cons_succ])
    refine seq_is (v := .int .i64 (0)) rfl (run_assign rfl rfl) ?_
    (try simp only [Act.put, List.setIfInBounds_toArray, List.set_cons_zero, List.set_cons_succ])
    show Code.wp _ _ _ _ _
    refine wp_seq ?_
    refine wp_region_list ?_
    refine seq_is (v := .agg #[.bool (b0n), .slice a0n len0n cap0n, .bool (b0d), .slice a0d len0d cap0d]) rfl (run_load4 rfl rfl (Z.bx 1 rfl)) ?_
    (try simp only [Act.put, List.setIfInBounds_toArray, List.set_cons_zero, List.set_cons_succ])
    refine seq_call Z rfl rfl Try.func32 rfl rfl (args1 rfl) (Z.callIi (rat_Near.sem (N0n _ _ (Z.rd 1 rfl)) (N0d _ _ (Z.rd 2 rfl)) (Bd.mono F0n (by decide)) (Bd.mono F0d (by decide)) H)) ?_; clear Z; intro x4 W Z
    (try simp only [Act.put, List.setIfInBounds_toArray, List.set_cons_zero, List.set_cons_succ])
    refine seq_is (v := .tuple #[.agg #[.bool (decide (nearZ (x0n) (x0d) < 0)), x4.v], .int .i64 (0)]) rfl (run_move rfl rfl) ?_
    (try simp only [Act.put, List.setIfInBounds_toArray, List.set_cons_zero, List.set_cons_succ])
    refine seq_is (v := .agg #[.bool (decide (nearZ (x0n) (x0d) < 0)), x4.v]) rfl (run_extract rfl rfl rfl) ?_
    (try simp only [Act.put, List.setIfInBounds_toArray, List.set_cons_zero, List.set_cons_succ])
    refine seq_is (v := .int .i64 (0)) rfl (run_extract rfl rfl rfl) ?_
    (try simp only [Act.put, List.setIfInBounds_toArray, List.set_cons_zero, List.set_cons_succ])
    refine seq_alloc Z rfl rfl ?_; clear Z; intro g5 W Z
    (try simp only [Act.put, List.setIfInBounds_toArray, List.set_cons_zero, List.set_cons_succ])
    refine seq_store Z 0 rfl rfl rfl rfl rfl ?_; clear Z; intro W Z
    (try simp only [Act.put, List.setIfInBounds_toArray, List.set_cons_zero, List.set_cons_succ])
    refine seq_is (v := .int .i64 (0)) rfl (run_assign rfl rfl) ?_
    (try simp only [Act.put, List.setIfInBounds_toArray, List.set_cons_zero, List.set_cons_succ])
    show Code.wp _ _ _ _ _
    refine wp_seq ?_
    refine wp_region_list ?_
    refine seq_is (v := .agg #[.bool (b0n), .slice a0n len0n cap0n, .bool (b0d), .slice a0d len0d cap0d]) rfl (run_load4 rfl rfl (Z.bx 2 rfl)) ?_
    (try simp only [Act.put, List.setIfInBounds_toArray, List.set_cons_zero, List.set_cons_succ])
    refine seq_call Z rfl rfl Try.func34 rfl rfl (args1 rfl) (Z.callQi (rat_Dist.sem (N0n _ _ (Z.rd 2 rfl)) (N0d _ _ (Z.rd 3 rfl)) (Bd.mono F0n (by decide)) (Bd.mono F0d (by decide)) H)) ?_; clear Z; intro x6 W Z
    (try simp only [Act.put, List.setIfInBounds_toArray, List.set_cons_zero, List.set_cons_succ])
    refine seq_is (v := .tuple #[.agg #[.bool (decide (((qn ((x0n) * 1 - nearZ ((x0n)) ((x0d)) * (x0d)) ((x0d) * 1)).natAbs : Nat) < 0)), x6.1.v, .bool (decide (qd ((x0n) * 1 - nearZ ((x0n)) ((x0d)) * (x0d)) ((x0d) * 1) < 0)), x6.2.v], .int .i64 (0)]) rfl (run_move rfl rfl) ?_
    (try simp only [Act.put, List.setIfInBounds_toArray, List.set_cons_zero, List.set_cons_succ])
    refine seq_is (v := .agg #[.bool (decide (((qn ((x0n) * 1 - nearZ ((x0n)) ((x0d)) * (x0d)) ((x0d) * 1)).natAbs : Nat) < 0)), x6.1.v, .bool (decide (qd ((x0n) * 1 - nearZ ((x0n)) ((x0d)) * (x0d)) ((x0d) * 1) < 0)), x6.2.v]) rfl (run_extract rfl rfl rfl) ?_
    (try simp only [Act.put, List.setIfInBounds_toArray, List.set_cons_zero, List.set_cons_succ])
    refine seq_is (v := .int .i64 (0)) rfl (run_extract rfl rfl rfl) ?_
    (try simp only [Act.put, List.setIfInBounds_toArray, List.set_cons_zero, List.set_cons_succ])
    refine seq_alloc4 Z rfl rfl ?_; clear Z; intro g7 W Z
    (try simp only [Act.put, List.setIfInBounds_toArray, List.set_cons_zero, List.set_cons_succ])
    refine seq_store4 Z 0 rfl rfl rfl rfl rfl ?_; clear Z; intro W Z
    (try simp only [Act.put, List.setIfInBounds_toArray, List.set_cons_zero, List.set_cons_succ])
    refine seq_is (v := .int .i64 (0)) rfl (run_assign rfl rfl) ?_
    (try simp only [Act.put, List.setIfInBounds_toArray, List.set_cons_zero, List.set_cons_succ])
    show Code.wp _ _ _ _ _
    refine wp_seq ?_
    refine wp_seq ?_
    refine wp_region_list ?_
    refine seq_is (v := .agg #[.bool (b0n), .slice a0n len0n cap0n, .bool (b0d), .slice a0d len0d cap0d]) rfl (run_load4 rfl rfl (Z.bx 3 rfl)) ?_
    (try simp only [Act.put, List.setIfInBounds_toArray, List.set_cons_zero, List.set_cons_succ])
    refine seq_call Z rfl rfl Try.func31 rfl rfl (args1 rfl) (Z.callV (trammellaw03_ok.sem (N0n _ _ (Z.rd 4 rfl)) (N0d _ _ (Z.rd 5 rfl)) (Bd.mono F0d (by decide)))) ?_; clear Z; intro x8 W Z
    (try simp only [Act.put, List.setIfInBounds_toArray, List.set_cons_zero, List.set_cons_succ])
    refine seq_is (v := .bool (!(okB1 (x0d)))) rfl (run_not rfl rfl) ?_
    (try simp only [Act.put, List.setIfInBounds_toArray, List.set_cons_zero, List.set_cons_succ])
    show Code.wp _ _ _ _ _
    refine wp_cond_false ((show _ = Value.bool (!(okB1 (x0d))) from rfl).trans (congrArg Value.bool (congrArg Bool.not (decide_eq_true H)))) ?_
    refine wp_skip ?_
    show Code.wp _ _ _ _ _
    refine wp_seq ?_
    refine wp_dag (pre := [_, _, _, _, _, _, _, _, _, _, _, _, _, _, _, _, _, _, _, _, _, _, _, _, _, _, _, _, _, _, _, _]) (sps := [.is (.int .i64 (0)), .is (.bool (decide ((0 : Int) = (0)))), .is (.bool (decide ((0 : Int) = (0)))), .is (.int .i64 (0)), .is (.bool (decide ((0 : Int) = (0)))), .is (.bool (decide ((0 : Int) = (0)))), .is (.bool (decide ((0 : Int) = (0)))), .is (.int .i64 (0)), .is (.bool (decide ((0 : Int) = (0)))), .is (.bool (decide ((0 : Int) = (0)))), .is (.bool (decide ((0 : Int) = (0)))), .is (.agg #[.bool (decide (((x0n) : Int).fdiv ((x0d)) < 0)), x2.v]), .is (.agg #[.bool (b0n), .slice a0n len0n cap0n, .bool (b0d), .slice a0d len0d cap0d]), spI w (((x0n) : Int).fdiv ((x0d))), .is (.bool (true)), .is (.bool (tt)), .is (.bool (tt)), .is (.agg #[.bool (decide (nearZ (x0n) (x0d) < 0)), x4.v]), .is (.agg #[.bool (b0n), .slice a0n len0n cap0n, .bool (b0d), .slice a0d len0d cap0d]), spI w (nearZ ((x0n)) ((x0d))), .is (.bool (true)), .is (.bool (tt)), .is (.bool (tt)), .is (.agg #[.bool (decide (((qn ((x0n) * 1 - nearZ ((x0n)) ((x0d)) * (x0d)) ((x0d) * 1)).natAbs : Nat) < 0)), x6.1.v, .bool (decide (qd ((x0n) * 1 - nearZ ((x0n)) ((x0d)) * (x0d)) ((x0d) * 1) < 0)), x6.2.v]), .is (.agg #[.bool (b0n), .slice a0n len0n cap0n, .bool (b0d), .slice a0d len0d cap0d]), spQ w (((qn ((x0n) * 1 - nearZ ((x0n)) ((x0d)) * (x0d)) ((x0d) * 1)).natAbs : Nat)) (qd ((x0n) * 1 - nearZ ((x0n)) ((x0d)) * (x0d)) ((x0d) * 1)), .is (.bool (true)), .is (.bool (tt)), .is (.bool (tt)), .is (.bool (true)), .is (.bool (tt)), .is (.bool (tt))]) Z (by kernel_rfl) _ rfl (by kernel_rfl) (by kernel_rfl) rfl ⟨?_, ?_, ?_, ?_, ?_, ?_, ?_, ?_, ?_, ?_, ?_, ?_, ?_, ?_, ?_, ?_, ?_, ?_, ?_, ?_, ?_, ?_, ?_, ?_, ?_, ?_, ?_, ?_, ?_, ?_, ?_, ?_, trivial⟩ ?_
    · intro a e9 W Q Z; exact step_is (fun _ h => op_plain rfl rfl h) (run_move rfl (ev e9))
    · intro a x11 e12 W Q Z; exact step_is (fun _ h => op_plain rfl rfl h) (run_eqlE rfl (ev e12) rfl)
    · intro a x14 e15 W Q Z; exact step_is (fun _ h => op_plain rfl rfl h) (run_move rfl (ev e15))
    · intro a x17 e18 e19 W Q Z; exact step_is (fun _ h => op_want rfl rfl rfl e18 h) (run_move rfl (ev e19))
    · intro a x21 e22 x23 e24 W Q Z; exact step_is (fun _ h => op_want rfl rfl rfl e22 h) (run_eqlE rfl (ev e24) rfl)
    · intro a x26 e27 x28 e29 W Q Z; exact step_is (fun _ h => op_plain rfl rfl h) (run_pickT rfl (ev e27) (ev e29))
    · intro a x31 e32 W Q Z; exact step_is (fun _ h => op_plain rfl rfl h) (run_move rfl (ev e32))
    · intro a x34 e35 e36 W Q Z; exact step_is (fun _ h => op_want rfl rfl rfl e35 h) (run_move rfl (ev e36))
    · intro a x38 e39 x40 e41 W Q Z; exact step_is (fun _ h => op_want rfl rfl rfl e39 h) (run_eqlE rfl (ev e41) rfl)
    · intro a x43 e44 x45 e46 W Q Z; exact step_is (fun _ h => op_plain rfl rfl h) (run_pickT rfl (ev e44) (ev e46))
    · intro a x48 e49 W Q Z; exact step_is (fun _ h => op_plain rfl rfl h) (run_move rfl (ev e49))
    · intro a x51 e52 e53 W Q Z; exact step_is (fun _ h => op_want rfl rfl rfl e52 h) (run_load2 rfl (ev e53) (Z.bx 2 rfl))
    · intro a x55 e56 e57 W Q Z; exact step_is (fun _ h => op_want rfl rfl rfl e56 h) (run_load4 rfl (ev e57) (Z.bx 3 rfl))
    · intro a x59 e60 x61 e62 W Q Z; exact step_call (fun _ h => op_want rfl rfl rfl e60 h) rfl Try.func36 rfl rfl (args1 (ev e62)) (Z.callI (trammelref03_Floor.sem (N0n _ _ (Z.rd 4 rfl)) (N0d _ _ (Z.rd 5 rfl)) (Bd.mono F0n (by decide)) (Bd.mono F0d (by decide)) (pos_ne H)))
    · intro a x64 e65 x66 e67 x68 e69 W Q Z; exact step_call (fun _ h => op_want rfl rfl rfl e65 h) rfl Try.func35 rfl rfl (args2 (ev e67) (ev e69)) (Z.callV (wholeI (z1 := ((x0n) : Int).fdiv ((x0d))) (z2 := ((x0n) : Int).fdiv ((x0d))) (Z.rdO 4 rfl) (Z.rdO 0 rfl) (Bd.fm (Bd.abs (fdiv_bd F0n)) (by decide)) rfl))
    · intro a x71 e72 x73 e74 W Q Z; exact step_is (fun _ h => op_plain rfl rfl h) (run_castR (run_pickT rfl (ev e72) (ev e74)) htt.symm)
    · intro a x76 e77 W Q Z; exact step_is (fun _ h => op_plain rfl rfl h) (run_move rfl (ev e77))
    · intro a x79 e80 e81 W Q Z; exact step_is (fun _ h => op_want rfl rfl rfl (e80.trans (congrArg some (congrArg Value.bool htt))) h) (run_load2 rfl (ev e81) (Z.bx 1 rfl))
    · intro a x83 e84 e85 W Q Z; exact step_is (fun _ h => op_want rfl rfl rfl (e84.trans (congrArg some (congrArg Value.bool htt))) h) (run_load4 rfl (ev e85) (Z.bx 3 rfl))
    · intro a x87 e88 x89 e90 W Q Z; exact step_call (fun _ h => op_want rfl rfl rfl (e88.trans (congrArg some (congrArg Value.bool htt))) h) rfl Try.func37 rfl rfl (args1 (ev e90)) (Z.callI (trammelref03_Near.sem (N0n _ _ (Z.rd 4 rfl)) (N0d _ _ (Z.rd 5 rfl)) (Bd.mono F0n (by decide)) (Bd.mono F0d (by decide)) H))
    · intro a x92 e93 x94 e95 x96 e97 W Q Z; exact step_call (fun _ h => op_want rfl rfl rfl (e93.trans (congrArg some (congrArg Value.bool htt))) h) rfl Try.func35 rfl rfl (args2 (ev e95) (ev e97)) (Z.callV (wholeI (z1 := nearZ (x0n) (x0d)) (z2 := nearZ ((x0n)) ((x0d))) (Z.rdO 3 rfl) (Z.rdO 0 rfl) (Bd.fm (Bd.abs (Bd.near F0n F0d)) (by decide)) rfl))
    · intro a x99 e100 x101 e102 W Q Z; exact step_is (fun _ h => op_plain rfl rfl h) (run_castR (run_pickT rfl ((show _ = Value.bool (tt) from (ev e100)).trans (congrArg Value.bool htt)) (ev e102)) htt.symm)
    · intro a x104 e105 W Q Z; exact step_is (fun _ h => op_plain rfl rfl h) (run_move rfl (ev e105))
    · intro a x107 e108 e109 W Q Z; exact step_is (fun _ h => op_want rfl rfl rfl (e108.trans (congrArg some (congrArg Value.bool htt))) h) (run_load4 rfl (ev e109) (Z.bx 0 rfl))
    · intro a x111 e112 e113 W Q Z; exact step_is (fun _ h => op_want rfl rfl rfl (e112.trans (congrArg some (congrArg Value.bool htt))) h) (run_load4 rfl (ev e113) (Z.bx 3 rfl))
    · intro a x115 e116 x117 e118 W Q Z; exact step_call (fun _ h => op_want rfl rfl rfl (e116.trans (congrArg some (congrArg Value.bool htt))) h) rfl Try.func38 rfl rfl (args1 (ev e118)) (Z.callQ (trammelref03_Dist.sem (N0n _ _ (Z.rd 4 rfl)) (N0d _ _ (Z.rd 5 rfl)) (Bd.mono F0n (by decide)) (Bd.mono F0d (by decide)) H))
    · intro a x120 e121 x122 e123 x124 e125 W Q Z; exact step_call (fun _ h => op_want rfl rfl rfl (e121.trans (congrArg some (congrArg Value.bool htt))) h) rfl Try.func15 rfl rfl (args2 (ev e123) (ev e125)) (Z.callV (sameQ (z1 := ((qn ((x0n) * 1 - nearZ ((x0n)) ((x0d)) * (x0d)) ((x0d) * 1)).natAbs : Nat)) (z2 := ((qn ((x0n) * 1 - nearZ ((x0n)) ((x0d)) * (x0d)) ((x0d) * 1)).natAbs : Nat)) (y1 := qd ((x0n) * 1 - nearZ ((x0n)) ((x0d)) * (x0d)) ((x0d) * 1)) (y2 := qd ((x0n) * 1 - nearZ ((x0n)) ((x0d)) * (x0d)) ((x0d) * 1)) (Z.rdO 2 rfl) (Z.rdO 3 rfl) (Z.rdO 0 rfl) (Z.rdO 1 rfl) (Bd.fm (Bd.abs (Bd.abs (Bd.qn (Bd.sub (Bd.mul F0n (Bd.lit (k := 64) (z := 1) (by decide))) (Bd.mul (Bd.near F0n F0d) F0d))))) (by decide)) (Bd.fm (Bd.abs (Bd.qd (Bd.mul F0d (Bd.lit (k := 64) (z := 1) (by decide))))) (by decide)) rfl rfl))
    · intro a x127 e128 x129 e130 W Q Z; exact step_is (fun _ h => op_plain rfl rfl h) (run_castR (run_pickT rfl ((show _ = Value.bool (tt) from (ev e128)).trans (congrArg Value.bool htt)) (ev e130)) htt.symm)
    · intro a x132 e133 W Q Z; exact step_is (fun _ h => op_plain rfl rfl h) (run_move rfl (ev e133))
    · intro a x135 e136 W Q Z; exact step_call (fun _ h => op_want rfl rfl rfl (e136.trans (congrArg some (congrArg Value.bool htt))) h) rfl Try.func16 rfl rfl (show Array.map _ #[] = #[] by simp) (Z.callV (trammellaw03_awake.sem _))
    · intro a x138 e139 x140 e141 W Q Z; exact step_is (fun _ h => op_plain rfl rfl h) (run_castR (run_pickT rfl ((show _ = Value.bool (tt) from (ev e139)).trans (congrArg Value.bool htt)) (ev e141)) htt.symm)
    · intro a x143 e144 W Q Z; exact step_is (fun _ h => op_plain rfl rfl h) (run_assign rfl (ev e144))
    clear Z; intro x10 x13 x16 x20 x25 x30 x33 x37 x42 x47 x50 x54 x58 x63 x70 x75 x78 x82 x86 x91 x98 x103 x106 x110 x114 x119 x126 x131 x134 x137 x142 x145 W Z
    (try simp only [Act.put, List.setIfInBounds_toArray, List.set_cons_zero, List.set_cons_succ])
    show Code.wp _ _ _ _ _
    refine wp_ret ?_
    exact Z.endsV rfl rfl rfl (by first | rfl | exact (congrArg Value.bool htt) | simp)
  · go_enter Try.func9, Try.ntmps9
    refine wp_seq ?_
    refine wp_region_list ?_
    refine seq_box4 Z rfl rfl rfl ?_; clear Z; intro g1 W Z
    (try simp only [Act.put, List.setIfInBounds_toArray, List.set_cons_zero, List.set_cons_succ])
    refine seq_is (v := .bool (false)) rfl (run_assign rfl rfl) ?_
    (try simp only [Act.put, List.setIfInBounds_toArray, List.set_cons_zero, List.set_cons_succ])
    show Code.wp _ _ _ _ _
    refine wp_seq ?_
    refine wp_region_list ?_
    refine seq_is (v := .agg #[.bool (b0n), .slice a0n len0n cap0n, .bool (b0d), .slice a0d len0d cap0d]) rfl (run_load4 rfl rfl (Z.bx 0 rfl)) ?_
    (try simp only [Act.put, List.setIfInBounds_toArray, List.set_cons_zero, List.set_cons_succ])
    refine seq_call Z rfl rfl Try.func12 rfl rfl (args1 rfl) (Z.callIi (rat_Floor.semF (N0n _ _ (Z.rd 0 rfl)) (N0d _ _ (Z.rd 1 rfl)) H)) ?_; clear Z; intro x2 W Z
    (try simp only [Act.put, List.setIfInBounds_toArray, List.set_cons_zero, List.set_cons_succ])
    refine seq_is (v := .tuple #[.agg #[.bool (decide ((0 : Int) < 0)), x2.v], .int .i64 (30)]) rfl (run_move rfl rfl) ?_
    (try simp only [Act.put, List.setIfInBounds_toArray, List.set_cons_zero, List.set_cons_succ])
    refine seq_is (v := .agg #[.bool (decide ((0 : Int) < 0)), x2.v]) rfl (run_extract rfl rfl rfl) ?_
    (try simp only [Act.put, List.setIfInBounds_toArray, List.set_cons_zero, List.set_cons_succ])
    refine seq_is (v := .int .i64 (30)) rfl (run_extract rfl rfl rfl) ?_
    (try simp only [Act.put, List.setIfInBounds_toArray, List.set_cons_zero, List.set_cons_succ])
    refine seq_alloc Z rfl rfl ?_; clear Z; intro g3 W Z
    (try simp only [Act.put, List.setIfInBounds_toArray, List.set_cons_zero, List.set_cons_succ])
    refine seq_store Z 0 rfl rfl rfl rfl rfl ?_; clear Z; intro W Z
    (try simp only [Act.put, List.setIfInBounds_toArray, List.set_cons_zero, List.set_cons_succ])
    refine seq_is (v := .int .i64 (30)) rfl (run_assign rfl rfl) ?_
    (try simp only [Act.put, List.setIfInBounds_toArray, List.set_cons_zero, List.set_cons_succ])
    show Code.wp _ _ _ _ _
    refine wp_seq ?_
    refine wp_region_list ?_
    refine seq_is (v := .agg #[.bool (b0n), .slice a0n len0n cap0n, .bool (b0d), .slice a0d len0d cap0d]) rfl (run_load4 rfl rfl (Z.bx 1 rfl)) ?_
    (try simp only [Act.put, List.setIfInBounds_toArray, List.set_cons_zero, List.set_cons_succ])
    refine seq_call Z rfl rfl Try.func32 rfl rfl (args1 rfl) (Z.callIi (rat_Near.semF (N0n _ _ (Z.rd 1 rfl)) (N0d _ _ (Z.rd 2 rfl)) H)) ?_; clear Z; intro x4 W Z
    (try simp only [Act.put, List.setIfInBounds_toArray, List.set_cons_zero, List.set_cons_succ])
    refine seq_is (v := .tuple #[.agg #[.bool (decide ((0 : Int) < 0)), x4.v], .int .i64 (30)]) rfl (run_move rfl rfl) ?_
    (try simp only [Act.put, List.setIfInBounds_toArray, List.set_cons_zero, List.set_cons_succ])
    refine seq_is (v := .agg #[.bool (decide ((0 : Int) < 0)), x4.v]) rfl (run_extract rfl rfl rfl) ?_
    (try simp only [Act.put, List.setIfInBounds_toArray, List.set_cons_zero, List.set_cons_succ])
    refine seq_is (v := .int .i64 (30)) rfl (run_extract rfl rfl rfl) ?_
    (try simp only [Act.put, List.setIfInBounds_toArray, List.set_cons_zero, List.set_cons_succ])
    refine seq_alloc Z rfl rfl ?_; clear Z; intro g5 W Z
    (try simp only [Act.put, List.setIfInBounds_toArray, List.set_cons_zero, List.set_cons_succ])
    refine seq_store Z 0 rfl rfl rfl rfl rfl ?_; clear Z; intro W Z
    (try simp only [Act.put, List.setIfInBounds_toArray, List.set_cons_zero, List.set_cons_succ])
    refine seq_is (v := .int .i64 (30)) rfl (run_assign rfl rfl) ?_
    (try simp only [Act.put, List.setIfInBounds_toArray, List.set_cons_zero, List.set_cons_succ])
    show Code.wp _ _ _ _ _
    refine wp_seq ?_
    refine wp_region_list ?_
    refine seq_is (v := .agg #[.bool (b0n), .slice a0n len0n cap0n, .bool (b0d), .slice a0d len0d cap0d]) rfl (run_load4 rfl rfl (Z.bx 2 rfl)) ?_
    (try simp only [Act.put, List.setIfInBounds_toArray, List.set_cons_zero, List.set_cons_succ])
    refine seq_call Z rfl rfl Try.func34 rfl rfl (args1 rfl) (Z.callQi (rat_Dist.semF (N0n _ _ (Z.rd 2 rfl)) (N0d _ _ (Z.rd 3 rfl)) H)) ?_; clear Z; intro x6 W Z
    (try simp only [Act.put, List.setIfInBounds_toArray, List.set_cons_zero, List.set_cons_succ])
    refine seq_is (v := .tuple #[.agg #[.bool (decide (0 < 0)), x6.1.v, .bool (decide (0 < 0)), x6.2.v], .int .i64 (30)]) rfl (run_move rfl rfl) ?_
    (try simp only [Act.put, List.setIfInBounds_toArray, List.set_cons_zero, List.set_cons_succ])
    refine seq_is (v := .agg #[.bool (decide (0 < 0)), x6.1.v, .bool (decide (0 < 0)), x6.2.v]) rfl (run_extract rfl rfl rfl) ?_
    (try simp only [Act.put, List.setIfInBounds_toArray, List.set_cons_zero, List.set_cons_succ])
    refine seq_is (v := .int .i64 (30)) rfl (run_extract rfl rfl rfl) ?_
    (try simp only [Act.put, List.setIfInBounds_toArray, List.set_cons_zero, List.set_cons_succ])
    refine seq_alloc4 Z rfl rfl ?_; clear Z; intro g7 W Z
    (try simp only [Act.put, List.setIfInBounds_toArray, List.set_cons_zero, List.set_cons_succ])
    refine seq_store4 Z 0 rfl rfl rfl rfl rfl ?_; clear Z; intro W Z
    (try simp only [Act.put, List.setIfInBounds_toArray, List.set_cons_zero, List.set_cons_succ])
    refine seq_is (v := .int .i64 (30)) rfl (run_assign rfl rfl) ?_
    (try simp only [Act.put, List.setIfInBounds_toArray, List.set_cons_zero, List.set_cons_succ])
    show Code.wp _ _ _ _ _
    refine wp_seq ?_
    refine wp_seq ?_
    refine wp_region_list ?_
    refine seq_is (v := .agg #[.bool (b0n), .slice a0n len0n cap0n, .bool (b0d), .slice a0d len0d cap0d]) rfl (run_load4 rfl rfl (Z.bx 3 rfl)) ?_
    (try simp only [Act.put, List.setIfInBounds_toArray, List.set_cons_zero, List.set_cons_succ])
    refine seq_call Z rfl rfl Try.func31 rfl rfl (args1 rfl) (Z.callV (trammellaw03_ok.sem (N0n _ _ (Z.rd 4 rfl)) (N0d _ _ (Z.rd 5 rfl)) (Bd.mono F0d (by decide)))) ?_; clear Z; intro x8 W Z
    (try simp only [Act.put, List.setIfInBounds_toArray, List.set_cons_zero, List.set_cons_succ])
    refine seq_is (v := .bool (!(okB1 (x0d)))) rfl (run_not rfl rfl) ?_
    (try simp only [Act.put, List.setIfInBounds_toArray, List.set_cons_zero, List.set_cons_succ])
    show Code.wp _ _ _ _ _
    refine wp_cond_true ((show _ = Value.bool (!(okB1 (x0d))) from rfl).trans (congrArg Value.bool (congrArg Bool.not (decide_eq_false H)))) ?_
    refine wp_seq ?_
    refine wp_region_list ?_
    refine seq_is (v := .int .i64 (30)) rfl (run_move rfl rfl) ?_
    (try simp only [Act.put, List.setIfInBounds_toArray, List.set_cons_zero, List.set_cons_succ])
    refine seq_is (v := .bool (decide ((30 : Int) = (30)))) rfl (run_eqlE rfl rfl rfl) ?_
    (try simp only [Act.put, List.setIfInBounds_toArray, List.set_cons_zero, List.set_cons_succ])
    refine seq_is (v := .bool (decide ((30 : Int) = (30)))) rfl (run_move rfl rfl) ?_
    (try simp only [Act.put, List.setIfInBounds_toArray, List.set_cons_zero, List.set_cons_succ])
    refine list_want rfl rfl (congrArg some (congrArg Value.bool (Eq.refl true))) (wp_run (v := .int .i64 (30)) (run_move rfl rfl) ?_)
    (try simp only [Act.put, List.setIfInBounds_toArray, List.set_cons_zero, List.set_cons_succ])
    refine list_want rfl rfl (congrArg some (congrArg Value.bool (Eq.refl true))) (wp_run (v := .bool (decide ((30 : Int) = (30)))) (run_eqlE rfl rfl rfl) ?_)
    (try simp only [Act.put, List.setIfInBounds_toArray, List.set_cons_zero, List.set_cons_succ])
    refine seq_is (v := .bool (decide ((30 : Int) = (30)))) rfl (run_pickT rfl rfl rfl) ?_
    (try simp only [Act.put, List.setIfInBounds_toArray, List.set_cons_zero, List.set_cons_succ])
    refine seq_is (v := .bool (decide ((30 : Int) = (30)))) rfl (run_move rfl rfl) ?_
    (try simp only [Act.put, List.setIfInBounds_toArray, List.set_cons_zero, List.set_cons_succ])
    refine list_want rfl rfl (congrArg some (congrArg Value.bool (Eq.refl true))) (wp_run (v := .int .i64 (30)) (run_move rfl rfl) ?_)
    (try simp only [Act.put, List.setIfInBounds_toArray, List.set_cons_zero, List.set_cons_succ])
    refine list_want rfl rfl (congrArg some (congrArg Value.bool (Eq.refl true))) (wp_run (v := .bool (decide ((30 : Int) = (30)))) (run_eqlE rfl rfl rfl) ?_)
    (try simp only [Act.put, List.setIfInBounds_toArray, List.set_cons_zero, List.set_cons_succ])
    refine seq_is (v := .bool (decide ((30 : Int) = (30)))) rfl (run_pickT rfl rfl rfl) ?_
    (try simp only [Act.put, List.setIfInBounds_toArray, List.set_cons_zero, List.set_cons_succ])
    refine seq_is (v := .bool (decide ((30 : Int) = (30)))) rfl (run_move rfl rfl) ?_
    (try simp only [Act.put, List.setIfInBounds_toArray, List.set_cons_zero, List.set_cons_succ])
    refine list_want rfl rfl (congrArg some (congrArg Value.bool (Eq.refl true))) (wp_run (v := .agg #[.bool (decide ((0 : Int) < 0)), x2.v]) (run_load2 rfl rfl (Z.bx 2 rfl)) ?_)
    (try simp only [Act.put, List.setIfInBounds_toArray, List.set_cons_zero, List.set_cons_succ])
    refine list_want rfl rfl (congrArg some (congrArg Value.bool (Eq.refl true))) (wp_run (v := .agg #[.bool (false), .slice none 0 0]) (run_build0 rfl) ?_)
    (try simp only [Act.put, List.setIfInBounds_toArray, List.set_cons_zero, List.set_cons_succ])
    refine seq_callw Z (fun h => list_want rfl rfl (congrArg some (congrArg Value.bool (Eq.refl true))) h) rfl Try.func35 rfl rfl (args2 rfl rfl) (Z.callV (wholeI (z1 := (0 : Int)) (z2 := 0) (Z.rdO 3 rfl) (Rd_nil0 _) (Bd.fm (Bd.abs (Bd.lit (k := 64) (z := 0) (by decide))) (by decide)) rfl)) ?_; clear Z; intro x9 W Z
    (try simp only [Act.put, List.setIfInBounds_toArray, List.set_cons_zero, List.set_cons_succ])
    refine seq_is (v := .bool (tt)) rfl (run_castR (run_pickT rfl rfl rfl) htt.symm) ?_
    (try simp only [Act.put, List.setIfInBounds_toArray, List.set_cons_zero, List.set_cons_succ])
    refine seq_is (v := .bool (tt)) rfl (run_move rfl rfl) ?_
    (try simp only [Act.put, List.setIfInBounds_toArray, List.set_cons_zero, List.set_cons_succ])
    refine list_want rfl rfl (congrArg some (congrArg Value.bool htt)) (wp_run (v := .agg #[.bool (decide ((0 : Int) < 0)), x4.v]) (run_load2 rfl rfl (Z.bx 1 rfl)) ?_)
    (try simp only [Act.put, List.setIfInBounds_toArray, List.set_cons_zero, List.set_cons_succ])
    refine list_want rfl rfl (congrArg some (congrArg Value.bool htt)) (wp_run (v := .agg #[.bool (false), .slice none 0 0]) (run_build0 rfl) ?_)
    (try simp only [Act.put, List.setIfInBounds_toArray, List.set_cons_zero, List.set_cons_succ])
    refine seq_callw Z (fun h => list_want rfl rfl (congrArg some (congrArg Value.bool htt)) h) rfl Try.func35 rfl rfl (args2 rfl rfl) (Z.callV (wholeI (z1 := (0 : Int)) (z2 := 0) (Z.rdO 2 rfl) (Rd_nil0 _) (Bd.fm (Bd.abs (Bd.lit (k := 64) (z := 0) (by decide))) (by decide)) rfl)) ?_; clear Z; intro x10 W Z
    (try simp only [Act.put, List.setIfInBounds_toArray, List.set_cons_zero, List.set_cons_succ])
    refine seq_is (v := .bool (tt)) rfl (run_castR (run_pickT rfl ((show _ = Value.bool (tt) from rfl).trans (congrArg Value.bool htt)) rfl) htt.symm) ?_
    (try simp only [Act.put, List.setIfInBounds_toArray, List.set_cons_zero, List.set_cons_succ])
    refine seq_is (v := .bool (tt)) rfl (run_move rfl rfl) ?_
    (try simp only [Act.put, List.setIfInBounds_toArray, List.set_cons_zero, List.set_cons_succ])
    refine list_want rfl rfl (congrArg some (congrArg Value.bool htt)) (wp_run (v := .agg #[.bool (decide (0 < 0)), x6.1.v, .bool (decide (0 < 0)), x6.2.v]) (run_load4 rfl rfl (Z.bx 0 rfl)) ?_)
    (try simp only [Act.put, List.setIfInBounds_toArray, List.set_cons_zero, List.set_cons_succ])
    refine list_want rfl rfl (congrArg some (congrArg Value.bool htt)) (wp_run (v := .agg #[.bool (false), .slice none 0 0, .bool (false), .slice none 0 0]) (run_buildR0 rfl) ?_)
    (try simp only [Act.put, List.setIfInBounds_toArray, List.set_cons_zero, List.set_cons_succ])
    refine seq_callw Z (fun h => list_want rfl rfl (congrArg some (congrArg Value.bool htt)) h) rfl Try.func15 rfl rfl (args2 rfl rfl) (Z.callV (sameQ (z1 := 0) (z2 := 0) (y1 := 0) (y2 := 0) (Z.rdO 0 rfl) (Z.rdO 1 rfl) (Rd_nil0 _) (Rd_nil0 _) (Bd.fm (Bd.abs (Bd.lit (k := 64) (z := 0) (by decide))) (by decide)) (Bd.fm (Bd.abs (Bd.lit (k := 64) (z := 0) (by decide))) (by decide)) rfl rfl)) ?_; clear Z; intro x11 W Z
    (try simp only [Act.put, List.setIfInBounds_toArray, List.set_cons_zero, List.set_cons_succ])
    refine seq_is (v := .bool (tt)) rfl (run_castR (run_pickT rfl ((show _ = Value.bool (tt) from rfl).trans (congrArg Value.bool htt)) rfl) htt.symm) ?_
    (try simp only [Act.put, List.setIfInBounds_toArray, List.set_cons_zero, List.set_cons_succ])
    refine seq_is (v := .bool (tt)) rfl (run_move rfl rfl) ?_
    (try simp only [Act.put, List.setIfInBounds_toArray, List.set_cons_zero, List.set_cons_succ])
    refine seq_callw Z (fun h => list_want rfl rfl (congrArg some (congrArg Value.bool htt)) h) rfl Try.func16 rfl rfl (show Array.map _ #[] = #[] by simp) (Z.callV (trammellaw03_awake.sem _)) ?_; clear Z; intro x12 W Z
    (try simp only [Act.put, List.setIfInBounds_toArray, List.set_cons_zero, List.set_cons_succ])
    refine seq_is (v := .bool (tt)) rfl (run_castR (run_pickT rfl ((show _ = Value.bool (tt) from rfl).trans (congrArg Value.bool htt)) rfl) htt.symm) ?_
    (try simp only [Act.put, List.setIfInBounds_toArray, List.set_cons_zero, List.set_cons_succ])
    refine seq_is (v := .bool (tt)) rfl (run_assign rfl rfl) ?_
    (try simp only [Act.put, List.setIfInBounds_toArray, List.set_cons_zero, List.set_cons_succ])
    show Code.wp _ _ _ _ _
    refine wp_ret ?_
    exact Z.endsV rfl rfl rfl (by first | rfl | exact (congrArg Value.bool htt) | simp)

end Go.Proofs.Ytndopanohhdfgaa.PA

