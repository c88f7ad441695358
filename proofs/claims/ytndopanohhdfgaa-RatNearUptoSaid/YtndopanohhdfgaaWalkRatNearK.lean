/- The walk of the law RatNear: what its code answers for arguments of a bulk of at most 1048576. -/
import Derived.Outline
import Derived.Test.YtndopanohhdfgaaZYK
import Derived.Test.YtndopanohhdfgaaZDK
import Derived.Test.YtndopanohhdfgaaPAx0K
namespace Go.Proofs.Ytndopanohhdfgaa.PA
open Go Go.Proofs.Ytndopanohhdfgaa.Nums Go.RowKit Go.Proofs.YtndopanohhdfgaaW.PrintWords Go.Proofs.YtndopanohhdfgaaW.PrintLast Go.Proofs.YtndopanohhdfgaaW.PrintMore
set_option linter.unusedVariables false
set_option linter.unusedSimpArgs false
theorem cmp_q {x y p q : Int} (h : 0 < y) : cmp (qn x y * q) (p * qd x y) = cmp (x * q) (p * y) := by
  have h1 := q_cross (x := x) (pos_ne h)
  have h2 := qd_pos (x := x) (pos_ne h)
  rw [cmp_sign, cmp_sign]
  have h3 : (qn x y * q - p * qd x y) * y = (x * q - p * y) * qd x y := by grind
  have h4 := congrArg Int.sign h3
  rw [Int.sign_mul, Int.sign_mul, Int.sign_eq_one_of_pos h, Int.sign_eq_one_of_pos h2, Int.mul_one, Int.mul_one] at h4
  exact h4
theorem cq_le {x y : Int} (h : x ≤ y) : cmp x y ≤ 0 := by unfold cmp; split <;> (try split) <;> omega
theorem cq_ge {x y : Int} (h : y ≤ x) : 0 ≤ cmp x y := by unfold cmp; split <;> (try split) <;> omega
theorem cq_lt {x y : Int} (h : x < y) : cmp x y < 0 := by unfold cmp; rw [if_pos h]; omega
theorem cq_gt {x y : Int} (h : y < x) : 0 < cmp x y := by unfold cmp; rw [if_neg (by omega), if_neg (by omega)]; omega
theorem floor_b {x y : Int} (h : 0 < y) : x.fdiv y * y ≤ x ∧ x < x.fdiv y * y + y := by
  have h1 := Int.mul_fdiv_add_fmod x y
  have h2 := Int.fmod_nonneg_of_pos x h
  have h3 := Int.fmod_lt_of_pos x h
  rw [Int.mul_comm] at h1
  omega
theorem near_b {x y : Int} (h : 0 < y) : 2 * (nearZ x y * y) ≤ 2 * x + y ∧ 2 * x < 2 * (nearZ x y * y) + y := by
  have h1 := floor_b (x := 2 * x + y) (y := 2 * y) (by omega)
  unfold nearZ
  have e : (2 * x + y).fdiv (2 * y) * (2 * y) = 2 * ((2 * x + y).fdiv (2 * y) * y) := by grind
  rw [e] at h1
  omega
theorem near_up {x y : Int} (h : 0 < y) : cmp (qn (nearZ x y * y - x * 1) (1 * y) * 2) (1 * qd (nearZ x y * y - x * 1) (1 * y)) ≤ 0 := by
  have := near_b (x := x) h
  rw [cmp_q (by omega)]
  exact cq_le (by omega)
theorem near_low {x y : Int} (h : 0 < y) : 0 < cmp (qn (nearZ x y * y - x * 1) (1 * y) * 2) (-1 * qd (nearZ x y * y - x * 1) (1 * y)) := by
  have := near_b (x := x) h
  rw [cmp_q (by omega)]
  exact cq_gt (by omega)
theorem floor_0 {x y : Int} (h : 0 < y) : 0 ≤ cmp (qn (x * 1 - x.fdiv y * y) (y * 1) * 1) (0 * qd (x * 1 - x.fdiv y * y) (y * 1)) := by
  have := floor_b (x := x) h
  rw [cmp_q (by omega)]
  exact cq_ge (by omega)
theorem floor_1 {x y : Int} (h : 0 < y) : cmp (qn (x * 1 - x.fdiv y * y) (y * 1) * 2) (2 * qd (x * 1 - x.fdiv y * y) (y * 1)) < 0 := by
  have := floor_b (x := x) h
  rw [cmp_q (by omega)]
  exact cq_lt (by omega)
set_option maxHeartbeats 8000000 in
set_option maxRecDepth 100000 in
theorem trammellaw03_RatNear.walk (b0n : Bool) (a0n : Option Addr) (len0n cap0n : Nat) (q0n : List Int) (b0d : Bool) (a0d : Option Addr) (len0d cap0d : Nat) (q0d : List Int) (w : World) (w0n : bulks.IsRow .u32 w a0n len0n cap0n q0n) (y0n : len0n ≤ 1048576) (w0d : bulks.IsRow .u32 w a0d len0d cap0d q0d) (y0d : len0d ≤ 1048576) : Calls Try.prog 8 #[.agg #[.bool b0n, .slice a0n len0n cap0n, .bool b0d, .slice a0d len0d cap0d]] w (RetV w (.bool true)) := by
  obtain ⟨l0n, r0n, o0n, hl0n⟩ := row_rd w0n y0n
  obtain ⟨x0n, N0n, F0n, hx0n⟩ := arg_num (b := b0n) o0n hl0n
  obtain ⟨l0d, r0d, o0d, hl0d⟩ := row_rd w0d y0d
  obtain ⟨x0d, N0d, F0d, hx0d⟩ := arg_num (b := b0d) o0d hl0d
  have Z := Zt.start w (r0n.has.append r0d.has)
  obtain ⟨tt, htt⟩ : ∃ b : Bool, b = true := ⟨true, rfl⟩
  obtain ⟨ff, hff⟩ : ∃ b : Bool, b = false := ⟨false, rfl⟩
  rcases (Classical.em (0 < x0d)) with H | H
  · go_enter Try.func8, Try.ntmps8
    refine wp_seq ?_
    refine wp_region_list ?_
    refine seq_box4 Z rfl rfl rfl ?_; clear Z; intro g1 W Z
    (try simp only [Act.put, List.setIfInBounds_toArray, List.set_cons_zero, List.set_cons_succ])
    refine seq_is (v := .bool (false)) rfl (run_assign rfl rfl) ?_
    (try simp only [Act.put, List.setIfInBounds_toArray, List.set_cons_zero, List.set_cons_succ])
    show Code.wp _ _ _ _ _
    refine wp_seq ?_
    refine wp_seq ?_
    refine wp_region_list ?_
    refine seq_call Z rfl rfl Try.func16 rfl rfl (show Array.map _ #[] = #[] by simp) (Z.callV (trammellaw03_awake.sem _)) ?_; clear Z; intro x2 W Z
    (try simp only [Act.put, List.setIfInBounds_toArray, List.set_cons_zero, List.set_cons_succ])
    refine seq_is (v := .bool (!(true))) rfl (run_not rfl rfl) ?_
    (try simp only [Act.put, List.setIfInBounds_toArray, List.set_cons_zero, List.set_cons_succ])
    show Code.wp _ _ _ _ _
    refine wp_cond_false rfl ?_
    refine wp_skip ?_
    show Code.wp _ _ _ _ _
    refine wp_seq ?_
    refine wp_seq ?_
    refine wp_region_list ?_
    refine seq_is (v := .agg #[.bool (b0n), .slice a0n len0n cap0n, .bool (b0d), .slice a0d len0d cap0d]) rfl (run_load4 rfl rfl (Z.bx 0 rfl)) ?_
    (try simp only [Act.put, List.setIfInBounds_toArray, List.set_cons_zero, List.set_cons_succ])
    refine seq_call Z rfl rfl Try.func31 rfl rfl (args1 rfl) (Z.callV (trammellaw03_ok.sem (N0n _ _ (Z.rd 0 rfl)) (N0d _ _ (Z.rd 1 rfl)) (Bd.mono F0d (by decide)))) ?_; clear Z; intro x3 W Z
    (try simp only [Act.put, List.setIfInBounds_toArray, List.set_cons_zero, List.set_cons_succ])
    refine seq_is (v := .bool (!(okB1 (x0d)))) rfl (run_not rfl rfl) ?_
    (try simp only [Act.put, List.setIfInBounds_toArray, List.set_cons_zero, List.set_cons_succ])
    show Code.wp _ _ _ _ _
    refine wp_cond_false ((show _ = Value.bool (!(okB1 (x0d))) from rfl).trans (congrArg Value.bool (congrArg Bool.not (decide_eq_true H)))) ?_
    refine wp_skip ?_
    show Code.wp _ _ _ _ _
    refine wp_seq ?_
    refine wp_region_list ?_
    refine seq_is (v := .agg #[.bool (b0n), .slice a0n len0n cap0n, .bool (b0d), .slice a0d len0d cap0d]) rfl (run_load4 rfl rfl (Z.bx 0 rfl)) ?_
    (try simp only [Act.put, List.setIfInBounds_toArray, List.set_cons_zero, List.set_cons_succ])
    refine seq_call Z rfl rfl Try.func32 rfl rfl (args1 rfl) (Z.callIi (rat_Near.sem (N0n _ _ (Z.rd 0 rfl)) (N0d _ _ (Z.rd 1 rfl)) (Bd.mono F0n (by decide)) (Bd.mono F0d (by decide)) H)) ?_; clear Z; intro x4 W Z
    (try simp only [Act.put, List.setIfInBounds_toArray, List.set_cons_zero, List.set_cons_succ])
    refine seq_is (v := .tuple #[.agg #[.bool (decide (nearZ (x0n) (x0d) < 0)), x4.v], .int .i64 (0)]) rfl (run_move rfl rfl) ?_
    (try simp only [Act.put, List.setIfInBounds_toArray, List.set_cons_zero, List.set_cons_succ])
    refine seq_is (v := .agg #[.bool (decide (nearZ (x0n) (x0d) < 0)), x4.v]) rfl (run_extract rfl rfl rfl) ?_
    (try simp only [Act.put, List.setIfInBounds_toArray, List.set_cons_zero, List.set_cons_succ])
    refine seq_is (v := .int .i64 (0)) rfl (run_extract rfl rfl rfl) ?_
    (try simp only [Act.put, List.setIfInBounds_toArray, List.set_cons_zero, List.set_cons_succ])
    refine seq_alloc Z rfl rfl ?_; clear Z; intro g5 W Z
    (try simp only [Act.put, List.setIfInBounds_toArray, List.set_cons_zero, List.set_cons_succ])
    refine seq_store Z 0 rfl rfl rfl rfl rfl ?_; clear Z; intro W Z
    (try simp only [Act.put, List.setIfInBounds_toArray, List.set_cons_zero, List.set_cons_succ])
    refine seq_is (v := .int .i64 (0)) rfl (run_assign rfl rfl) ?_
    (try simp only [Act.put, List.setIfInBounds_toArray, List.set_cons_zero, List.set_cons_succ])
    show Code.wp _ _ _ _ _
    refine wp_seq ?_
    refine wp_region_list ?_
    refine seq_is (v := .agg #[.bool (b0n), .slice a0n len0n cap0n, .bool (b0d), .slice a0d len0d cap0d]) rfl (run_load4 rfl rfl (Z.bx 1 rfl)) ?_
    (try simp only [Act.put, List.setIfInBounds_toArray, List.set_cons_zero, List.set_cons_succ])
    refine seq_call Z rfl rfl Try.func12 rfl rfl (args1 rfl) (Z.callIi (rat_Floor.sem (N0n _ _ (Z.rd 1 rfl)) (N0d _ _ (Z.rd 2 rfl)) (Bd.mono F0n (by decide)) (Bd.mono F0d (by decide)) H)) ?_; clear Z; intro x6 W Z
    (try simp only [Act.put, List.setIfInBounds_toArray, List.set_cons_zero, List.set_cons_succ])
    refine seq_is (v := .tuple #[.agg #[.bool (decide (((x0n) : Int).fdiv ((x0d)) < 0)), x6.v], .int .i64 (0)]) rfl (run_move rfl rfl) ?_
    (try simp only [Act.put, List.setIfInBounds_toArray, List.set_cons_zero, List.set_cons_succ])
    refine seq_is (v := .agg #[.bool (decide (((x0n) : Int).fdiv ((x0d)) < 0)), x6.v]) rfl (run_extract rfl rfl rfl) ?_
    (try simp only [Act.put, List.setIfInBounds_toArray, List.set_cons_zero, List.set_cons_succ])
    refine seq_is (v := .int .i64 (0)) rfl (run_extract rfl rfl rfl) ?_
    (try simp only [Act.put, List.setIfInBounds_toArray, List.set_cons_zero, List.set_cons_succ])
    refine seq_alloc Z rfl rfl ?_; clear Z; intro g7 W Z
    (try simp only [Act.put, List.setIfInBounds_toArray, List.set_cons_zero, List.set_cons_succ])
    refine seq_store Z 0 rfl rfl rfl rfl rfl ?_; clear Z; intro W Z
    (try simp only [Act.put, List.setIfInBounds_toArray, List.set_cons_zero, List.set_cons_succ])
    refine seq_is (v := .int .i64 (0)) rfl (run_assign rfl rfl) ?_
    (try simp only [Act.put, List.setIfInBounds_toArray, List.set_cons_zero, List.set_cons_succ])
    show Code.wp _ _ _ _ _
    refine wp_seq ?_
    refine wp_dag2 (pre := [_, _, _, _, _, _, _, _]) (sps := [.is (.agg #[.bool (decide (nearZ (x0n) (x0d) < 0)), x4.v]), spQ w ((nearZ (x0n) (x0d))) (1), .is (.agg #[.bool (b0n), .slice a0n len0n cap0n, .bool (b0d), .slice a0d len0d cap0d]), spQi w (qn ((((nearZ (x0n) (x0d))) * (x0d)) - ((x0n) * (1))) ((1) * (x0d))) (qd ((((nearZ (x0n) (x0d))) * (x0d)) - ((x0n) * (1))) ((1) * (x0d))) (.int .i64 (0)), spQi w (qn ((((nearZ (x0n) (x0d))) * (x0d)) - ((x0n) * (1))) ((1) * (x0d))) (qd ((((nearZ (x0n) (x0d))) * (x0d)) - ((x0n) * (1))) ((1) * (x0d))) (.int .i64 (0)), spQ w (qn ((((nearZ (x0n) (x0d))) * (x0d)) - ((x0n) * (1))) ((1) * (x0d))) (qd ((((nearZ (x0n) (x0d))) * (x0d)) - ((x0n) * (1))) ((1) * (x0d))), .is (.int .i64 (0)), .box 29 #[.bool false, .slice none 0 0, .bool false, .slice none 0 0]]) Z (by kernel_rfl) _ rfl (by kernel_rfl) (by kernel_rfl) (by kernel_rfl) rfl (fun _ _ d _ _ h => by cases d <;> exact h) ⟨?_, ?_, ?_, ?_, ?_, ?_, ?_, ?_, trivial⟩ ?_
    · intro a e8 W Q Z; exact step_is (fun _ h => op_plain rfl rfl h) (run_load2 rfl (ev e8) (Z.bx 1 rfl))
    · intro a x10 e11 W Q Z; exact step_call (fun _ h => op_plain rfl rfl h) rfl Try.func18 rfl rfl (args1 (ev e11)) (Z.callQ (rat_Of.sem (Z.own 1 rfl (Bd.fm (Bd.abs (Bd.near F0n F0d)) (by decide))) ))
    · intro a e13 W Q Z; exact step_is (fun _ h => op_plain rfl rfl h) (run_load4 rfl (ev e13) (Z.bx 2 rfl))
    · intro a x15 e16 x17 e18 W Q Z; exact step_call (fun _ h => op_plain rfl rfl h) rfl Try.func24 rfl rfl (args2 (ev e16) (ev e18)) (Z.callQi (rat_Sub.sem (Z.own 0 rfl (Bd.fm (Bd.abs (Bd.near F0n F0d)) (by decide))) (Z.own 1 rfl (Bd.fm (Bd.abs (Bd.lit (k := 64) (z := 1) (by decide))) (by decide))) (N0n _ _ (Z.rd 4 rfl)) (N0d _ _ (Z.rd 5 rfl)) (Bd.mono (Bd.near F0n F0d) (by decide)) (Bd.mono (Bd.lit (k := 64) (z := 1) (by decide)) (by decide)) (Bd.mono F0n (by decide)) (Bd.mono F0d (by decide)) (by decide) H))
    · intro a x20 e21 W Q Z; exact step_val x20 (fun _ h => op_plain rfl rfl h) (run_move rfl (ev e21)) (has_two (Z.has 0 rfl) (Z.has 1 rfl))
    · intro a x23 e24 W Q Z; exact step_val x23 (fun _ h => op_plain rfl rfl h) (run_extract rfl (ev e24) rfl) (has_two (Z.has 0 rfl) (Z.has 1 rfl))
    · intro a x26 e27 W Q Z; exact step_is (fun _ h => op_plain rfl rfl h) (run_extract rfl (ev e27) rfl)
    · intro a W Q Z; exact step_box (fun _ h => op_plain rfl rfl h) (by decide) (run_alloc4 rfl)
    clear Z; intro x9 x12 x14 x19 x22 x25 x28 g29 W Z
    (try simp only [Act.put, List.setIfInBounds_toArray, List.set_cons_zero, List.set_cons_succ])
    refine seq_store4 Z 0 rfl rfl rfl rfl rfl ?_; clear Z; intro W Z
    (try simp only [Act.put, List.setIfInBounds_toArray, List.set_cons_zero, List.set_cons_succ])
    refine seq_is (v := .int .i64 (0)) rfl (run_assign rfl rfl) ?_
    (try simp only [Act.put, List.setIfInBounds_toArray, List.set_cons_zero, List.set_cons_succ])
    show Code.wp _ _ _ _ _
    refine wp_seq ?_
    refine wp_dag (pre := [_, _, _, _, _, _, _, _]) (sps := [.is (.agg #[.bool (decide (qn ((((nearZ (x0n) (x0d))) * (x0d)) - ((x0n) * (1))) ((1) * (x0d)) < 0)), x25.1.v, .bool (decide (qd ((((nearZ (x0n) (x0d))) * (x0d)) - ((x0n) * (1))) ((1) * (x0d)) < 0)), x25.2.v]), spQ w ((1 : Int)) ((2 : Int)), .is (.tuple #[.int .i64 (cmp ((qn ((((nearZ (x0n) (x0d))) * (x0d)) - ((x0n) * (1))) ((1) * (x0d))) * ((2 : Int))) (((1 : Int)) * (qd ((((nearZ (x0n) (x0d))) * (x0d)) - ((x0n) * (1))) ((1) * (x0d))))), .int .i64 (0)]), .is (.tuple #[.int .i64 (cmp ((qn ((((nearZ (x0n) (x0d))) * (x0d)) - ((x0n) * (1))) ((1) * (x0d))) * ((2 : Int))) (((1 : Int)) * (qd ((((nearZ (x0n) (x0d))) * (x0d)) - ((x0n) * (1))) ((1) * (x0d))))), .int .i64 (0)]), .is (.int .i64 (cmp ((qn ((((nearZ (x0n) (x0d))) * (x0d)) - ((x0n) * (1))) ((1) * (x0d))) * ((2 : Int))) (((1 : Int)) * (qd ((((nearZ (x0n) (x0d))) * (x0d)) - ((x0n) * (1))) ((1) * (x0d)))))), .is (.int .i64 (0)), .is (.int .i64 (cmp ((qn ((((nearZ (x0n) (x0d))) * (x0d)) - ((x0n) * (1))) ((1) * (x0d))) * ((2 : Int))) (((1 : Int)) * (qd ((((nearZ (x0n) (x0d))) * (x0d)) - ((x0n) * (1))) ((1) * (x0d)))))), .is (.int .i64 (0))]) Z (by kernel_rfl) _ rfl (by kernel_rfl) (by kernel_rfl) rfl ⟨?_, ?_, ?_, ?_, ?_, ?_, ?_, ?_, trivial⟩ ?_
    · intro a e30 W Q Z; exact step_is (fun _ h => op_plain rfl rfl h) (run_load4 rfl (ev e30) (Z.bx 0 rfl))
    · intro a W Q Z; exact step_call (fun _ h => op_plain rfl rfl h) rfl Try.func33 rfl rfl (args1 rfl) (Z.callQ (trammellaw03_half.sem (by decide)))
    · intro a x33 e34 x35 e36 W Q Z; exact step_call (fun _ h => op_plain rfl rfl h) rfl Try.func20 rfl rfl (args2 (ev e34) (ev e36)) (Z.callV (rat_Cmp.sem (Z.own 2 rfl (Bd.fm (Bd.abs (Bd.qn (Bd.sub (Bd.mul (Bd.near F0n F0d) F0d) (Bd.mul F0n (Bd.lit (k := 64) (z := 1) (by decide)))))) (by decide))) (Z.own 3 rfl (Bd.fm (Bd.abs (Bd.qd (Bd.mul (Bd.lit (k := 64) (z := 1) (by decide)) F0d))) (by decide))) (Z.own 0 rfl (Bd.fm (Bd.abs (Bd.lit (k := 64) (z := 1) (by decide))) (by decide))) (Z.own 1 rfl (Bd.fm (Bd.abs (Bd.lit (k := 64) (z := 2) (by decide))) (by decide))) (Bd.mono (Bd.qn (Bd.sub (Bd.mul (Bd.near F0n F0d) F0d) (Bd.mul F0n (Bd.lit (k := 64) (z := 1) (by decide))))) (by decide)) (Bd.mono (Bd.qd (Bd.mul (Bd.lit (k := 64) (z := 1) (by decide)) F0d)) (by decide)) (Bd.mono (Bd.lit (k := 64) (z := 1) (by decide)) (by decide)) (Bd.mono (Bd.lit (k := 64) (z := 2) (by decide)) (by decide)) (qd_pos (pos_ne (Int.mul_pos (by decide) H))) (by decide)))
    · intro a x38 e39 W Q Z; exact step_is (fun _ h => op_plain rfl rfl h) (run_move rfl (ev e39))
    · intro a x41 e42 W Q Z; exact step_is (fun _ h => op_plain rfl rfl h) (run_extract rfl (ev e42) rfl)
    · intro a x44 e45 W Q Z; exact step_is (fun _ h => op_plain rfl rfl h) (run_extract rfl (ev e45) rfl)
    · intro a x47 e48 W Q Z; exact step_is (fun _ h => op_plain rfl rfl h) (run_assign rfl (ev e48))
    · intro a x50 e51 W Q Z; exact step_is (fun _ h => op_plain rfl rfl h) (run_assign rfl (ev e51))
    clear Z; intro x31 x32 x37 x40 x43 x46 x49 x52 W Z
    (try simp only [Act.put, List.setIfInBounds_toArray, List.set_cons_zero, List.set_cons_succ])
    show Code.wp _ _ _ _ _
    refine wp_seq ?_
    refine wp_dag (pre := [_, _, _, _, _, _, _, _]) (sps := [.is (.agg #[.bool (decide (qn ((((nearZ (x0n) (x0d))) * (x0d)) - ((x0n) * (1))) ((1) * (x0d)) < 0)), x25.1.v, .bool (decide (qd ((((nearZ (x0n) (x0d))) * (x0d)) - ((x0n) * (1))) ((1) * (x0d)) < 0)), x25.2.v]), spQ w ((-1 : Int)) ((2 : Int)), .is (.tuple #[.int .i64 (cmp ((qn ((((nearZ (x0n) (x0d))) * (x0d)) - ((x0n) * (1))) ((1) * (x0d))) * ((2 : Int))) (((-1 : Int)) * (qd ((((nearZ (x0n) (x0d))) * (x0d)) - ((x0n) * (1))) ((1) * (x0d))))), .int .i64 (0)]), .is (.tuple #[.int .i64 (cmp ((qn ((((nearZ (x0n) (x0d))) * (x0d)) - ((x0n) * (1))) ((1) * (x0d))) * ((2 : Int))) (((-1 : Int)) * (qd ((((nearZ (x0n) (x0d))) * (x0d)) - ((x0n) * (1))) ((1) * (x0d))))), .int .i64 (0)]), .is (.int .i64 (cmp ((qn ((((nearZ (x0n) (x0d))) * (x0d)) - ((x0n) * (1))) ((1) * (x0d))) * ((2 : Int))) (((-1 : Int)) * (qd ((((nearZ (x0n) (x0d))) * (x0d)) - ((x0n) * (1))) ((1) * (x0d)))))), .is (.int .i64 (0)), .is (.int .i64 (cmp ((qn ((((nearZ (x0n) (x0d))) * (x0d)) - ((x0n) * (1))) ((1) * (x0d))) * ((2 : Int))) (((-1 : Int)) * (qd ((((nearZ (x0n) (x0d))) * (x0d)) - ((x0n) * (1))) ((1) * (x0d)))))), .is (.int .i64 (0))]) Z (by kernel_rfl) _ rfl (by kernel_rfl) (by kernel_rfl) rfl ⟨?_, ?_, ?_, ?_, ?_, ?_, ?_, ?_, trivial⟩ ?_
    · intro a e53 W Q Z; exact step_is (fun _ h => op_plain rfl rfl h) (run_load4 rfl (ev e53) (Z.bx 0 rfl))
    · intro a W Q Z; exact step_call (fun _ h => op_plain rfl rfl h) rfl Try.func33 rfl rfl (args1 rfl) (Z.callQ (trammellaw03_half.sem (by decide)))
    · intro a x56 e57 x58 e59 W Q Z; exact step_call (fun _ h => op_plain rfl rfl h) rfl Try.func20 rfl rfl (args2 (ev e57) (ev e59)) (Z.callV (rat_Cmp.sem (Z.own 4 rfl (Bd.fm (Bd.abs (Bd.qn (Bd.sub (Bd.mul (Bd.near F0n F0d) F0d) (Bd.mul F0n (Bd.lit (k := 64) (z := 1) (by decide)))))) (by decide))) (Z.own 5 rfl (Bd.fm (Bd.abs (Bd.qd (Bd.mul (Bd.lit (k := 64) (z := 1) (by decide)) F0d))) (by decide))) (Z.own 0 rfl (Bd.fm (Bd.abs (Bd.lit (k := 64) (z := -1) (by decide))) (by decide))) (Z.own 1 rfl (Bd.fm (Bd.abs (Bd.lit (k := 64) (z := 2) (by decide))) (by decide))) (Bd.mono (Bd.qn (Bd.sub (Bd.mul (Bd.near F0n F0d) F0d) (Bd.mul F0n (Bd.lit (k := 64) (z := 1) (by decide))))) (by decide)) (Bd.mono (Bd.qd (Bd.mul (Bd.lit (k := 64) (z := 1) (by decide)) F0d)) (by decide)) (Bd.mono (Bd.lit (k := 64) (z := -1) (by decide)) (by decide)) (Bd.mono (Bd.lit (k := 64) (z := 2) (by decide)) (by decide)) (qd_pos (pos_ne (Int.mul_pos (by decide) H))) (by decide)))
    · intro a x61 e62 W Q Z; exact step_is (fun _ h => op_plain rfl rfl h) (run_move rfl (ev e62))
    · intro a x64 e65 W Q Z; exact step_is (fun _ h => op_plain rfl rfl h) (run_extract rfl (ev e65) rfl)
    · intro a x67 e68 W Q Z; exact step_is (fun _ h => op_plain rfl rfl h) (run_extract rfl (ev e68) rfl)
    · intro a x70 e71 W Q Z; exact step_is (fun _ h => op_plain rfl rfl h) (run_assign rfl (ev e71))
    · intro a x73 e74 W Q Z; exact step_is (fun _ h => op_plain rfl rfl h) (run_assign rfl (ev e74))
    clear Z; intro x54 x55 x60 x63 x66 x69 x72 x75 W Z
    (try simp only [Act.put, List.setIfInBounds_toArray, List.set_cons_zero, List.set_cons_succ])
    show Code.wp _ _ _ _ _
    refine wp_seq ?_
    refine wp_dag2 (pre := [_, _, _, _, _, _, _, _]) (sps := [.is (.agg #[.bool (b0n), .slice a0n len0n cap0n, .bool (b0d), .slice a0d len0d cap0d]), .is (.agg #[.bool (decide (((x0n) : Int).fdiv ((x0d)) < 0)), x6.v]), spQ w ((((x0n) : Int).fdiv ((x0d)))) (1), spQi w (qn (((x0n) * (1)) - (((((x0n) : Int).fdiv ((x0d)))) * (x0d))) ((x0d) * (1))) (qd (((x0n) * (1)) - (((((x0n) : Int).fdiv ((x0d)))) * (x0d))) ((x0d) * (1))) (.int .i64 (0)), spQi w (qn (((x0n) * (1)) - (((((x0n) : Int).fdiv ((x0d)))) * (x0d))) ((x0d) * (1))) (qd (((x0n) * (1)) - (((((x0n) : Int).fdiv ((x0d)))) * (x0d))) ((x0d) * (1))) (.int .i64 (0)), spQ w (qn (((x0n) * (1)) - (((((x0n) : Int).fdiv ((x0d)))) * (x0d))) ((x0d) * (1))) (qd (((x0n) * (1)) - (((((x0n) : Int).fdiv ((x0d)))) * (x0d))) ((x0d) * (1))), .is (.int .i64 (0)), .box 29 #[.bool false, .slice none 0 0, .bool false, .slice none 0 0]]) Z (by kernel_rfl) _ rfl (by kernel_rfl) (by kernel_rfl) (by kernel_rfl) rfl (fun _ _ d _ _ h => by cases d <;> exact h) ⟨?_, ?_, ?_, ?_, ?_, ?_, ?_, ?_, trivial⟩ ?_
    · intro a e76 W Q Z; exact step_is (fun _ h => op_plain rfl rfl h) (run_load4 rfl (ev e76) (Z.bx 3 rfl))
    · intro a e78 W Q Z; exact step_is (fun _ h => op_plain rfl rfl h) (run_load2 rfl (ev e78) (Z.bx 1 rfl))
    · intro a x80 e81 W Q Z; exact step_call (fun _ h => op_plain rfl rfl h) rfl Try.func18 rfl rfl (args1 (ev e81)) (Z.callQ (rat_Of.sem (Z.own 12 rfl (Bd.fm (Bd.abs (fdiv_bd F0n)) (by decide))) ))
    · intro a x83 e84 x85 e86 W Q Z; exact step_call (fun _ h => op_plain rfl rfl h) rfl Try.func24 rfl rfl (args2 (ev e84) (ev e86)) (Z.callQi (rat_Sub.sem (N0n _ _ (Z.rd 16 rfl)) (N0d _ _ (Z.rd 17 rfl)) (Z.own 0 rfl (Bd.fm (Bd.abs (fdiv_bd F0n)) (by decide))) (Z.own 1 rfl (Bd.fm (Bd.abs (Bd.lit (k := 64) (z := 1) (by decide))) (by decide))) (Bd.mono F0n (by decide)) (Bd.mono F0d (by decide)) (Bd.mono (fdiv_bd F0n) (by decide)) (Bd.mono (Bd.lit (k := 64) (z := 1) (by decide)) (by decide)) H (by decide)))
    · intro a x88 e89 W Q Z; exact step_val x88 (fun _ h => op_plain rfl rfl h) (run_move rfl (ev e89)) (has_two (Z.has 0 rfl) (Z.has 1 rfl))
    · intro a x91 e92 W Q Z; exact step_val x91 (fun _ h => op_plain rfl rfl h) (run_extract rfl (ev e92) rfl) (has_two (Z.has 0 rfl) (Z.has 1 rfl))
    · intro a x94 e95 W Q Z; exact step_is (fun _ h => op_plain rfl rfl h) (run_extract rfl (ev e95) rfl)
    · intro a W Q Z; exact step_box (fun _ h => op_plain rfl rfl h) (by decide) (run_alloc4 rfl)
    clear Z; intro x77 x79 x82 x87 x90 x93 x96 g97 W Z
    (try simp only [Act.put, List.setIfInBounds_toArray, List.set_cons_zero, List.set_cons_succ])
    refine seq_store4 Z 0 rfl rfl rfl rfl rfl ?_; clear Z; intro W Z
    (try simp only [Act.put, List.setIfInBounds_toArray, List.set_cons_zero, List.set_cons_succ])
    refine seq_is (v := .int .i64 (0)) rfl (run_assign rfl rfl) ?_
    (try simp only [Act.put, List.setIfInBounds_toArray, List.set_cons_zero, List.set_cons_succ])
    show Code.wp _ _ _ _ _
    refine wp_seq ?_
    refine wp_dag (pre := [_, _, _, _, _, _, _, _, _]) (sps := [.is (.agg #[.bool (decide (qn (((x0n) * (1)) - (((((x0n) : Int).fdiv ((x0d)))) * (x0d))) ((x0d) * (1)) < 0)), x93.1.v, .bool (decide (qd (((x0n) * (1)) - (((((x0n) : Int).fdiv ((x0d)))) * (x0d))) ((x0d) * (1)) < 0)), x93.2.v]), .is (.agg #[.bool (false), .slice none 0 0]), spQ w ((0)) (1), .is (.tuple #[.int .i64 (cmp ((qn (((x0n) * (1)) - (((((x0n) : Int).fdiv ((x0d)))) * (x0d))) ((x0d) * (1))) * (1)) (((0)) * (qd (((x0n) * (1)) - (((((x0n) : Int).fdiv ((x0d)))) * (x0d))) ((x0d) * (1))))), .int .i64 (0)]), .is (.tuple #[.int .i64 (cmp ((qn (((x0n) * (1)) - (((((x0n) : Int).fdiv ((x0d)))) * (x0d))) ((x0d) * (1))) * (1)) (((0)) * (qd (((x0n) * (1)) - (((((x0n) : Int).fdiv ((x0d)))) * (x0d))) ((x0d) * (1))))), .int .i64 (0)]), .is (.int .i64 (cmp ((qn (((x0n) * (1)) - (((((x0n) : Int).fdiv ((x0d)))) * (x0d))) ((x0d) * (1))) * (1)) (((0)) * (qd (((x0n) * (1)) - (((((x0n) : Int).fdiv ((x0d)))) * (x0d))) ((x0d) * (1)))))), .is (.int .i64 (0)), .is (.int .i64 (cmp ((qn (((x0n) * (1)) - (((((x0n) : Int).fdiv ((x0d)))) * (x0d))) ((x0d) * (1))) * (1)) (((0)) * (qd (((x0n) * (1)) - (((((x0n) : Int).fdiv ((x0d)))) * (x0d))) ((x0d) * (1)))))), .is (.int .i64 (0))]) Z (by kernel_rfl) _ rfl (by kernel_rfl) (by kernel_rfl) rfl ⟨?_, ?_, ?_, ?_, ?_, ?_, ?_, ?_, ?_, trivial⟩ ?_
    · intro a e98 W Q Z; exact step_is (fun _ h => op_plain rfl rfl h) (run_load4 rfl (ev e98) (Z.bx 0 rfl))
    · intro a W Q Z; exact step_is (fun _ h => op_plain rfl rfl h) (run_build0 rfl)
    · intro a x101 e102 W Q Z; exact step_call (fun _ h => op_plain rfl rfl h) rfl Try.func18 rfl rfl (args1 (ev e102)) (Z.callQ (rat_Of.sem (NumV.nil _) ))
    · intro a x104 e105 x106 e107 W Q Z; exact step_call (fun _ h => op_plain rfl rfl h) rfl Try.func20 rfl rfl (args2 (ev e105) (ev e107)) (Z.callV (rat_Cmp.sem (Z.own 2 rfl (Bd.fm (Bd.abs (Bd.qn (Bd.sub (Bd.mul F0n (Bd.lit (k := 64) (z := 1) (by decide))) (Bd.mul (fdiv_bd F0n) F0d)))) (by decide))) (Z.own 3 rfl (Bd.fm (Bd.abs (Bd.qd (Bd.mul F0d (Bd.lit (k := 64) (z := 1) (by decide))))) (by decide))) (Z.own 0 rfl (Bd.fm (Bd.abs (Bd.lit (k := 64) (z := 0) (by decide))) (by decide))) (Z.own 1 rfl (Bd.fm (Bd.abs (Bd.lit (k := 64) (z := 1) (by decide))) (by decide))) (Bd.mono (Bd.qn (Bd.sub (Bd.mul F0n (Bd.lit (k := 64) (z := 1) (by decide))) (Bd.mul (fdiv_bd F0n) F0d))) (by decide)) (Bd.mono (Bd.qd (Bd.mul F0d (Bd.lit (k := 64) (z := 1) (by decide)))) (by decide)) (Bd.mono (Bd.lit (k := 64) (z := 0) (by decide)) (by decide)) (Bd.mono (Bd.lit (k := 64) (z := 1) (by decide)) (by decide)) (qd_pos (pos_ne (Int.mul_pos H (by decide)))) (by decide)))
    · intro a x109 e110 W Q Z; exact step_is (fun _ h => op_plain rfl rfl h) (run_move rfl (ev e110))
    · intro a x112 e113 W Q Z; exact step_is (fun _ h => op_plain rfl rfl h) (run_extract rfl (ev e113) rfl)
    · intro a x115 e116 W Q Z; exact step_is (fun _ h => op_plain rfl rfl h) (run_extract rfl (ev e116) rfl)
    · intro a x118 e119 W Q Z; exact step_is (fun _ h => op_plain rfl rfl h) (run_assign rfl (ev e119))
    · intro a x121 e122 W Q Z; exact step_is (fun _ h => op_plain rfl rfl h) (run_assign rfl (ev e122))
    clear Z; intro x99 x100 x103 x108 x111 x114 x117 x120 x123 W Z
    (try simp only [Act.put, List.setIfInBounds_toArray, List.set_cons_zero, List.set_cons_succ])
    show Code.wp _ _ _ _ _
    refine wp_seq ?_
    refine wp_dag (pre := [_, _, _, _, _, _, _, _]) (sps := [.is (.agg #[.bool (decide (qn (((x0n) * (1)) - (((((x0n) : Int).fdiv ((x0d)))) * (x0d))) ((x0d) * (1)) < 0)), x93.1.v, .bool (decide (qd (((x0n) * (1)) - (((((x0n) : Int).fdiv ((x0d)))) * (x0d))) ((x0d) * (1)) < 0)), x93.2.v]), spQ w ((2 : Int)) ((2 : Int)), .is (.tuple #[.int .i64 (cmp ((qn (((x0n) * (1)) - (((((x0n) : Int).fdiv ((x0d)))) * (x0d))) ((x0d) * (1))) * ((2 : Int))) (((2 : Int)) * (qd (((x0n) * (1)) - (((((x0n) : Int).fdiv ((x0d)))) * (x0d))) ((x0d) * (1))))), .int .i64 (0)]), .is (.tuple #[.int .i64 (cmp ((qn (((x0n) * (1)) - (((((x0n) : Int).fdiv ((x0d)))) * (x0d))) ((x0d) * (1))) * ((2 : Int))) (((2 : Int)) * (qd (((x0n) * (1)) - (((((x0n) : Int).fdiv ((x0d)))) * (x0d))) ((x0d) * (1))))), .int .i64 (0)]), .is (.int .i64 (cmp ((qn (((x0n) * (1)) - (((((x0n) : Int).fdiv ((x0d)))) * (x0d))) ((x0d) * (1))) * ((2 : Int))) (((2 : Int)) * (qd (((x0n) * (1)) - (((((x0n) : Int).fdiv ((x0d)))) * (x0d))) ((x0d) * (1)))))), .is (.int .i64 (0)), .is (.int .i64 (cmp ((qn (((x0n) * (1)) - (((((x0n) : Int).fdiv ((x0d)))) * (x0d))) ((x0d) * (1))) * ((2 : Int))) (((2 : Int)) * (qd (((x0n) * (1)) - (((((x0n) : Int).fdiv ((x0d)))) * (x0d))) ((x0d) * (1)))))), .is (.int .i64 (0))]) Z (by kernel_rfl) _ rfl (by kernel_rfl) (by kernel_rfl) rfl ⟨?_, ?_, ?_, ?_, ?_, ?_, ?_, ?_, trivial⟩ ?_
    · intro a e124 W Q Z; exact step_is (fun _ h => op_plain rfl rfl h) (run_load4 rfl (ev e124) (Z.bx 0 rfl))
    · intro a W Q Z; exact step_call (fun _ h => op_plain rfl rfl h) rfl Try.func33 rfl rfl (args1 rfl) (Z.callQ (trammellaw03_half.sem (by decide)))
    · intro a x127 e128 x129 e130 W Q Z; exact step_call (fun _ h => op_plain rfl rfl h) rfl Try.func20 rfl rfl (args2 (ev e128) (ev e130)) (Z.callV (rat_Cmp.sem (Z.own 4 rfl (Bd.fm (Bd.abs (Bd.qn (Bd.sub (Bd.mul F0n (Bd.lit (k := 64) (z := 1) (by decide))) (Bd.mul (fdiv_bd F0n) F0d)))) (by decide))) (Z.own 5 rfl (Bd.fm (Bd.abs (Bd.qd (Bd.mul F0d (Bd.lit (k := 64) (z := 1) (by decide))))) (by decide))) (Z.own 0 rfl (Bd.fm (Bd.abs (Bd.lit (k := 64) (z := 2) (by decide))) (by decide))) (Z.own 1 rfl (Bd.fm (Bd.abs (Bd.lit (k := 64) (z := 2) (by decide))) (by decide))) (Bd.mono (Bd.qn (Bd.sub (Bd.mul F0n (Bd.lit (k := 64) (z := 1) (by decide))) (Bd.mul (fdiv_bd F0n) F0d))) (by decide)) (Bd.mono (Bd.qd (Bd.mul F0d (Bd.lit (k := 64) (z := 1) (by decide)))) (by decide)) (Bd.mono (Bd.lit (k := 64) (z := 2) (by decide)) (by decide)) (Bd.mono (Bd.lit (k := 64) (z := 2) (by decide)) (by decide)) (qd_pos (pos_ne (Int.mul_pos H (by decide)))) (by decide)))
    · intro a x132 e133 W Q Z; exact step_is (fun _ h => op_plain rfl rfl h) (run_move rfl (ev e133))
    · intro a x135 e136 W Q Z; exact step_is (fun _ h => op_plain rfl rfl h) (run_extract rfl (ev e136) rfl)
    · intro a x138 e139 W Q Z; exact step_is (fun _ h => op_plain rfl rfl h) (run_extract rfl (ev e139) rfl)
    · intro a x141 e142 W Q Z; exact step_is (fun _ h => op_plain rfl rfl h) (run_assign rfl (ev e142))
    · intro a x144 e145 W Q Z; exact step_is (fun _ h => op_plain rfl rfl h) (run_assign rfl (ev e145))
    clear Z; intro x125 x126 x131 x134 x137 x140 x143 x146 W Z
    (try simp only [Act.put, List.setIfInBounds_toArray, List.set_cons_zero, List.set_cons_succ])
    show Code.wp _ _ _ _ _
    refine wp_seq ?_
    refine wp_region_list ?_
    refine seq_is (v := .int .i64 (0)) rfl (run_move rfl rfl) ?_
    (try simp only [Act.put, List.setIfInBounds_toArray, List.set_cons_zero, List.set_cons_succ])
    refine seq_is (v := .bool (decide ((0 : Int) = (0)))) rfl (run_eqlE rfl rfl rfl) ?_
    (try simp only [Act.put, List.setIfInBounds_toArray, List.set_cons_zero, List.set_cons_succ])
    refine seq_is (v := .bool (decide ((0 : Int) = (0)))) rfl (run_move rfl rfl) ?_
    (try simp only [Act.put, List.setIfInBounds_toArray, List.set_cons_zero, List.set_cons_succ])
    refine list_want rfl rfl (congrArg some (congrArg Value.bool (Eq.refl true))) (wp_run (v := .int .i64 (0)) (run_move rfl rfl) ?_)
    (try simp only [Act.put, List.setIfInBounds_toArray, List.set_cons_zero, List.set_cons_succ])
    refine list_want rfl rfl (congrArg some (congrArg Value.bool (Eq.refl true))) (wp_run (v := .bool (decide ((0 : Int) = (0)))) (run_eqlE rfl rfl rfl) ?_)
    (try simp only [Act.put, List.setIfInBounds_toArray, List.set_cons_zero, List.set_cons_succ])
    refine seq_is (v := .bool (decide ((0 : Int) = (0)))) rfl (run_pickT rfl rfl rfl) ?_
    (try simp only [Act.put, List.setIfInBounds_toArray, List.set_cons_zero, List.set_cons_succ])
    refine seq_is (v := .bool (decide ((0 : Int) = (0)))) rfl (run_move rfl rfl) ?_
    (try simp only [Act.put, List.setIfInBounds_toArray, List.set_cons_zero, List.set_cons_succ])
    refine list_want rfl rfl (congrArg some (congrArg Value.bool (Eq.refl true))) (wp_run (v := .int .i64 (0)) (run_move rfl rfl) ?_)
    (try simp only [Act.put, List.setIfInBounds_toArray, List.set_cons_zero, List.set_cons_succ])
    refine list_want rfl rfl (congrArg some (congrArg Value.bool (Eq.refl true))) (wp_run (v := .bool (decide ((0 : Int) = (0)))) (run_eqlE rfl rfl rfl) ?_)
    (try simp only [Act.put, List.setIfInBounds_toArray, List.set_cons_zero, List.set_cons_succ])
    refine seq_is (v := .bool (decide ((0 : Int) = (0)))) rfl (run_pickT rfl rfl rfl) ?_
    (try simp only [Act.put, List.setIfInBounds_toArray, List.set_cons_zero, List.set_cons_succ])
    refine seq_is (v := .bool (decide ((0 : Int) = (0)))) rfl (run_move rfl rfl) ?_
    (try simp only [Act.put, List.setIfInBounds_toArray, List.set_cons_zero, List.set_cons_succ])
    refine list_want rfl rfl (congrArg some (congrArg Value.bool (Eq.refl true))) (wp_run (v := .int .i64 (0)) (run_move rfl rfl) ?_)
    (try simp only [Act.put, List.setIfInBounds_toArray, List.set_cons_zero, List.set_cons_succ])
    refine list_want rfl rfl (congrArg some (congrArg Value.bool (Eq.refl true))) (wp_run (v := .bool (decide ((0 : Int) = (0)))) (run_eqlE rfl rfl rfl) ?_)
    (try simp only [Act.put, List.setIfInBounds_toArray, List.set_cons_zero, List.set_cons_succ])
    refine seq_is (v := .bool (decide ((0 : Int) = (0)))) rfl (run_pickT rfl rfl rfl) ?_
    (try simp only [Act.put, List.setIfInBounds_toArray, List.set_cons_zero, List.set_cons_succ])
    refine seq_is (v := .bool (decide ((0 : Int) = (0)))) rfl (run_move rfl rfl) ?_
    (try simp only [Act.put, List.setIfInBounds_toArray, List.set_cons_zero, List.set_cons_succ])
    refine list_want rfl rfl (congrArg some (congrArg Value.bool (Eq.refl true))) (wp_run (v := .int .i64 (0)) (run_move rfl rfl) ?_)
    (try simp only [Act.put, List.setIfInBounds_toArray, List.set_cons_zero, List.set_cons_succ])
    refine list_want rfl rfl (congrArg some (congrArg Value.bool (Eq.refl true))) (wp_run (v := .bool (decide ((0 : Int) = (0)))) (run_eqlE rfl rfl rfl) ?_)
    (try simp only [Act.put, List.setIfInBounds_toArray, List.set_cons_zero, List.set_cons_succ])
    refine seq_is (v := .bool (decide ((0 : Int) = (0)))) rfl (run_pickT rfl rfl rfl) ?_
    (try simp only [Act.put, List.setIfInBounds_toArray, List.set_cons_zero, List.set_cons_succ])
    refine seq_is (v := .bool (decide ((0 : Int) = (0)))) rfl (run_move rfl rfl) ?_
    (try simp only [Act.put, List.setIfInBounds_toArray, List.set_cons_zero, List.set_cons_succ])
    refine list_want rfl rfl (congrArg some (congrArg Value.bool (Eq.refl true))) (wp_run (v := .int .i64 (cmp ((qn ((((nearZ (x0n) (x0d))) * (x0d)) - ((x0n) * (1))) ((1) * (x0d))) * ((2 : Int))) (((1 : Int)) * (qd ((((nearZ (x0n) (x0d))) * (x0d)) - ((x0n) * (1))) ((1) * (x0d)))))) (run_move rfl rfl) ?_)
    (try simp only [Act.put, List.setIfInBounds_toArray, List.set_cons_zero, List.set_cons_succ])
    refine list_want rfl rfl (congrArg some (congrArg Value.bool (Eq.refl true))) (wp_run (v := .bool (decide ((cmp ((qn ((((nearZ (x0n) (x0d))) * (x0d)) - ((x0n) * (1))) ((1) * (x0d))) * ((2 : Int))) (((1 : Int)) * (qd ((((nearZ (x0n) (x0d))) * (x0d)) - ((x0n) * (1))) ((1) * (x0d))))) ≤ (0)))) (run_leq rfl rfl rfl) ?_)
    (try simp only [Act.put, List.setIfInBounds_toArray, List.set_cons_zero, List.set_cons_succ])
    refine seq_is (v := .bool (decide ((cmp ((qn ((((nearZ (x0n) (x0d))) * (x0d)) - ((x0n) * (1))) ((1) * (x0d))) * ((2 : Int))) (((1 : Int)) * (qd ((((nearZ (x0n) (x0d))) * (x0d)) - ((x0n) * (1))) ((1) * (x0d))))) ≤ (0)))) rfl (run_pickT rfl rfl rfl) ?_
    (try simp only [Act.put, List.setIfInBounds_toArray, List.set_cons_zero, List.set_cons_succ])
    refine seq_is (v := .bool (decide ((cmp ((qn ((((nearZ (x0n) (x0d))) * (x0d)) - ((x0n) * (1))) ((1) * (x0d))) * ((2 : Int))) (((1 : Int)) * (qd ((((nearZ (x0n) (x0d))) * (x0d)) - ((x0n) * (1))) ((1) * (x0d))))) ≤ (0)))) rfl (run_move rfl rfl) ?_
    (try simp only [Act.put, List.setIfInBounds_toArray, List.set_cons_zero, List.set_cons_succ])
    refine list_want rfl rfl (congrArg some (congrArg Value.bool (decide_eq_true (near_up H)))) (wp_run (v := .int .i64 (cmp ((qn ((((nearZ (x0n) (x0d))) * (x0d)) - ((x0n) * (1))) ((1) * (x0d))) * ((2 : Int))) (((-1 : Int)) * (qd ((((nearZ (x0n) (x0d))) * (x0d)) - ((x0n) * (1))) ((1) * (x0d)))))) (run_move rfl rfl) ?_)
    (try simp only [Act.put, List.setIfInBounds_toArray, List.set_cons_zero, List.set_cons_succ])
    refine list_want rfl rfl (congrArg some (congrArg Value.bool (decide_eq_true (near_up H)))) (wp_run (v := .bool (decide ((0) < (cmp ((qn ((((nearZ (x0n) (x0d))) * (x0d)) - ((x0n) * (1))) ((1) * (x0d))) * ((2 : Int))) (((-1 : Int)) * (qd ((((nearZ (x0n) (x0d))) * (x0d)) - ((x0n) * (1))) ((1) * (x0d)))))))) (run_gtr rfl rfl rfl) ?_)
    (try simp only [Act.put, List.setIfInBounds_toArray, List.set_cons_zero, List.set_cons_succ])
    refine seq_is (v := .bool (decide ((0) < (cmp ((qn ((((nearZ (x0n) (x0d))) * (x0d)) - ((x0n) * (1))) ((1) * (x0d))) * ((2 : Int))) (((-1 : Int)) * (qd ((((nearZ (x0n) (x0d))) * (x0d)) - ((x0n) * (1))) ((1) * (x0d)))))))) rfl (run_pickT rfl ((show _ = Value.bool (decide ((cmp ((qn ((((nearZ (x0n) (x0d))) * (x0d)) - ((x0n) * (1))) ((1) * (x0d))) * ((2 : Int))) (((1 : Int)) * (qd ((((nearZ (x0n) (x0d))) * (x0d)) - ((x0n) * (1))) ((1) * (x0d))))) ≤ (0))) from rfl).trans (congrArg Value.bool (decide_eq_true (near_up H)))) rfl) ?_
    (try simp only [Act.put, List.setIfInBounds_toArray, List.set_cons_zero, List.set_cons_succ])
    refine seq_is (v := .bool (decide ((0) < (cmp ((qn ((((nearZ (x0n) (x0d))) * (x0d)) - ((x0n) * (1))) ((1) * (x0d))) * ((2 : Int))) (((-1 : Int)) * (qd ((((nearZ (x0n) (x0d))) * (x0d)) - ((x0n) * (1))) ((1) * (x0d)))))))) rfl (run_move rfl rfl) ?_
    (try simp only [Act.put, List.setIfInBounds_toArray, List.set_cons_zero, List.set_cons_succ])
    refine list_want rfl rfl (congrArg some (congrArg Value.bool (decide_eq_true (near_low H)))) (wp_run (v := .int .i64 (cmp ((qn (((x0n) * (1)) - (((((x0n) : Int).fdiv ((x0d)))) * (x0d))) ((x0d) * (1))) * (1)) (((0)) * (qd (((x0n) * (1)) - (((((x0n) : Int).fdiv ((x0d)))) * (x0d))) ((x0d) * (1)))))) (run_move rfl rfl) ?_)
    (try simp only [Act.put, List.setIfInBounds_toArray, List.set_cons_zero, List.set_cons_succ])
    refine list_want rfl rfl (congrArg some (congrArg Value.bool (decide_eq_true (near_low H)))) (wp_run (v := .bool (decide ((0) ≤ (cmp ((qn (((x0n) * (1)) - (((((x0n) : Int).fdiv ((x0d)))) * (x0d))) ((x0d) * (1))) * (1)) (((0)) * (qd (((x0n) * (1)) - (((((x0n) : Int).fdiv ((x0d)))) * (x0d))) ((x0d) * (1)))))))) (run_geq rfl rfl rfl) ?_)
    (try simp only [Act.put, List.setIfInBounds_toArray, List.set_cons_zero, List.set_cons_succ])
    refine seq_is (v := .bool (decide ((0) ≤ (cmp ((qn (((x0n) * (1)) - (((((x0n) : Int).fdiv ((x0d)))) * (x0d))) ((x0d) * (1))) * (1)) (((0)) * (qd (((x0n) * (1)) - (((((x0n) : Int).fdiv ((x0d)))) * (x0d))) ((x0d) * (1)))))))) rfl (run_pickT rfl ((show _ = Value.bool (decide ((0) < (cmp ((qn ((((nearZ (x0n) (x0d))) * (x0d)) - ((x0n) * (1))) ((1) * (x0d))) * ((2 : Int))) (((-1 : Int)) * (qd ((((nearZ (x0n) (x0d))) * (x0d)) - ((x0n) * (1))) ((1) * (x0d))))))) from rfl).trans (congrArg Value.bool (decide_eq_true (near_low H)))) rfl) ?_
    (try simp only [Act.put, List.setIfInBounds_toArray, List.set_cons_zero, List.set_cons_succ])
    refine seq_is (v := .bool (decide ((0) ≤ (cmp ((qn (((x0n) * (1)) - (((((x0n) : Int).fdiv ((x0d)))) * (x0d))) ((x0d) * (1))) * (1)) (((0)) * (qd (((x0n) * (1)) - (((((x0n) : Int).fdiv ((x0d)))) * (x0d))) ((x0d) * (1)))))))) rfl (run_move rfl rfl) ?_
    (try simp only [Act.put, List.setIfInBounds_toArray, List.set_cons_zero, List.set_cons_succ])
    refine list_want rfl rfl (congrArg some (congrArg Value.bool (decide_eq_true (floor_0 H)))) (wp_run (v := .int .i64 (cmp ((qn (((x0n) * (1)) - (((((x0n) : Int).fdiv ((x0d)))) * (x0d))) ((x0d) * (1))) * ((2 : Int))) (((2 : Int)) * (qd (((x0n) * (1)) - (((((x0n) : Int).fdiv ((x0d)))) * (x0d))) ((x0d) * (1)))))) (run_move rfl rfl) ?_)
    (try simp only [Act.put, List.setIfInBounds_toArray, List.set_cons_zero, List.set_cons_succ])
    refine list_want rfl rfl (congrArg some (congrArg Value.bool (decide_eq_true (floor_0 H)))) (wp_run (v := .bool (decide ((cmp ((qn (((x0n) * (1)) - (((((x0n) : Int).fdiv ((x0d)))) * (x0d))) ((x0d) * (1))) * ((2 : Int))) (((2 : Int)) * (qd (((x0n) * (1)) - (((((x0n) : Int).fdiv ((x0d)))) * (x0d))) ((x0d) * (1))))) < (0)))) (run_lss rfl rfl rfl) ?_)
    (try simp only [Act.put, List.setIfInBounds_toArray, List.set_cons_zero, List.set_cons_succ])
    refine seq_is (v := .bool (decide ((cmp ((qn (((x0n) * (1)) - (((((x0n) : Int).fdiv ((x0d)))) * (x0d))) ((x0d) * (1))) * ((2 : Int))) (((2 : Int)) * (qd (((x0n) * (1)) - (((((x0n) : Int).fdiv ((x0d)))) * (x0d))) ((x0d) * (1))))) < (0)))) rfl (run_pickT rfl ((show _ = Value.bool (decide ((0) ≤ (cmp ((qn (((x0n) * (1)) - (((((x0n) : Int).fdiv ((x0d)))) * (x0d))) ((x0d) * (1))) * (1)) (((0)) * (qd (((x0n) * (1)) - (((((x0n) : Int).fdiv ((x0d)))) * (x0d))) ((x0d) * (1))))))) from rfl).trans (congrArg Value.bool (decide_eq_true (floor_0 H)))) rfl) ?_
    (try simp only [Act.put, List.setIfInBounds_toArray, List.set_cons_zero, List.set_cons_succ])
    refine seq_is (v := .bool (decide ((cmp ((qn (((x0n) * (1)) - (((((x0n) : Int).fdiv ((x0d)))) * (x0d))) ((x0d) * (1))) * ((2 : Int))) (((2 : Int)) * (qd (((x0n) * (1)) - (((((x0n) : Int).fdiv ((x0d)))) * (x0d))) ((x0d) * (1))))) < (0)))) rfl (run_assign rfl rfl) ?_
    (try simp only [Act.put, List.setIfInBounds_toArray, List.set_cons_zero, List.set_cons_succ])
    show Code.wp _ _ _ _ _
    refine wp_ret ?_
    exact Z.endsV rfl rfl rfl (by first | rfl | exact (congrArg Value.bool (decide_eq_true (floor_1 H))) | simp)
  · go_enter Try.func8, Try.ntmps8
    refine wp_seq ?_
    refine wp_region_list ?_
    refine seq_box4 Z rfl rfl rfl ?_; clear Z; intro g1 W Z
    (try simp only [Act.put, List.setIfInBounds_toArray, List.set_cons_zero, List.set_cons_succ])
    refine seq_is (v := .bool (false)) rfl (run_assign rfl rfl) ?_
    (try simp only [Act.put, List.setIfInBounds_toArray, List.set_cons_zero, List.set_cons_succ])
    show Code.wp _ _ _ _ _
    refine wp_seq ?_
    refine wp_seq ?_
    refine wp_region_list ?_
    refine seq_call Z rfl rfl Try.func16 rfl rfl (show Array.map _ #[] = #[] by simp) (Z.callV (trammellaw03_awake.sem _)) ?_; clear Z; intro x2 W Z
    (try simp only [Act.put, List.setIfInBounds_toArray, List.set_cons_zero, List.set_cons_succ])
    refine seq_is (v := .bool (!(true))) rfl (run_not rfl rfl) ?_
    (try simp only [Act.put, List.setIfInBounds_toArray, List.set_cons_zero, List.set_cons_succ])
    show Code.wp _ _ _ _ _
    refine wp_cond_false rfl ?_
    refine wp_skip ?_
    show Code.wp _ _ _ _ _
    refine wp_seq ?_
    refine wp_seq ?_
    refine wp_region_list ?_
    refine seq_is (v := .agg #[.bool (b0n), .slice a0n len0n cap0n, .bool (b0d), .slice a0d len0d cap0d]) rfl (run_load4 rfl rfl (Z.bx 0 rfl)) ?_
    (try simp only [Act.put, List.setIfInBounds_toArray, List.set_cons_zero, List.set_cons_succ])
    refine seq_call Z rfl rfl Try.func31 rfl rfl (args1 rfl) (Z.callV (trammellaw03_ok.sem (N0n _ _ (Z.rd 0 rfl)) (N0d _ _ (Z.rd 1 rfl)) (Bd.mono F0d (by decide)))) ?_; clear Z; intro x3 W Z
    (try simp only [Act.put, List.setIfInBounds_toArray, List.set_cons_zero, List.set_cons_succ])
    refine seq_is (v := .bool (!(okB1 (x0d)))) rfl (run_not rfl rfl) ?_
    (try simp only [Act.put, List.setIfInBounds_toArray, List.set_cons_zero, List.set_cons_succ])
    show Code.wp _ _ _ _ _
    refine wp_cond_true ((show _ = Value.bool (!(okB1 (x0d))) from rfl).trans (congrArg Value.bool (congrArg Bool.not (decide_eq_false H)))) ?_
    refine wp_seq ?_
    refine wp_region_list ?_
    refine seq_is (v := .bool (true)) rfl (run_assign rfl rfl) ?_
    (try simp only [Act.put, List.setIfInBounds_toArray, List.set_cons_zero, List.set_cons_succ])
    show Code.wp _ _ _ _ _
    refine wp_ret ?_
    exact Z.endsV rfl rfl rfl rfl

end Go.Proofs.Ytndopanohhdfgaa.PA

