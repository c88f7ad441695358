/- The walk of the law ZintForms: what its code answers for arguments of a bulk of at most 1048576. -/
import Derived.Outline
import Derived.Test.YtmbmbmkmjbpcpaaZDK
import Derived.Test.YtmbmbmkmjbpcpaaZGK
import Derived.Test.YtmbmbmkmjbpcpaaPAx0K
namespace Go.Proofs.Ytmbmbmkmjbpcpaa.PA
open Go Go.Proofs.Ytmbmbmkmjbpcpaa.Nums Go.RowKit Go.Proofs.YtmbmbmkmjbpcpaaW.PrintWords Go.Proofs.YtmbmbmkmjbpcpaaW.PrintLast Go.Proofs.YtmbmbmkmjbpcpaaW.PrintMore
set_option linter.unusedVariables false
set_option linter.unusedSimpArgs false
theorem lit_rng {n : Int} (h : (Lit.int .i64 n).wf = true) : -9223372036854775808 ≤ n ∧ n ≤ 9223372036854775807 := by
  simp only [Lit.wf, Bool.and_eq_true, decide_eq_true_eq] at h
  exact h
set_option maxHeartbeats 8000000 in
set_option maxRecDepth 100000 in
theorem trammellaw02_ZintForms.walk (a0 : Int) (b1 : Bool) (a1 : Option Addr) (len1 cap1 : Nat) (q1 : List Int) (b2 : Bool) (a2 : Option Addr) (len2 cap2 : Nat) (q2 : List Int) (w : World) (w0 : (Lit.int .i64 a0).wf = true) (w1 : bulks.IsRow .u32 w a1 len1 cap1 q1) (y1 : len1 ≤ 1048576) (w2 : bulks.IsRow .u32 w a2 len2 cap2 q2) (y2 : len2 ≤ 1048576) : Calls Try.prog 5 #[.int .i64 a0, .agg #[.bool b1, .slice a1 len1 cap1], .agg #[.bool b2, .slice a2 len2 cap2]] w (RetV w (.bool true)) := by
  obtain ⟨l1, r1, o1, hl1⟩ := row_rd w1 y1
  obtain ⟨x1, N1, F1, hx1⟩ := arg_num (b := b1) o1 hl1
  obtain ⟨l2, r2, o2, hl2⟩ := row_rd w2 y2
  obtain ⟨x2, N2, F2, hx2⟩ := arg_num (b := b2) o2 hl2
  have Z := Zt.start w (r1.has.append r2.has)
  have h0 := lit_rng w0
  have FA0 : Bd 64 a0 := Nat.lt_of_le_of_lt (show a0.natAbs ≤ 9223372036854775808 by omega) (by decide)
  go_enter Try.func5, Try.ntmps5
  refine wp_seq ?_
  refine wp_region_list ?_
  refine seq_box Z rfl rfl rfl ?_; clear Z; intro g1 W Z
  (try simp only [Act.put, List.setIfInBounds_toArray, List.set_cons_zero, List.set_cons_succ])
  refine seq_box Z rfl rfl rfl ?_; clear Z; intro g2 W Z
  (try simp only [Act.put, List.setIfInBounds_toArray, List.set_cons_zero, List.set_cons_succ])
  refine seq_is (v := .bool (false)) rfl (run_assign rfl rfl) ?_
  (try simp only [Act.put, List.setIfInBounds_toArray, List.set_cons_zero, List.set_cons_succ])
  show Code.wp _ _ _ _ _
  refine wp_seq ?_
  refine wp_seq ?_
  refine wp_dag (pre := [_, _, _, _, _, _, _, _, _, _, _, _, _, _, _]) (sps := [.is (.int .i64 a0), spI w (a0), .is (.int .i64 a0), spI w (a0), .is (.bool (true)), .is (.bool (!(true))), .is (.bool (!(true))), .is (.agg #[.bool (b1), .slice a1 len1 cap1]), spR w (b1) (l1), spI w ((x1)), .is (.agg #[.bool (b1), .slice a1 len1 cap1]), spI w ((x1)), .is (.bool (true)), .is (.bool (!(true))), .is (.bool (!(true)))]) Z (by kernel_rfl) _ rfl (by kernel_rfl) (by kernel_rfl) rfl ⟨?_, ?_, ?_, ?_, ?_, ?_, ?_, ?_, ?_, ?_, ?_, ?_, ?_, ?_, ?_, trivial⟩ ?_
  · intro a e3 W Q Z; exact step_is (fun _ h => op_plain rfl rfl h) (run_move rfl (ev e3))
  · intro a x5 e6 W Q Z; exact step_call (fun _ h => op_plain rfl rfl h) rfl Try.func30 rfl rfl (args1 (ev e6)) (Z.callI (zint_Of.sem (by omega) (by omega)))
  · intro a e8 W Q Z; exact step_is (fun _ h => op_plain rfl rfl h) (run_move rfl (ev e8))
  · intro a x10 e11 W Q Z; exact step_call (fun _ h => op_plain rfl rfl h) rfl Try.func31 rfl rfl (args1 (ev e11)) (Z.callI (trammelref02_Of.sem (by omega) (by omega)))
  · intro a x13 e14 x15 e16 W Q Z; exact step_call (fun _ h => op_plain rfl rfl h) rfl Try.func16 rfl rfl (args2 (ev e14) (ev e16)) (Z.callV (eqI_same (z1 := a0) (z2 := a0) (Z.rdO 1 rfl) (Z.rdO 0 rfl) (Bd.fm (Bd.abs FA0) (by decide)) rfl))
  · intro a x18 e19 W Q Z; exact step_is (fun _ h => op_plain rfl rfl h) (run_not rfl (ev e19))
  · intro a x21 e22 W Q Z; exact step_is (fun _ h => op_plain rfl rfl h) (run_move rfl (ev e22))
  · intro a x24 e25 e26 W Q Z; exact step_is (fun _ h => op_want rfl rfl rfl e25 h) (run_load2 rfl (ev e26) (Z.bx 1 rfl))
  · intro a x28 e29 x30 e31 W Q Z; exact step_call (fun _ h => op_want rfl rfl rfl e29 h) rfl Try.func15 rfl rfl (args1 (ev e31)) (Z.callR (trammellaw02_own.res (Z.rd 0 rfl) hl1))
  · intro a x33 e34 x35 e36 W Q Z; exact step_call (fun _ h => op_want rfl rfl rfl e34 h) rfl Try.func32 rfl rfl (args1 (ev e36)) (Z.callI (zint_Form.sem (N1 _ _ (Z.rdO 0 rfl))  ))
  · intro a x38 e39 e40 W Q Z; exact step_is (fun _ h => op_want rfl rfl rfl e39 h) (run_load2 rfl (ev e40) (Z.bx 1 rfl))
  · intro a x42 e43 x44 e45 W Q Z; exact step_call (fun _ h => op_want rfl rfl rfl e43 h) rfl Try.func33 rfl rfl (args1 (ev e45)) (Z.callI (trammelref02_Norm.sem (N1 _ _ (Z.rd 0 rfl))  ))
  · intro a x47 e48 x49 e50 x51 e52 W Q Z; exact step_call (fun _ h => op_want rfl rfl rfl e48 h) rfl Try.func16 rfl rfl (args2 (ev e50) (ev e52)) (Z.callV (eqI_same (z1 := (x1)) (z2 := (x1)) (Z.rdO 1 rfl) (Z.rdO 0 rfl) (Bd.fm (Bd.abs F1) (by decide)) rfl))
  · intro a x54 e55 x56 e57 W Q Z; exact step_is (fun _ h => op_want rfl rfl rfl e55 h) (run_not rfl (ev e57))
  · intro a x59 e60 x61 e62 W Q Z; exact step_is (fun _ h => op_plain rfl rfl h) (run_pickF rfl (ev e60) (ev e62))
  clear Z; intro x4 x7 x9 x12 x17 x20 x23 x27 x32 x37 x41 x46 x53 x58 x63 W Z
  (try simp only [Act.put, List.setIfInBounds_toArray, List.set_cons_zero, List.set_cons_succ])
  show Code.wp _ _ _ _ _
  refine wp_cond_false rfl ?_
  refine wp_skip ?_
  show Code.wp _ _ _ _ _
  refine wp_seq ?_
  refine wp_region_list ?_
  refine seq_is (v := .agg #[.bool (b1), .slice a1 len1 cap1]) rfl (run_load2 rfl rfl (Z.bx 1 rfl)) ?_
  (try simp only [Act.put, List.setIfInBounds_toArray, List.set_cons_zero, List.set_cons_succ])
  refine seq_call Z rfl rfl Try.func15 rfl rfl (args1 rfl) (Z.callR (trammellaw02_own.res (Z.rd 5 rfl) hl1)) ?_; clear Z; intro x64 W Z
  (try simp only [Act.put, List.setIfInBounds_toArray, List.set_cons_zero, List.set_cons_succ])
  refine seq_call Z rfl rfl Try.func34 rfl rfl (args1 rfl) (Z.callV (zint_Small.sem (N1 _ _ (Z.rdO 0 rfl))  )) ?_; clear Z; intro x65 W Z
  (try simp only [Act.put, List.setIfInBounds_toArray, List.set_cons_zero, List.set_cons_succ])
  refine seq_is (v := .tuple #[.int .i64 (smallV (x1)), .bool (smallB (x1))]) rfl (run_move rfl rfl) ?_
  (try simp only [Act.put, List.setIfInBounds_toArray, List.set_cons_zero, List.set_cons_succ])
  refine seq_is (v := .int .i64 (smallV (x1))) rfl (run_extract rfl rfl rfl) ?_
  (try simp only [Act.put, List.setIfInBounds_toArray, List.set_cons_zero, List.set_cons_succ])
  refine seq_is (v := .bool (smallB (x1))) rfl (run_extract rfl rfl rfl) ?_
  (try simp only [Act.put, List.setIfInBounds_toArray, List.set_cons_zero, List.set_cons_succ])
  refine seq_is (v := .int .i64 (smallV (x1))) rfl (run_assign rfl rfl) ?_
  (try simp only [Act.put, List.setIfInBounds_toArray, List.set_cons_zero, List.set_cons_succ])
  refine seq_is (v := .bool (smallB (x1))) rfl (run_assign rfl rfl) ?_
  (try simp only [Act.put, List.setIfInBounds_toArray, List.set_cons_zero, List.set_cons_succ])
  show Code.wp _ _ _ _ _
  refine wp_seq ?_
  refine wp_region_list ?_
  refine seq_is (v := .agg #[.bool (b1), .slice a1 len1 cap1]) rfl (run_load2 rfl rfl (Z.bx 1 rfl)) ?_
  (try simp only [Act.put, List.setIfInBounds_toArray, List.set_cons_zero, List.set_cons_succ])
  refine seq_call Z rfl rfl Try.func35 rfl rfl (args1 rfl) (Z.callV (trammelref02_Small.sem (N1 _ _ (Z.rd 6 rfl)) (Bd.fm (Bd.add (Bd.abs F1) (Bd.abs (Bd.neg (Bd.lit (k := 64) (z := -9223372036854775808) (by decide))))) (by decide)) (Bd.fm (Bd.sub (Bd.abs F1) (Bd.abs (Bd.neg (Bd.lit (k := 64) (z := -9223372036854775808) (by decide))))) (by decide)) (Bd.fm (Bd.sub (Bd.abs (Bd.neg (Bd.lit (k := 64) (z := -9223372036854775808) (by decide)))) (Bd.abs F1)) (by decide)) (Bd.fm (Bd.abs (Bd.sub F1 (Bd.lit (k := 64) (z := -9223372036854775808) (by decide)))) (by decide)) (Bd.fm (Bd.add (Bd.abs F1) (Bd.abs (Bd.neg (Bd.lit (k := 64) (z := 9223372036854775807) (by decide))))) (by decide)) (Bd.fm (Bd.sub (Bd.abs F1) (Bd.abs (Bd.neg (Bd.lit (k := 64) (z := 9223372036854775807) (by decide))))) (by decide)) (Bd.fm (Bd.sub (Bd.abs (Bd.neg (Bd.lit (k := 64) (z := 9223372036854775807) (by decide)))) (Bd.abs F1)) (by decide)) (Bd.fm (Bd.abs (Bd.sub F1 (Bd.lit (k := 64) (z := 9223372036854775807) (by decide)))) (by decide)) (Bd.fm (Bd.abs F1) (by decide)) )) ?_; clear Z; intro x66 W Z
  (try simp only [Act.put, List.setIfInBounds_toArray, List.set_cons_zero, List.set_cons_succ])
  refine seq_is (v := .tuple #[.int .i64 (smallV (x1)), .bool (smallB (x1))]) rfl (run_move rfl rfl) ?_
  (try simp only [Act.put, List.setIfInBounds_toArray, List.set_cons_zero, List.set_cons_succ])
  refine seq_is (v := .int .i64 (smallV (x1))) rfl (run_extract rfl rfl rfl) ?_
  (try simp only [Act.put, List.setIfInBounds_toArray, List.set_cons_zero, List.set_cons_succ])
  refine seq_is (v := .bool (smallB (x1))) rfl (run_extract rfl rfl rfl) ?_
  (try simp only [Act.put, List.setIfInBounds_toArray, List.set_cons_zero, List.set_cons_succ])
  refine seq_is (v := .int .i64 (smallV (x1))) rfl (run_assign rfl rfl) ?_
  (try simp only [Act.put, List.setIfInBounds_toArray, List.set_cons_zero, List.set_cons_succ])
  refine seq_is (v := .bool (smallB (x1))) rfl (run_assign rfl rfl) ?_
  (try simp only [Act.put, List.setIfInBounds_toArray, List.set_cons_zero, List.set_cons_succ])
  show Code.wp _ _ _ _ _
  refine wp_seq ?_
  refine wp_dag (pre := [_, _, _, _, _, _, _, _, _, _, _, _, _, _, _, _, _, _, _, _, _, _, _, _, _, _, _, _]) (sps := [.is (.int .i64 (smallV (x1))), .is (.int .i64 (smallV (x1))), .is (.bool (decide ((smallV (x1)) = (smallV (x1))))), .is (.bool (decide ((smallV (x1)) = (smallV (x1))))), .is (.bool (smallB (x1))), .is (.bool (smallB (x1))), .is (.bool ((smallB (x1)) == (smallB (x1)))), .is (.bool ((smallB (x1)) == (smallB (x1)))), .is (.bool ((smallB (x1)) == (smallB (x1)))), .is (.agg #[.bool (b1), .slice a1 len1 cap1]), spR w (b1) (l1), .is (.int .i64 ((x1).sign)), .is (.agg #[.bool (b1), .slice a1 len1 cap1]), .is (.int .i64 ((x1).sign)), .is (.bool (decide (((x1).sign) = ((x1).sign)))), .is (.bool (decide (((x1).sign) = ((x1).sign)))), .is (.bool (decide (((x1).sign) = ((x1).sign)))), .is (.agg #[.bool (b1), .slice a1 len1 cap1]), spR w (b1) (l1), .is (.agg #[.bool (b2), .slice a2 len2 cap2]), spR w (b2) (l2), .is (.int .i64 (cmp (x1) (x2))), .is (.agg #[.bool (b1), .slice a1 len1 cap1]), .is (.agg #[.bool (b2), .slice a2 len2 cap2]), .is (.int .i64 (cmp (x1) (x2))), .is (.bool (decide ((cmp (x1) (x2)) = (cmp (x1) (x2))))), .is (.bool (decide ((cmp (x1) (x2)) = (cmp (x1) (x2))))), .is (.bool (decide ((cmp (x1) (x2)) = (cmp (x1) (x2)))))]) Z (by kernel_rfl) _ rfl (by kernel_rfl) (by kernel_rfl) rfl ⟨?_, ?_, ?_, ?_, ?_, ?_, ?_, ?_, ?_, ?_, ?_, ?_, ?_, ?_, ?_, ?_, ?_, ?_, ?_, ?_, ?_, ?_, ?_, ?_, ?_, ?_, ?_, ?_, trivial⟩ ?_
  · intro a e67 W Q Z; exact step_is (fun _ h => op_plain rfl rfl h) (run_move rfl (ev e67))
  · intro a e69 W Q Z; exact step_is (fun _ h => op_plain rfl rfl h) (run_move rfl (ev e69))
  · intro a x71 e72 x73 e74 W Q Z; exact step_is (fun _ h => op_plain rfl rfl h) (run_eqlL rfl (ev e72) (ev e74))
  · intro a x76 e77 W Q Z; exact step_is (fun _ h => op_plain rfl rfl h) (run_move rfl (ev e77))
  · intro a x79 e80 e81 W Q Z; exact step_is (fun _ h => op_want rfl rfl rfl (e80.trans (congrArg some (congrArg Value.bool (decide_eq_true (Eq.refl (smallV (x1))))))) h) (run_move rfl (ev e81))
  · intro a x83 e84 e85 W Q Z; exact step_is (fun _ h => op_want rfl rfl rfl (e84.trans (congrArg some (congrArg Value.bool (decide_eq_true (Eq.refl (smallV (x1))))))) h) (run_move rfl (ev e85))
  · intro a x87 e88 x89 e90 x91 e92 W Q Z; exact step_is (fun _ h => op_want rfl rfl rfl (e88.trans (congrArg some (congrArg Value.bool (decide_eq_true (Eq.refl (smallV (x1))))))) h) (run_eqlB rfl (ev e90) (ev e92))
  · intro a x94 e95 x96 e97 W Q Z; exact step_is (fun _ h => op_plain rfl rfl h) (run_pickT rfl ((show _ = Value.bool (decide ((smallV (x1)) = (smallV (x1)))) from (ev e95)).trans (congrArg Value.bool (decide_eq_true (Eq.refl (smallV (x1)))))) (ev e97))
  · intro a x99 e100 W Q Z; exact step_is (fun _ h => op_plain rfl rfl h) (run_move rfl (ev e100))
  · intro a x102 e103 e104 W Q Z; exact step_is (fun _ h => op_want rfl rfl rfl (e103.trans (congrArg some (congrArg Value.bool (beq_self_eq_true (smallB (x1)))))) h) (run_load2 rfl (ev e104) (Z.bx 1 rfl))
  · intro a x106 e107 x108 e109 W Q Z; exact step_call (fun _ h => op_want rfl rfl rfl (e107.trans (congrArg some (congrArg Value.bool (beq_self_eq_true (smallB (x1)))))) h) rfl Try.func15 rfl rfl (args1 (ev e109)) (Z.callR (trammellaw02_own.res (Z.rd 6 rfl) hl1))
  · intro a x111 e112 x113 e114 W Q Z; exact step_call (fun _ h => op_want rfl rfl rfl (e112.trans (congrArg some (congrArg Value.bool (beq_self_eq_true (smallB (x1)))))) h) rfl Try.func36 rfl rfl (args1 (ev e114)) (Z.callV (zint_Sign.sem (N1 _ _ (Z.rdO 0 rfl))  ))
  · intro a x116 e117 e118 W Q Z; exact step_is (fun _ h => op_want rfl rfl rfl (e117.trans (congrArg some (congrArg Value.bool (beq_self_eq_true (smallB (x1)))))) h) (run_load2 rfl (ev e118) (Z.bx 1 rfl))
  · intro a x120 e121 x122 e123 W Q Z; exact step_call (fun _ h => op_want rfl rfl rfl (e121.trans (congrArg some (congrArg Value.bool (beq_self_eq_true (smallB (x1)))))) h) rfl Try.func37 rfl rfl (args1 (ev e123)) (Z.callV (trammelref02_Sign.sem (N1 _ _ (Z.rd 6 rfl)) (Bd.fm (Bd.abs F1) (by decide)) ))
  · intro a x125 e126 x127 e128 x129 e130 W Q Z; exact step_is (fun _ h => op_want rfl rfl rfl (e126.trans (congrArg some (congrArg Value.bool (beq_self_eq_true (smallB (x1)))))) h) (run_eql rfl (ev e128) (ev e130))
  · intro a x132 e133 x134 e135 W Q Z; exact step_is (fun _ h => op_plain rfl rfl h) (run_pickT rfl ((show _ = Value.bool ((smallB (x1)) == (smallB (x1))) from (ev e133)).trans (congrArg Value.bool (beq_self_eq_true (smallB (x1))))) (ev e135))
  · intro a x137 e138 W Q Z; exact step_is (fun _ h => op_plain rfl rfl h) (run_move rfl (ev e138))
  · intro a x140 e141 e142 W Q Z; exact step_is (fun _ h => op_want rfl rfl rfl (e141.trans (congrArg some (congrArg Value.bool (decide_eq_true (Eq.refl ((x1).sign)))))) h) (run_load2 rfl (ev e142) (Z.bx 1 rfl))
  · intro a x144 e145 x146 e147 W Q Z; exact step_call (fun _ h => op_want rfl rfl rfl (e145.trans (congrArg some (congrArg Value.bool (decide_eq_true (Eq.refl ((x1).sign)))))) h) rfl Try.func15 rfl rfl (args1 (ev e147)) (Z.callR (trammellaw02_own.res (Z.rd 6 rfl) hl1))
  · intro a x149 e150 e151 W Q Z; exact step_is (fun _ h => op_want rfl rfl rfl (e150.trans (congrArg some (congrArg Value.bool (decide_eq_true (Eq.refl ((x1).sign)))))) h) (run_load2 rfl (ev e151) (Z.bx 0 rfl))
  · intro a x153 e154 x155 e156 W Q Z; exact step_call (fun _ h => op_want rfl rfl rfl (e154.trans (congrArg some (congrArg Value.bool (decide_eq_true (Eq.refl ((x1).sign)))))) h) rfl Try.func15 rfl rfl (args1 (ev e156)) (Z.callR (trammellaw02_own.res (Z.rd 7 rfl) hl2))
  · intro a x158 e159 x160 e161 x162 e163 W Q Z; exact step_call (fun _ h => op_want rfl rfl rfl (e159.trans (congrArg some (congrArg Value.bool (decide_eq_true (Eq.refl ((x1).sign)))))) h) rfl Try.func38 rfl rfl (args2 (ev e161) (ev e163)) (Z.callV (zint_Compare.sem (N1 _ _ (Z.rdO 1 rfl)) (N2 _ _ (Z.rdO 0 rfl))  ))
  · intro a x165 e166 e167 W Q Z; exact step_is (fun _ h => op_want rfl rfl rfl (e166.trans (congrArg some (congrArg Value.bool (decide_eq_true (Eq.refl ((x1).sign)))))) h) (run_load2 rfl (ev e167) (Z.bx 1 rfl))
  · intro a x169 e170 e171 W Q Z; exact step_is (fun _ h => op_want rfl rfl rfl (e170.trans (congrArg some (congrArg Value.bool (decide_eq_true (Eq.refl ((x1).sign)))))) h) (run_load2 rfl (ev e171) (Z.bx 0 rfl))
  · intro a x173 e174 x175 e176 x177 e178 W Q Z; exact step_call (fun _ h => op_want rfl rfl rfl (e174.trans (congrArg some (congrArg Value.bool (decide_eq_true (Eq.refl ((x1).sign)))))) h) rfl Try.func39 rfl rfl (args2 (ev e176) (ev e178)) (Z.callV (trammelref02_Cmp.sem (N1 _ _ (Z.rd 6 rfl)) (N2 _ _ (Z.rd 7 rfl)) (Bd.fm (Bd.abs (Bd.neg F2)) (by decide)) (Bd.fm (Bd.add (Bd.abs F1) (Bd.abs (Bd.neg F2))) (by decide)) (Bd.fm (Bd.sub (Bd.abs F1) (Bd.abs (Bd.neg F2))) (by decide)) (Bd.fm (Bd.sub (Bd.abs (Bd.neg F2)) (Bd.abs F1)) (by decide)) (Bd.fm (Bd.abs (Bd.sub F1 F2)) (by decide)) ))
  · intro a x180 e181 x182 e183 x184 e185 W Q Z; exact step_is (fun _ h => op_want rfl rfl rfl (e181.trans (congrArg some (congrArg Value.bool (decide_eq_true (Eq.refl ((x1).sign)))))) h) (run_eql rfl (ev e183) (ev e185))
  · intro a x187 e188 x189 e190 W Q Z; exact step_is (fun _ h => op_plain rfl rfl h) (run_pickT rfl ((show _ = Value.bool (decide (((x1).sign) = ((x1).sign))) from (ev e188)).trans (congrArg Value.bool (decide_eq_true (Eq.refl ((x1).sign))))) (ev e190))
  · intro a x192 e193 W Q Z; exact step_is (fun _ h => op_plain rfl rfl h) (run_assign rfl (ev e193))
  clear Z; intro x68 x70 x75 x78 x82 x86 x93 x98 x101 x105 x110 x115 x119 x124 x131 x136 x139 x143 x148 x152 x157 x164 x168 x172 x179 x186 x191 x194 W Z
  (try simp only [Act.put, List.setIfInBounds_toArray, List.set_cons_zero, List.set_cons_succ])
  show Code.wp _ _ _ _ _
  refine wp_ret ?_
  exact Z.endsV rfl rfl rfl (by first | rfl | exact (congrArg Value.bool (decide_eq_true (Eq.refl (cmp (x1) (x2))))) | simp)
end Go.Proofs.Ytmbmbmkmjbpcpaa.PA
