/- The walk of the law ZintSums: what its code answers for arguments of a bulk of at most 1048576. -/
import Derived.Outline
import Derived.Test.YtmbmbmkmjbpcpaaZDK
import Derived.Test.YtmbmbmkmjbpcpaaPAx0K
namespace Go.Proofs.Ytmbmbmkmjbpcpaa.PA
open Go Go.Proofs.Ytmbmbmkmjbpcpaa.Nums Go.RowKit Go.Proofs.YtmbmbmkmjbpcpaaW.PrintWords Go.Proofs.YtmbmbmkmjbpcpaaW.PrintLast Go.Proofs.YtmbmbmkmjbpcpaaW.PrintMore
set_option linter.unusedVariables false
set_option linter.unusedSimpArgs false
set_option maxHeartbeats 8000000 in
set_option maxRecDepth 100000 in
theorem trammellaw02_ZintSums.walk (b0 : Bool) (a0 : Option Addr) (len0 cap0 : Nat) (q0 : List Int) (b1 : Bool) (a1 : Option Addr) (len1 cap1 : Nat) (q1 : List Int) (w : World) (w0 : bulks.IsRow .u32 w a0 len0 cap0 q0) (y0 : len0 ≤ 1048576) (w1 : bulks.IsRow .u32 w a1 len1 cap1 q1) (y1 : len1 ≤ 1048576) : Calls Try.prog 4 #[.agg #[.bool b0, .slice a0 len0 cap0], .agg #[.bool b1, .slice a1 len1 cap1]] w (RetV w (.bool true)) := by
  obtain ⟨l0, r0, o0, hl0⟩ := row_rd w0 y0
  obtain ⟨x0, N0, F0, hx0⟩ := arg_num (b := b0) o0 hl0
  obtain ⟨l1, r1, o1, hl1⟩ := row_rd w1 y1
  obtain ⟨x1, N1, F1, hx1⟩ := arg_num (b := b1) o1 hl1
  have Z := Zt.start w (r0.has.append r1.has)
  go_enter Try.func4, Try.ntmps4
  refine wp_seq ?_
  refine wp_region_list ?_
  refine seq_box Z rfl rfl rfl ?_; clear Z; intro g1 W Z
  (try simp only [Act.put, List.setIfInBounds_toArray, List.set_cons_zero, List.set_cons_succ])
  refine seq_box Z rfl rfl rfl ?_; clear Z; intro g2 W Z
  (try simp only [Act.put, List.setIfInBounds_toArray, List.set_cons_zero, List.set_cons_succ])
  refine seq_is (v := .bool (false)) rfl (run_assign rfl rfl) ?_
  (try simp only [Act.put, List.setIfInBounds_toArray, List.set_cons_zero, List.set_cons_succ])
  show Code.wp _ _ _ _ _
  refine wp_seq ?_
  refine wp_dag (pre := [_, _, _, _, _, _]) (sps := [.is (.agg #[.bool (b0), .slice a0 len0 cap0]), spR w (b0) (l0), .is (.agg #[.bool (b1), .slice a1 len1 cap1]), spR w (b1) (l1), .box 25 #[.bool false, .slice none 0 0], .box 25 #[.bool false, .slice none 0 0]]) Z (by kernel_rfl) _ rfl (by kernel_rfl) (by kernel_rfl) rfl ⟨?_, ?_, ?_, ?_, ?_, ?_, trivial⟩ ?_
  · intro a e3 W Q Z; exact step_is (fun _ h => op_plain rfl rfl h) (run_load2 rfl (ev e3) (Z.bx 1 rfl))
  · intro a x5 e6 W Q Z; exact step_call (fun _ h => op_plain rfl rfl h) rfl Try.func15 rfl rfl (args1 (ev e6)) (Z.callR (trammellaw02_own.res (Z.rd 0 rfl) hl0))
  · intro a e8 W Q Z; exact step_is (fun _ h => op_plain rfl rfl h) (run_load2 rfl (ev e8) (Z.bx 0 rfl))
  · intro a x10 e11 W Q Z; exact step_call (fun _ h => op_plain rfl rfl h) rfl Try.func15 rfl rfl (args1 (ev e11)) (Z.callR (trammellaw02_own.res (Z.rd 1 rfl) hl1))
  · intro a W Q Z; exact step_box (fun _ h => op_plain rfl rfl h) (by decide) (run_alloc2 rfl)
  · intro a W Q Z; exact step_box (fun _ h => op_plain rfl rfl h) (by decide) (run_alloc2 rfl)
  clear Z; intro x4 x7 x9 x12 g13 g14 W Z
  (try simp only [Act.put, List.setIfInBounds_toArray, List.set_cons_zero, List.set_cons_succ])
  refine seq_store Z 1 rfl rfl rfl rfl rfl ?_; clear Z; intro W Z
  (try simp only [Act.put, List.setIfInBounds_toArray, List.set_cons_zero, List.set_cons_succ])
  refine seq_store Z 0 rfl rfl rfl rfl rfl ?_; clear Z; intro W Z
  (try simp only [Act.put, List.setIfInBounds_toArray, List.set_cons_zero, List.set_cons_succ])
  show Code.wp _ _ _ _ _
  refine wp_seq ?_
  refine wp_seq ?_
  refine wp_dag (pre := [_, _, _, _, _, _, _, _, _, _, _, _, _, _, _, _, _, _, _, _, _, _, _, _, _, _, _, _]) (sps := [.is (.agg #[.bool (b0), x7.v]), .is (.agg #[.bool (b1), x12.v]), spI w ((x0) + (x1)), .is (.agg #[.bool (b0), .slice a0 len0 cap0]), .is (.agg #[.bool (b1), .slice a1 len1 cap1]), spI w ((x0) + (x1)), .is (.bool (true)), .is (.bool (!(true))), .is (.bool (!(true))), .is (.agg #[.bool (b0), x7.v]), .is (.agg #[.bool (b1), x12.v]), spI w ((x0) - (x1)), .is (.agg #[.bool (b0), .slice a0 len0 cap0]), .is (.agg #[.bool (b1), .slice a1 len1 cap1]), spI w ((x0) - (x1)), .is (.bool (true)), .is (.bool (!(true))), .is (.bool (!(true))), .is (.bool (!(true))), .is (.agg #[.bool (b0), x7.v]), .is (.agg #[.bool (b1), x12.v]), spI w ((x0) * (x1)), .is (.agg #[.bool (b0), .slice a0 len0 cap0]), .is (.agg #[.bool (b1), .slice a1 len1 cap1]), spI w ((x0) * (x1)), .is (.bool (true)), .is (.bool (!(true))), .is (.bool (!(true)))]) Z (by kernel_rfl) _ rfl (by kernel_rfl) (by kernel_rfl) rfl ⟨?_, ?_, ?_, ?_, ?_, ?_, ?_, ?_, ?_, ?_, ?_, ?_, ?_, ?_, ?_, ?_, ?_, ?_, ?_, ?_, ?_, ?_, ?_, ?_, ?_, ?_, ?_, ?_, trivial⟩ ?_
  · intro a e15 W Q Z; exact step_is (fun _ h => op_plain rfl rfl h) (run_load2 rfl (ev e15) (Z.bx 1 rfl))
  · intro a e17 W Q Z; exact step_is (fun _ h => op_plain rfl rfl h) (run_load2 rfl (ev e17) (Z.bx 0 rfl))
  · intro a x19 e20 x21 e22 W Q Z; exact step_call (fun _ h => op_plain rfl rfl h) rfl Try.func19 rfl rfl (args2 (ev e20) (ev e22)) (Z.callI (zint_Add.sem (N0 _ _ (Z.rdO 1 rfl)) (N1 _ _ (Z.rdO 0 rfl)) (Bd.fm (Bd.add (Bd.abs F0) (Bd.abs F1)) (by decide)) (Bd.fm (Bd.sub (Bd.abs F1) (Bd.abs F0)) (by decide)) (Bd.fm (Bd.sub (Bd.abs F0) (Bd.abs F1)) (by decide)) ))
  · intro a e24 W Q Z; exact step_is (fun _ h => op_plain rfl rfl h) (run_load2 rfl (ev e24) (Z.bx 3 rfl))
  · intro a e26 W Q Z; exact step_is (fun _ h => op_plain rfl rfl h) (run_load2 rfl (ev e26) (Z.bx 2 rfl))
  · intro a x28 e29 x30 e31 W Q Z; exact step_call (fun _ h => op_plain rfl rfl h) rfl Try.func20 rfl rfl (args2 (ev e29) (ev e31)) (Z.callI (trammelref02_Add.sem (N0 _ _ (Z.rd 2 rfl)) (N1 _ _ (Z.rd 3 rfl)) (Bd.fm (Bd.add (Bd.abs F0) (Bd.abs F1)) (by decide)) (Bd.fm (Bd.sub (Bd.abs F0) (Bd.abs F1)) (by decide)) (Bd.fm (Bd.sub (Bd.abs F1) (Bd.abs F0)) (by decide)) ))
  · intro a x33 e34 x35 e36 W Q Z; exact step_call (fun _ h => op_plain rfl rfl h) rfl Try.func16 rfl rfl (args2 (ev e34) (ev e36)) (Z.callV (eqI_same (Z.rdO 1 rfl) (Z.rdO 0 rfl) (Bd.fm (Bd.abs (Bd.add F0 F1)) (by decide)) rfl))
  · intro a x38 e39 W Q Z; exact step_is (fun _ h => op_plain rfl rfl h) (run_not rfl (ev e39))
  · intro a x41 e42 W Q Z; exact step_is (fun _ h => op_plain rfl rfl h) (run_move rfl (ev e42))
  · intro a x44 e45 e46 W Q Z; exact step_is (fun _ h => op_want rfl rfl rfl e45 h) (run_load2 rfl (ev e46) (Z.bx 1 rfl))
  · intro a x48 e49 e50 W Q Z; exact step_is (fun _ h => op_want rfl rfl rfl e49 h) (run_load2 rfl (ev e50) (Z.bx 0 rfl))
  · intro a x52 e53 x54 e55 x56 e57 W Q Z; exact step_call (fun _ h => op_want rfl rfl rfl e53 h) rfl Try.func21 rfl rfl (args2 (ev e55) (ev e57)) (Z.callI (zint_Sub.sem (N0 _ _ (Z.rdO 1 rfl)) (N1 _ _ (Z.rdO 0 rfl)) (Bd.fm (Bd.abs (Bd.neg F1)) (by decide)) (Bd.fm (Bd.add (Bd.abs F0) (Bd.abs (Bd.neg F1))) (by decide)) (Bd.fm (Bd.sub (Bd.abs (Bd.neg F1)) (Bd.abs F0)) (by decide)) (Bd.fm (Bd.sub (Bd.abs F0) (Bd.abs (Bd.neg F1))) (by decide)) ))
  · intro a x59 e60 e61 W Q Z; exact step_is (fun _ h => op_want rfl rfl rfl e60 h) (run_load2 rfl (ev e61) (Z.bx 3 rfl))
  · intro a x63 e64 e65 W Q Z; exact step_is (fun _ h => op_want rfl rfl rfl e64 h) (run_load2 rfl (ev e65) (Z.bx 2 rfl))
  · intro a x67 e68 x69 e70 x71 e72 W Q Z; exact step_call (fun _ h => op_want rfl rfl rfl e68 h) rfl Try.func22 rfl rfl (args2 (ev e70) (ev e72)) (Z.callI (trammelref02_Sub.sem (N0 _ _ (Z.rd 2 rfl)) (N1 _ _ (Z.rd 3 rfl)) (Bd.fm (Bd.abs (Bd.neg F1)) (by decide)) (Bd.fm (Bd.add (Bd.abs F0) (Bd.abs (Bd.neg F1))) (by decide)) (Bd.fm (Bd.sub (Bd.abs F0) (Bd.abs (Bd.neg F1))) (by decide)) (Bd.fm (Bd.sub (Bd.abs (Bd.neg F1)) (Bd.abs F0)) (by decide)) ))
  · intro a x74 e75 x76 e77 x78 e79 W Q Z; exact step_call (fun _ h => op_want rfl rfl rfl e75 h) rfl Try.func16 rfl rfl (args2 (ev e77) (ev e79)) (Z.callV (eqI_same (Z.rdO 1 rfl) (Z.rdO 0 rfl) (Bd.fm (Bd.abs (Bd.sub F0 F1)) (by decide)) rfl))
  · intro a x81 e82 x83 e84 W Q Z; exact step_is (fun _ h => op_want rfl rfl rfl e82 h) (run_not rfl (ev e84))
  · intro a x86 e87 x88 e89 W Q Z; exact step_is (fun _ h => op_plain rfl rfl h) (run_pickF rfl (ev e87) (ev e89))
  · intro a x91 e92 W Q Z; exact step_is (fun _ h => op_plain rfl rfl h) (run_move rfl (ev e92))
  · intro a x94 e95 e96 W Q Z; exact step_is (fun _ h => op_want rfl rfl rfl e95 h) (run_load2 rfl (ev e96) (Z.bx 1 rfl))
  · intro a x98 e99 e100 W Q Z; exact step_is (fun _ h => op_want rfl rfl rfl e99 h) (run_load2 rfl (ev e100) (Z.bx 0 rfl))
  · intro a x102 e103 x104 e105 x106 e107 W Q Z; exact step_call (fun _ h => op_want rfl rfl rfl e103 h) rfl Try.func23 rfl rfl (args2 (ev e105) (ev e107)) (Z.callI (zint_Mul.sem (N0 _ _ (Z.rdO 1 rfl)) (N1 _ _ (Z.rdO 0 rfl)) (Bd.fm (Bd.mul (Bd.abs F0) (Bd.abs F1)) (by decide)) ))
  · intro a x109 e110 e111 W Q Z; exact step_is (fun _ h => op_want rfl rfl rfl e110 h) (run_load2 rfl (ev e111) (Z.bx 3 rfl))
  · intro a x113 e114 e115 W Q Z; exact step_is (fun _ h => op_want rfl rfl rfl e114 h) (run_load2 rfl (ev e115) (Z.bx 2 rfl))
  · intro a x117 e118 x119 e120 x121 e122 W Q Z; exact step_call (fun _ h => op_want rfl rfl rfl e118 h) rfl Try.func24 rfl rfl (args2 (ev e120) (ev e122)) (Z.callI (trammelref02_Mul.sem (N0 _ _ (Z.rd 2 rfl)) (N1 _ _ (Z.rd 3 rfl)) (Bd.fm (Bd.mul (Bd.abs F0) (Bd.abs F1)) (by decide)) ))
  · intro a x124 e125 x126 e127 x128 e129 W Q Z; exact step_call (fun _ h => op_want rfl rfl rfl e125 h) rfl Try.func16 rfl rfl (args2 (ev e127) (ev e129)) (Z.callV (eqI_same (Z.rdO 1 rfl) (Z.rdO 0 rfl) (Bd.fm (Bd.abs (Bd.mul F0 F1)) (by decide)) rfl))
  · intro a x131 e132 x133 e134 W Q Z; exact step_is (fun _ h => op_want rfl rfl rfl e132 h) (run_not rfl (ev e134))
  · intro a x136 e137 x138 e139 W Q Z; exact step_is (fun _ h => op_plain rfl rfl h) (run_pickF rfl (ev e137) (ev e139))
  clear Z; intro x16 x18 x23 x25 x27 x32 x37 x40 x43 x47 x51 x58 x62 x66 x73 x80 x85 x90 x93 x97 x101 x108 x112 x116 x123 x130 x135 x140 W Z
  (try simp only [Act.put, List.setIfInBounds_toArray, List.set_cons_zero, List.set_cons_succ])
  show Code.wp _ _ _ _ _
  refine wp_cond_false rfl ?_
  refine wp_skip ?_
  show Code.wp _ _ _ _ _
  refine wp_seq ?_
  refine wp_seq ?_
  refine wp_dag (pre := [_, _, _, _, _, _, _, _, _, _, _, _, _, _]) (sps := [.is (.agg #[.bool (b0), x7.v]), spI w (-(x0)), .is (.agg #[.bool (b0), .slice a0 len0 cap0]), spI w (-(x0)), .is (.bool (true)), .is (.bool (!(true))), .is (.bool (!(true))), .is (.agg #[.bool (b0), x7.v]), spI w ((((x0)).natAbs : Nat)), .is (.agg #[.bool (b0), .slice a0 len0 cap0]), spI w ((((x0)).natAbs : Nat)), .is (.bool (true)), .is (.bool (!(true))), .is (.bool (!(true)))]) Z (by kernel_rfl) _ rfl (by kernel_rfl) (by kernel_rfl) rfl ⟨?_, ?_, ?_, ?_, ?_, ?_, ?_, ?_, ?_, ?_, ?_, ?_, ?_, ?_, trivial⟩ ?_
  · intro a e141 W Q Z; exact step_is (fun _ h => op_plain rfl rfl h) (run_load2 rfl (ev e141) (Z.bx 1 rfl))
  · intro a x143 e144 W Q Z; exact step_call (fun _ h => op_plain rfl rfl h) rfl Try.func25 rfl rfl (args1 (ev e144)) (Z.callI (zint_Neg.sem (N0 _ _ (Z.rdO 7 rfl))  ))
  · intro a e146 W Q Z; exact step_is (fun _ h => op_plain rfl rfl h) (run_load2 rfl (ev e146) (Z.bx 3 rfl))
  · intro a x148 e149 W Q Z; exact step_call (fun _ h => op_plain rfl rfl h) rfl Try.func26 rfl rfl (args1 (ev e149)) (Z.callI (trammelref02_Neg.sem (N0 _ _ (Z.rd 8 rfl))  ))
  · intro a x151 e152 x153 e154 W Q Z; exact step_call (fun _ h => op_plain rfl rfl h) rfl Try.func16 rfl rfl (args2 (ev e152) (ev e154)) (Z.callV (eqI_same (Z.rdO 1 rfl) (Z.rdO 0 rfl) (Bd.fm (Bd.abs (Bd.neg F0)) (by decide)) rfl))
  · intro a x156 e157 W Q Z; exact step_is (fun _ h => op_plain rfl rfl h) (run_not rfl (ev e157))
  · intro a x159 e160 W Q Z; exact step_is (fun _ h => op_plain rfl rfl h) (run_move rfl (ev e160))
  · intro a x162 e163 e164 W Q Z; exact step_is (fun _ h => op_want rfl rfl rfl e163 h) (run_load2 rfl (ev e164) (Z.bx 1 rfl))
  · intro a x166 e167 x168 e169 W Q Z; exact step_call (fun _ h => op_want rfl rfl rfl e167 h) rfl Try.func27 rfl rfl (args1 (ev e169)) (Z.callI (zint_Abs.sem (N0 _ _ (Z.rdO 7 rfl))  ))
  · intro a x171 e172 e173 W Q Z; exact step_is (fun _ h => op_want rfl rfl rfl e172 h) (run_load2 rfl (ev e173) (Z.bx 3 rfl))
  · intro a x175 e176 x177 e178 W Q Z; exact step_call (fun _ h => op_want rfl rfl rfl e176 h) rfl Try.func28 rfl rfl (args1 (ev e178)) (Z.callI (trammelref02_Abs.sem (N0 _ _ (Z.rd 8 rfl))  ))
  · intro a x180 e181 x182 e183 x184 e185 W Q Z; exact step_call (fun _ h => op_want rfl rfl rfl e181 h) rfl Try.func16 rfl rfl (args2 (ev e183) (ev e185)) (Z.callV (eqI_same (Z.rdO 1 rfl) (Z.rdO 0 rfl) (Bd.fm (Bd.abs (Bd.abs F0)) (by decide)) rfl))
  · intro a x187 e188 x189 e190 W Q Z; exact step_is (fun _ h => op_want rfl rfl rfl e188 h) (run_not rfl (ev e190))
  · intro a x192 e193 x194 e195 W Q Z; exact step_is (fun _ h => op_plain rfl rfl h) (run_pickF rfl (ev e193) (ev e195))
  clear Z; intro x142 x145 x147 x150 x155 x158 x161 x165 x170 x174 x179 x186 x191 x196 W Z
  (try simp only [Act.put, List.setIfInBounds_toArray, List.set_cons_zero, List.set_cons_succ])
  show Code.wp _ _ _ _ _
  refine wp_cond_false rfl ?_
  refine wp_skip ?_
  show Code.wp _ _ _ _ _
  refine wp_seq ?_
  refine wp_region_list ?_
  refine seq_is (v := .agg #[.bool (b0), x7.v]) rfl (run_load2 rfl rfl (Z.bx 1 rfl)) ?_
  (try simp only [Act.put, List.setIfInBounds_toArray, List.set_cons_zero, List.set_cons_succ])
  refine seq_is (v := .agg #[.bool (b0), .slice a0 len0 cap0]) rfl (run_load2 rfl rfl (Z.bx 3 rfl)) ?_
  (try simp only [Act.put, List.setIfInBounds_toArray, List.set_cons_zero, List.set_cons_succ])
  refine seq_call Z rfl rfl Try.func29 rfl rfl (args2 rfl rfl) (Z.callV (kept_self (Z.rdO 11 rfl) (Z.rd 12 rfl) hl0)) ?_; clear Z; intro x197 W Z
  (try simp only [Act.put, List.setIfInBounds_toArray, List.set_cons_zero, List.set_cons_succ])
  refine seq_is (v := .bool (true)) rfl (run_move rfl rfl) ?_
  (try simp only [Act.put, List.setIfInBounds_toArray, List.set_cons_zero, List.set_cons_succ])
  refine list_want rfl rfl rfl (wp_run (v := .agg #[.bool (b1), x12.v]) (run_load2 rfl rfl (Z.bx 0 rfl)) ?_)
  (try simp only [Act.put, List.setIfInBounds_toArray, List.set_cons_zero, List.set_cons_succ])
  refine list_want rfl rfl rfl (wp_run (v := .agg #[.bool (b1), .slice a1 len1 cap1]) (run_load2 rfl rfl (Z.bx 2 rfl)) ?_)
  (try simp only [Act.put, List.setIfInBounds_toArray, List.set_cons_zero, List.set_cons_succ])
  refine seq_callw Z (fun h => list_want rfl rfl rfl h) rfl Try.func29 rfl rfl (args2 rfl rfl) (Z.callV (kept_self (Z.rdO 10 rfl) (Z.rd 13 rfl) hl1)) ?_; clear Z; intro x198 W Z
  (try simp only [Act.put, List.setIfInBounds_toArray, List.set_cons_zero, List.set_cons_succ])
  refine seq_is (v := .bool (true)) rfl (run_pickT rfl rfl rfl) ?_
  (try simp only [Act.put, List.setIfInBounds_toArray, List.set_cons_zero, List.set_cons_succ])
  refine seq_is (v := .bool (true)) rfl (run_assign rfl rfl) ?_
  (try simp only [Act.put, List.setIfInBounds_toArray, List.set_cons_zero, List.set_cons_succ])
  show Code.wp _ _ _ _ _
  refine wp_ret ?_
  exact Z.endsV rfl rfl rfl rfl
end Go.Proofs.Ytmbmbmkmjbpcpaa.PA
