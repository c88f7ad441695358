/- The walk of the law ZintRing: what its code answers for arguments of a bulk of at most 1048576. -/
import Derived.Outline
import Derived.Test.YtmbmbmkmjbpcpaaZDK
import Derived.Test.YtmbmbmkmjbpcpaaZEK
import Derived.Test.YtmbmbmkmjbpcpaaPAx0K
namespace Go.Proofs.Ytmbmbmkmjbpcpaa.PA
open Go Go.Proofs.Ytmbmbmkmjbpcpaa.Nums Go.RowKit Go.Proofs.YtmbmbmkmjbpcpaaW.PrintWords Go.Proofs.YtmbmbmkmjbpcpaaW.PrintLast Go.Proofs.YtmbmbmkmjbpcpaaW.PrintMore
set_option linter.unusedVariables false
set_option linter.unusedSimpArgs false
set_option maxHeartbeats 8000000 in
set_option maxRecDepth 100000 in
theorem trammellaw02_ZintRing.walk (b0 : Bool) (a0 : Option Addr) (len0 cap0 : Nat) (q0 : List Int) (b1 : Bool) (a1 : Option Addr) (len1 cap1 : Nat) (q1 : List Int) (b2 : Bool) (a2 : Option Addr) (len2 cap2 : Nat) (q2 : List Int) (w : World) (w0 : bulks.IsRow .u32 w a0 len0 cap0 q0) (y0 : len0 ≤ 1048576) (w1 : bulks.IsRow .u32 w a1 len1 cap1 q1) (y1 : len1 ≤ 1048576) (w2 : bulks.IsRow .u32 w a2 len2 cap2 q2) (y2 : len2 ≤ 1048576) : Calls Try.prog 7 #[.agg #[.bool b0, .slice a0 len0 cap0], .agg #[.bool b1, .slice a1 len1 cap1], .agg #[.bool b2, .slice a2 len2 cap2]] w (RetV w (.bool true)) := by
  obtain ⟨l0, r0, o0, hl0⟩ := row_rd w0 y0
  obtain ⟨x0, N0, F0, hx0⟩ := arg_num (b := b0) o0 hl0
  obtain ⟨l1, r1, o1, hl1⟩ := row_rd w1 y1
  obtain ⟨x1, N1, F1, hx1⟩ := arg_num (b := b1) o1 hl1
  obtain ⟨l2, r2, o2, hl2⟩ := row_rd w2 y2
  obtain ⟨x2, N2, F2, hx2⟩ := arg_num (b := b2) o2 hl2
  have Z := Zt.start w (r0.has.append (r1.has.append r2.has))
  go_enter Try.func7, Try.ntmps7
  refine wp_seq ?_
  refine wp_region_list ?_
  refine seq_box Z rfl rfl rfl ?_; clear Z; intro g1 W Z
  (try simp only [Act.put, List.setIfInBounds_toArray, List.set_cons_zero, List.set_cons_succ])
  refine seq_box Z rfl rfl rfl ?_; clear Z; intro g2 W Z
  (try simp only [Act.put, List.setIfInBounds_toArray, List.set_cons_zero, List.set_cons_succ])
  refine seq_box Z rfl rfl rfl ?_; clear Z; intro g3 W Z
  (try simp only [Act.put, List.setIfInBounds_toArray, List.set_cons_zero, List.set_cons_succ])
  refine seq_is (v := .bool (false)) rfl (run_assign rfl rfl) ?_
  (try simp only [Act.put, List.setIfInBounds_toArray, List.set_cons_zero, List.set_cons_succ])
  show Code.wp _ _ _ _ _
  refine wp_seq ?_
  refine wp_seq ?_
  refine wp_region_list ?_
  refine seq_call Z rfl rfl Try.func44 rfl rfl (show Array.map _ #[] = #[] by simp) (Z.callV (trammellaw02_alive.sem _)) ?_; clear Z; intro x4 W Z
  (try simp only [Act.put, List.setIfInBounds_toArray, List.set_cons_zero, List.set_cons_succ])
  refine seq_is (v := .bool (!(true))) rfl (run_not rfl rfl) ?_
  (try simp only [Act.put, List.setIfInBounds_toArray, List.set_cons_zero, List.set_cons_succ])
  show Code.wp _ _ _ _ _
  refine wp_cond_false rfl ?_
  refine wp_skip ?_
  show Code.wp _ _ _ _ _
  refine wp_seq ?_
  refine wp_seq ?_
  refine wp_dag (pre := [_, _, _, _, _, _, _, _, _, _, _, _, _, _, _, _, _, _, _, _, _, _, _, _, _, _, _, _, _]) (sps := [.is (.agg #[.bool (b0), .slice a0 len0 cap0]), .is (.agg #[.bool (b1), .slice a1 len1 cap1]), spI w ((x0) + (x1)), .is (.agg #[.bool (b1), .slice a1 len1 cap1]), spI w (((x0) + (x1)) - (x1)), .is (.agg #[.bool (b0), .slice a0 len0 cap0]), spI w ((x0)), .is (.bool (true)), .is (.bool (!(true))), .is (.bool (!(true))), .is (.agg #[.bool (b0), .slice a0 len0 cap0]), .is (.agg #[.bool (b1), .slice a1 len1 cap1]), spI w ((x0) + (x1)), .is (.agg #[.bool (b1), .slice a1 len1 cap1]), .is (.agg #[.bool (b0), .slice a0 len0 cap0]), spI w ((x1) + (x0)), .is (.bool (true)), .is (.bool (!(true))), .is (.bool (!(true))), .is (.bool (!(true))), .is (.agg #[.bool (b0), .slice a0 len0 cap0]), .is (.agg #[.bool (b1), .slice a1 len1 cap1]), spI w ((x0) * (x1)), .is (.agg #[.bool (b1), .slice a1 len1 cap1]), .is (.agg #[.bool (b0), .slice a0 len0 cap0]), spI w ((x1) * (x0)), .is (.bool (true)), .is (.bool (!(true))), .is (.bool (!(true)))]) Z (by kernel_rfl) _ rfl (by kernel_rfl) (by kernel_rfl) rfl ⟨?_, ?_, ?_, ?_, ?_, ?_, ?_, ?_, ?_, ?_, ?_, ?_, ?_, ?_, ?_, ?_, ?_, ?_, ?_, ?_, ?_, ?_, ?_, ?_, ?_, ?_, ?_, ?_, ?_, trivial⟩ ?_
  · intro a e5 W Q Z; exact step_is (fun _ h => op_plain rfl rfl h) (run_load2 rfl (ev e5) (Z.bx 2 rfl))
  · intro a e7 W Q Z; exact step_is (fun _ h => op_plain rfl rfl h) (run_load2 rfl (ev e7) (Z.bx 1 rfl))
  · intro a x9 e10 x11 e12 W Q Z; exact step_call (fun _ h => op_plain rfl rfl h) rfl Try.func19 rfl rfl (args2 (ev e10) (ev e12)) (Z.callI (zint_Add.sem (N0 _ _ (Z.rd 0 rfl)) (N1 _ _ (Z.rd 1 rfl)) (Bd.fm (Bd.add (Bd.abs F0) (Bd.abs F1)) (by decide)) (Bd.fm (Bd.sub (Bd.abs F1) (Bd.abs F0)) (by decide)) (Bd.fm (Bd.sub (Bd.abs F0) (Bd.abs F1)) (by decide)) ))
  · intro a e14 W Q Z; exact step_is (fun _ h => op_plain rfl rfl h) (run_load2 rfl (ev e14) (Z.bx 1 rfl))
  · intro a x16 e17 x18 e19 W Q Z; exact step_call (fun _ h => op_plain rfl rfl h) rfl Try.func21 rfl rfl (args2 (ev e17) (ev e19)) (Z.callI (zint_Sub.sem (Z.own 0 rfl (Bd.fm (Bd.abs (Bd.add F0 F1)) (by decide))) (N1 _ _ (Z.rd 2 rfl)) (Bd.fm (Bd.abs (Bd.neg F1)) (by decide)) (Bd.fm (Bd.add (Bd.abs (Bd.add F0 F1)) (Bd.abs (Bd.neg F1))) (by decide)) (Bd.fm (Bd.sub (Bd.abs (Bd.neg F1)) (Bd.abs (Bd.add F0 F1))) (by decide)) (Bd.fm (Bd.sub (Bd.abs (Bd.add F0 F1)) (Bd.abs (Bd.neg F1))) (by decide)) ))
  · intro a e21 W Q Z; exact step_is (fun _ h => op_plain rfl rfl h) (run_load2 rfl (ev e21) (Z.bx 2 rfl))
  · intro a x23 e24 W Q Z; exact step_call (fun _ h => op_plain rfl rfl h) rfl Try.func32 rfl rfl (args1 (ev e24)) (Z.callI (zint_Form.sem (N0 _ _ (Z.rd 0 rfl))  ))
  · intro a x26 e27 x28 e29 W Q Z; exact step_call (fun _ h => op_plain rfl rfl h) rfl Try.func16 rfl rfl (args2 (ev e27) (ev e29)) (Z.callV (eqI_same (Z.rdO 1 rfl) (Z.rdO 0 rfl) (Bd.fm (Bd.abs (Bd.sub (Bd.add F0 F1) F1)) (by decide)) (by first | omega | exact Int.mul_comm _ _ | exact Int.mul_add _ _ _ | exact Int.mul_assoc _ _ _)))
  · intro a x31 e32 W Q Z; exact step_is (fun _ h => op_plain rfl rfl h) (run_not rfl (ev e32))
  · intro a x34 e35 W Q Z; exact step_is (fun _ h => op_plain rfl rfl h) (run_move rfl (ev e35))
  · intro a x37 e38 e39 W Q Z; exact step_is (fun _ h => op_want rfl rfl rfl e38 h) (run_load2 rfl (ev e39) (Z.bx 2 rfl))
  · intro a x41 e42 e43 W Q Z; exact step_is (fun _ h => op_want rfl rfl rfl e42 h) (run_load2 rfl (ev e43) (Z.bx 1 rfl))
  · intro a x45 e46 x47 e48 x49 e50 W Q Z; exact step_call (fun _ h => op_want rfl rfl rfl e46 h) rfl Try.func19 rfl rfl (args2 (ev e48) (ev e50)) (Z.callI (zint_Add.sem (N0 _ _ (Z.rd 0 rfl)) (N1 _ _ (Z.rd 1 rfl)) (Bd.fm (Bd.add (Bd.abs F0) (Bd.abs F1)) (by decide)) (Bd.fm (Bd.sub (Bd.abs F1) (Bd.abs F0)) (by decide)) (Bd.fm (Bd.sub (Bd.abs F0) (Bd.abs F1)) (by decide)) ))
  · intro a x52 e53 e54 W Q Z; exact step_is (fun _ h => op_want rfl rfl rfl e53 h) (run_load2 rfl (ev e54) (Z.bx 1 rfl))
  · intro a x56 e57 e58 W Q Z; exact step_is (fun _ h => op_want rfl rfl rfl e57 h) (run_load2 rfl (ev e58) (Z.bx 2 rfl))
  · intro a x60 e61 x62 e63 x64 e65 W Q Z; exact step_call (fun _ h => op_want rfl rfl rfl e61 h) rfl Try.func19 rfl rfl (args2 (ev e63) (ev e65)) (Z.callI (zint_Add.sem (N1 _ _ (Z.rd 1 rfl)) (N0 _ _ (Z.rd 0 rfl)) (Bd.fm (Bd.add (Bd.abs F1) (Bd.abs F0)) (by decide)) (Bd.fm (Bd.sub (Bd.abs F0) (Bd.abs F1)) (by decide)) (Bd.fm (Bd.sub (Bd.abs F1) (Bd.abs F0)) (by decide)) ))
  · intro a x67 e68 x69 e70 x71 e72 W Q Z; exact step_call (fun _ h => op_want rfl rfl rfl e68 h) rfl Try.func16 rfl rfl (args2 (ev e70) (ev e72)) (Z.callV (eqI_same (Z.rdO 1 rfl) (Z.rdO 0 rfl) (Bd.fm (Bd.abs (Bd.add F0 F1)) (by decide)) (by first | omega | exact Int.mul_comm _ _ | exact Int.mul_add _ _ _ | exact Int.mul_assoc _ _ _)))
  · intro a x74 e75 x76 e77 W Q Z; exact step_is (fun _ h => op_want rfl rfl rfl e75 h) (run_not rfl (ev e77))
  · intro a x79 e80 x81 e82 W Q Z; exact step_is (fun _ h => op_plain rfl rfl h) (run_pickF rfl (ev e80) (ev e82))
  · intro a x84 e85 W Q Z; exact step_is (fun _ h => op_plain rfl rfl h) (run_move rfl (ev e85))
  · intro a x87 e88 e89 W Q Z; exact step_is (fun _ h => op_want rfl rfl rfl e88 h) (run_load2 rfl (ev e89) (Z.bx 2 rfl))
  · intro a x91 e92 e93 W Q Z; exact step_is (fun _ h => op_want rfl rfl rfl e92 h) (run_load2 rfl (ev e93) (Z.bx 1 rfl))
  · intro a x95 e96 x97 e98 x99 e100 W Q Z; exact step_call (fun _ h => op_want rfl rfl rfl e96 h) rfl Try.func23 rfl rfl (args2 (ev e98) (ev e100)) (Z.callI (zint_Mul.sem (N0 _ _ (Z.rd 0 rfl)) (N1 _ _ (Z.rd 1 rfl)) (Bd.fm (Bd.mul (Bd.abs F0) (Bd.abs F1)) (by decide)) ))
  · intro a x102 e103 e104 W Q Z; exact step_is (fun _ h => op_want rfl rfl rfl e103 h) (run_load2 rfl (ev e104) (Z.bx 1 rfl))
  · intro a x106 e107 e108 W Q Z; exact step_is (fun _ h => op_want rfl rfl rfl e107 h) (run_load2 rfl (ev e108) (Z.bx 2 rfl))
  · intro a x110 e111 x112 e113 x114 e115 W Q Z; exact step_call (fun _ h => op_want rfl rfl rfl e111 h) rfl Try.func23 rfl rfl (args2 (ev e113) (ev e115)) (Z.callI (zint_Mul.sem (N1 _ _ (Z.rd 1 rfl)) (N0 _ _ (Z.rd 0 rfl)) (Bd.fm (Bd.mul (Bd.abs F1) (Bd.abs F0)) (by decide)) ))
  · intro a x117 e118 x119 e120 x121 e122 W Q Z; exact step_call (fun _ h => op_want rfl rfl rfl e118 h) rfl Try.func16 rfl rfl (args2 (ev e120) (ev e122)) (Z.callV (eqI_same (Z.rdO 1 rfl) (Z.rdO 0 rfl) (Bd.fm (Bd.abs (Bd.mul F0 F1)) (by decide)) (by first | omega | exact Int.mul_comm _ _ | exact Int.mul_add _ _ _ | exact Int.mul_assoc _ _ _)))
  · intro a x124 e125 x126 e127 W Q Z; exact step_is (fun _ h => op_want rfl rfl rfl e125 h) (run_not rfl (ev e127))
  · intro a x129 e130 x131 e132 W Q Z; exact step_is (fun _ h => op_plain rfl rfl h) (run_pickF rfl (ev e130) (ev e132))
  clear Z; intro x6 x8 x13 x15 x20 x22 x25 x30 x33 x36 x40 x44 x51 x55 x59 x66 x73 x78 x83 x86 x90 x94 x101 x105 x109 x116 x123 x128 x133 W Z
  (try simp only [Act.put, List.setIfInBounds_toArray, List.set_cons_zero, List.set_cons_succ])
  show Code.wp _ _ _ _ _
  refine wp_cond_false rfl ?_
  refine wp_skip ?_
  show Code.wp _ _ _ _ _
  refine wp_seq ?_
  refine wp_dag (pre := [_, _, _, _, _, _, _, _, _, _, _, _, _, _, _, _, _, _, _, _, _, _, _, _, _, _, _]) (sps := [.is (.agg #[.bool (b0), .slice a0 len0 cap0]), .is (.agg #[.bool (b1), .slice a1 len1 cap1]), .is (.agg #[.bool (b2), .slice a2 len2 cap2]), spI w ((x1) + (x2)), spI w ((x0) * ((x1) + (x2))), .is (.agg #[.bool (b0), .slice a0 len0 cap0]), .is (.agg #[.bool (b1), .slice a1 len1 cap1]), spI w ((x0) * (x1)), .is (.agg #[.bool (b0), .slice a0 len0 cap0]), .is (.agg #[.bool (b2), .slice a2 len2 cap2]), spI w ((x0) * (x2)), spI w (((x0) * (x1)) + ((x0) * (x2))), .is (.bool (true)), .is (.bool (true)), .is (.agg #[.bool (b0), .slice a0 len0 cap0]), .is (.agg #[.bool (b1), .slice a1 len1 cap1]), spI w ((x0) * (x1)), .is (.agg #[.bool (b2), .slice a2 len2 cap2]), spI w (((x0) * (x1)) * (x2)), .is (.agg #[.bool (b0), .slice a0 len0 cap0]), .is (.agg #[.bool (b1), .slice a1 len1 cap1]), .is (.agg #[.bool (b2), .slice a2 len2 cap2]), spI w ((x1) * (x2)), spI w ((x0) * ((x1) * (x2))), .is (.bool (true)), .is (.bool (true)), .is (.bool (true))]) Z (by kernel_rfl) _ rfl (by kernel_rfl) (by kernel_rfl) rfl ⟨?_, ?_, ?_, ?_, ?_, ?_, ?_, ?_, ?_, ?_, ?_, ?_, ?_, ?_, ?_, ?_, ?_, ?_, ?_, ?_, ?_, ?_, ?_, ?_, ?_, ?_, ?_, trivial⟩ ?_
  · intro a e134 W Q Z; exact step_is (fun _ h => op_plain rfl rfl h) (run_load2 rfl (ev e134) (Z.bx 2 rfl))
  · intro a e136 W Q Z; exact step_is (fun _ h => op_plain rfl rfl h) (run_load2 rfl (ev e136) (Z.bx 1 rfl))
  · intro a e138 W Q Z; exact step_is (fun _ h => op_plain rfl rfl h) (run_load2 rfl (ev e138) (Z.bx 0 rfl))
  · intro a x140 e141 x142 e143 W Q Z; exact step_call (fun _ h => op_plain rfl rfl h) rfl Try.func19 rfl rfl (args2 (ev e141) (ev e143)) (Z.callI (zint_Add.sem (N1 _ _ (Z.rd 8 rfl)) (N2 _ _ (Z.rd 9 rfl)) (Bd.fm (Bd.add (Bd.abs F1) (Bd.abs F2)) (by decide)) (Bd.fm (Bd.sub (Bd.abs F2) (Bd.abs F1)) (by decide)) (Bd.fm (Bd.sub (Bd.abs F1) (Bd.abs F2)) (by decide)) ))
  · intro a x145 e146 x147 e148 W Q Z; exact step_call (fun _ h => op_plain rfl rfl h) rfl Try.func23 rfl rfl (args2 (ev e146) (ev e148)) (Z.callI (zint_Mul.sem (N0 _ _ (Z.rd 8 rfl)) (Z.own 0 rfl (Bd.fm (Bd.abs (Bd.add F1 F2)) (by decide))) (Bd.fm (Bd.mul (Bd.abs F0) (Bd.abs (Bd.add F1 F2))) (by decide)) ))
  · intro a e150 W Q Z; exact step_is (fun _ h => op_plain rfl rfl h) (run_load2 rfl (ev e150) (Z.bx 2 rfl))
  · intro a e152 W Q Z; exact step_is (fun _ h => op_plain rfl rfl h) (run_load2 rfl (ev e152) (Z.bx 1 rfl))
  · intro a x154 e155 x156 e157 W Q Z; exact step_call (fun _ h => op_plain rfl rfl h) rfl Try.func23 rfl rfl (args2 (ev e155) (ev e157)) (Z.callI (zint_Mul.sem (N0 _ _ (Z.rd 7 rfl)) (N1 _ _ (Z.rd 8 rfl)) (Bd.fm (Bd.mul (Bd.abs F0) (Bd.abs F1)) (by decide)) ))
  · intro a e159 W Q Z; exact step_is (fun _ h => op_plain rfl rfl h) (run_load2 rfl (ev e159) (Z.bx 2 rfl))
  · intro a e161 W Q Z; exact step_is (fun _ h => op_plain rfl rfl h) (run_load2 rfl (ev e161) (Z.bx 0 rfl))
  · intro a x163 e164 x165 e166 W Q Z; exact step_call (fun _ h => op_plain rfl rfl h) rfl Try.func23 rfl rfl (args2 (ev e164) (ev e166)) (Z.callI (zint_Mul.sem (N0 _ _ (Z.rd 7 rfl)) (N2 _ _ (Z.rd 9 rfl)) (Bd.fm (Bd.mul (Bd.abs F0) (Bd.abs F2)) (by decide)) ))
  · intro a x168 e169 x170 e171 W Q Z; exact step_call (fun _ h => op_plain rfl rfl h) rfl Try.func19 rfl rfl (args2 (ev e169) (ev e171)) (Z.callI (zint_Add.sem (Z.own 1 rfl (Bd.fm (Bd.abs (Bd.mul F0 F1)) (by decide))) (Z.own 0 rfl (Bd.fm (Bd.abs (Bd.mul F0 F2)) (by decide))) (Bd.fm (Bd.add (Bd.abs (Bd.mul F0 F1)) (Bd.abs (Bd.mul F0 F2))) (by decide)) (Bd.fm (Bd.sub (Bd.abs (Bd.mul F0 F2)) (Bd.abs (Bd.mul F0 F1))) (by decide)) (Bd.fm (Bd.sub (Bd.abs (Bd.mul F0 F1)) (Bd.abs (Bd.mul F0 F2))) (by decide)) ))
  · intro a x173 e174 x175 e176 W Q Z; exact step_call (fun _ h => op_plain rfl rfl h) rfl Try.func16 rfl rfl (args2 (ev e174) (ev e176)) (Z.callV (eqI_same (Z.rdO 1 rfl) (Z.rdO 0 rfl) (Bd.fm (Bd.abs (Bd.mul F0 (Bd.add F1 F2))) (by decide)) (by first | omega | exact Int.mul_comm _ _ | exact Int.mul_add _ _ _ | exact Int.mul_assoc _ _ _)))
  · intro a x178 e179 W Q Z; exact step_is (fun _ h => op_plain rfl rfl h) (run_move rfl (ev e179))
  · intro a x181 e182 e183 W Q Z; exact step_is (fun _ h => op_want rfl rfl rfl e182 h) (run_load2 rfl (ev e183) (Z.bx 2 rfl))
  · intro a x185 e186 e187 W Q Z; exact step_is (fun _ h => op_want rfl rfl rfl e186 h) (run_load2 rfl (ev e187) (Z.bx 1 rfl))
  · intro a x189 e190 x191 e192 x193 e194 W Q Z; exact step_call (fun _ h => op_want rfl rfl rfl e190 h) rfl Try.func23 rfl rfl (args2 (ev e192) (ev e194)) (Z.callI (zint_Mul.sem (N0 _ _ (Z.rd 7 rfl)) (N1 _ _ (Z.rd 8 rfl)) (Bd.fm (Bd.mul (Bd.abs F0) (Bd.abs F1)) (by decide)) ))
  · intro a x196 e197 e198 W Q Z; exact step_is (fun _ h => op_want rfl rfl rfl e197 h) (run_load2 rfl (ev e198) (Z.bx 0 rfl))
  · intro a x200 e201 x202 e203 x204 e205 W Q Z; exact step_call (fun _ h => op_want rfl rfl rfl e201 h) rfl Try.func23 rfl rfl (args2 (ev e203) (ev e205)) (Z.callI (zint_Mul.sem (Z.own 0 rfl (Bd.fm (Bd.abs (Bd.mul F0 F1)) (by decide))) (N2 _ _ (Z.rd 10 rfl)) (Bd.fm (Bd.mul (Bd.abs (Bd.mul F0 F1)) (Bd.abs F2)) (by decide)) ))
  · intro a x207 e208 e209 W Q Z; exact step_is (fun _ h => op_want rfl rfl rfl e208 h) (run_load2 rfl (ev e209) (Z.bx 2 rfl))
  · intro a x211 e212 e213 W Q Z; exact step_is (fun _ h => op_want rfl rfl rfl e212 h) (run_load2 rfl (ev e213) (Z.bx 1 rfl))
  · intro a x215 e216 e217 W Q Z; exact step_is (fun _ h => op_want rfl rfl rfl e216 h) (run_load2 rfl (ev e217) (Z.bx 0 rfl))
  · intro a x219 e220 x221 e222 x223 e224 W Q Z; exact step_call (fun _ h => op_want rfl rfl rfl e220 h) rfl Try.func23 rfl rfl (args2 (ev e222) (ev e224)) (Z.callI (zint_Mul.sem (N1 _ _ (Z.rd 8 rfl)) (N2 _ _ (Z.rd 9 rfl)) (Bd.fm (Bd.mul (Bd.abs F1) (Bd.abs F2)) (by decide)) ))
  · intro a x226 e227 x228 e229 x230 e231 W Q Z; exact step_call (fun _ h => op_want rfl rfl rfl e227 h) rfl Try.func23 rfl rfl (args2 (ev e229) (ev e231)) (Z.callI (zint_Mul.sem (N0 _ _ (Z.rd 8 rfl)) (Z.own 0 rfl (Bd.fm (Bd.abs (Bd.mul F1 F2)) (by decide))) (Bd.fm (Bd.mul (Bd.abs F0) (Bd.abs (Bd.mul F1 F2))) (by decide)) ))
  · intro a x233 e234 x235 e236 x237 e238 W Q Z; exact step_call (fun _ h => op_want rfl rfl rfl e234 h) rfl Try.func16 rfl rfl (args2 (ev e236) (ev e238)) (Z.callV (eqI_same (Z.rdO 1 rfl) (Z.rdO 0 rfl) (Bd.fm (Bd.abs (Bd.mul (Bd.mul F0 F1) F2)) (by decide)) (by first | omega | exact Int.mul_comm _ _ | exact Int.mul_add _ _ _ | exact Int.mul_assoc _ _ _)))
  · intro a x240 e241 x242 e243 W Q Z; exact step_is (fun _ h => op_plain rfl rfl h) (run_pickT rfl (ev e241) (ev e243))
  · intro a x245 e246 W Q Z; exact step_is (fun _ h => op_plain rfl rfl h) (run_assign rfl (ev e246))
  clear Z; intro x135 x137 x139 x144 x149 x151 x153 x158 x160 x162 x167 x172 x177 x180 x184 x188 x195 x199 x206 x210 x214 x218 x225 x232 x239 x244 x247 W Z
  (try simp only [Act.put, List.setIfInBounds_toArray, List.set_cons_zero, List.set_cons_succ])
  show Code.wp _ _ _ _ _
  refine wp_ret ?_
  exact Z.endsV rfl rfl rfl rfl
end Go.Proofs.Ytmbmbmkmjbpcpaa.PA
