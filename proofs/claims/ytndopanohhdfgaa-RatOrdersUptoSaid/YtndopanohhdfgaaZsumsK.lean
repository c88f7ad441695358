/- Add, Sub, Mul, Div of layer 3 and of the document. -/
import Derived.Outline
import Derived.Test.YtndopanohhdfgaaZawakeK
import Derived.Test.YtndopanohhdfgaaZQK
import Derived.Test.YtndopanohhdfgaaPAx0K
namespace Go.Proofs.Ytndopanohhdfgaa.PA
open Go Go.Proofs.Ytndopanohhdfgaa.Nums Go.RowKit Go.Proofs.YtndopanohhdfgaaW.PrintWords Go.Proofs.YtndopanohhdfgaaW.PrintLast Go.Proofs.YtndopanohhdfgaaW.PrintMore
set_option linter.unusedVariables false
set_option linter.unusedSimpArgs false
theorem sub_q {a b c d : Int} (hb : b ≠ 0) (hd : d ≠ 0) : qn (a * qd (-c) d + qn (-c) d * b) (b * qd (-c) d) = qn (a * d - c * b) (b * d) ∧ qd (a * qd (-c) d + qn (-c) d * b) (b * qd (-c) d) = qd (a * d - c * b) (b * d) := by
  have h1 := q_cross (x := -c) hd
  have h2 := qd_pos (x := -c) hd
  refine q_eq (Int.mul_ne_zero hb (by omega)) (Int.mul_ne_zero hb hd) ?_
  grind
theorem sign_qn {x y : Int} (h : 0 < y) : (qn x y).sign = x.sign := by
  have h1 := q_cross (x := x) (pos_ne h)
  have h2 := qd_pos (x := x) (pos_ne h)
  have h3 := congrArg Int.sign h1
  rw [Int.sign_mul, Int.sign_mul, Int.sign_eq_one_of_pos h, Int.sign_eq_one_of_pos h2, Int.mul_one, Int.mul_one] at h3
  exact h3
theorem cmp_sign {x y : Int} : cmp x y = (x - y).sign := by
  unfold cmp
  split
  · rw [Int.sign_eq_neg_one_of_neg (by omega)]
  · split
    · rw [show x - y = 0 by omega]; rfl
    · rw [Int.sign_eq_one_of_pos (by omega)]
set_option maxHeartbeats 4000000 in
set_option maxRecDepth 100000 in
theorem rat_Cmp.semF {w : World} {b1 : Bool} {v1 : Value} {z1 : Int} {b2 : Bool} {v2 : Value} {z2 : Int} {b3 : Bool} {v3 : Value} {z3 : Int} {b4 : Bool} {v4 : Value} {z4 : Int} (m1 : NumV w b1 v1 z1) (m2 : NumV w b2 v2 z2) (m3 : NumV w b3 v3 z3) (m4 : NumV w b4 v4 z4) (hn : ¬ (0 < z2 ∧ 0 < z4)) : Calls Try.prog 20 #[.agg #[.bool b1, v1, .bool b2, v2], .agg #[.bool b3, v3, .bool b4, v4]] w (RetV w (.tuple #[.int .i64 0, .int .i64 30])) := by
  obtain ⟨A1, n1, c1, rfl⟩ := m1.form
  obtain ⟨A2, n2, c2, rfl⟩ := m2.form
  obtain ⟨A3, n3, c3, rfl⟩ := m3.form
  obtain ⟨A4, n4, c4, rfl⟩ := m4.form
  have Z := Zt.start w (m1.has.append (m2.has.append (m3.has.append m4.has)))
  go_enter Try.func20, Try.ntmps20
  refine wp_seq ?_
  refine wp_region_list ?_
  refine seq_box4 Z rfl rfl rfl ?_; clear Z; intro g1 W Z
  (try simp only [Act.put, List.setIfInBounds_toArray, List.set_cons_zero, List.set_cons_succ])
  refine seq_box4 Z rfl rfl rfl ?_; clear Z; intro g2 W Z
  (try simp only [Act.put, List.setIfInBounds_toArray, List.set_cons_zero, List.set_cons_succ])
  refine seq_is (v := .int .i64 (0)) rfl (run_assign rfl rfl) ?_
  (try simp only [Act.put, List.setIfInBounds_toArray, List.set_cons_zero, List.set_cons_succ])
  refine seq_is (v := .int .i64 (0)) rfl (run_assign rfl rfl) ?_
  (try simp only [Act.put, List.setIfInBounds_toArray, List.set_cons_zero, List.set_cons_succ])
  show Code.wp _ _ _ _ _
  refine wp_seq ?_
  refine wp_seq ?_
  refine wp_region_list ?_
  refine seq_is (v := .agg #[.bool (b1), .slice A1 n1 c1, .bool (b2), .slice A2 n2 c2]) rfl (run_load4 rfl rfl (Z.bx 1 rfl)) ?_
  (try simp only [Act.put, List.setIfInBounds_toArray, List.set_cons_zero, List.set_cons_succ])
  refine seq_is (v := .agg #[.bool (b3), .slice A3 n3 c3, .bool (b4), .slice A4 n4 c4]) rfl (run_load4 rfl rfl (Z.bx 0 rfl)) ?_
  (try simp only [Act.put, List.setIfInBounds_toArray, List.set_cons_zero, List.set_cons_succ])
  refine seq_rowR2 Z rfl rfl rfl rfl ?_; clear Z; intro g3 W Z
  (try simp only [Act.put, List.setIfInBounds_toArray, List.set_cons_zero, List.set_cons_succ])
  refine seq_call Z rfl rfl Try.func41 rfl rfl (args1 rfl) (Z.callV (rat_valid.sem2 (Z.num 0 rfl) (Z.num 1 rfl) (Z.num 2 rfl) (Z.num 3 rfl) (Z.bx 0 rfl).2.2)) ?_; clear Z; intro x4 W Z
  (try simp only [Act.put, List.setIfInBounds_toArray, List.set_cons_zero, List.set_cons_succ])
  refine seq_is (v := .int .i64 (okE2 (z2) (z4))) rfl (run_assign rfl rfl) ?_
  (try simp only [Act.put, List.setIfInBounds_toArray, List.set_cons_zero, List.set_cons_succ])
  show Code.wp _ _ _ _ _
  refine wp_seq ?_
  refine wp_region_list ?_
  refine seq_is (v := .int .i64 (okE2 (z2) (z4))) rfl (run_move rfl rfl) ?_
  (try simp only [Act.put, List.setIfInBounds_toArray, List.set_cons_zero, List.set_cons_succ])
  refine seq_is (v := .bool (decide ((okE2 (z2) (z4)) ≠ (0)))) rfl (run_neqE rfl rfl rfl) ?_
  (try simp only [Act.put, List.setIfInBounds_toArray, List.set_cons_zero, List.set_cons_succ])
  show Code.wp _ _ _ _ _
  refine wp_cond_true ((show _ = Value.bool (decide ((okE2 (z2) (z4)) ≠ (0))) from rfl).trans (congrArg Value.bool (okE2_f hn))) ?_
  refine wp_seq ?_
  refine wp_region_list ?_
  refine seq_is (v := .int .i64 (okE2 (z2) (z4))) rfl (run_move rfl rfl) ?_
  (try simp only [Act.put, List.setIfInBounds_toArray, List.set_cons_zero, List.set_cons_succ])
  refine seq_is (v := .int .i64 (0)) rfl (run_assign rfl rfl) ?_
  (try simp only [Act.put, List.setIfInBounds_toArray, List.set_cons_zero, List.set_cons_succ])
  refine seq_is (v := .int .i64 (okE2 (z2) (z4))) rfl (run_assign rfl rfl) ?_
  (try simp only [Act.put, List.setIfInBounds_toArray, List.set_cons_zero, List.set_cons_succ])
  show Code.wp _ _ _ _ _
  refine wp_ret ?_
  exact Z.endsV2 (u := .int .i64 (0)) (v := .int .i64 (okE2 (z2) (z4))) rfl rfl rfl rfl (by rw [okE2_30 hn])
set_option maxHeartbeats 4000000 in
set_option maxRecDepth 100000 in
theorem trammelref03_Neg.sem {w : World} {b1 : Bool} {v1 : Value} {z1 : Int} {b2 : Bool} {v2 : Value} {z2 : Int} (m1 : NumV w b1 v1 z1) (m2 : NumV w b2 v2 z2) (hb1 : Bd 150000000 z1) (hb2 : Bd 150000000 z2) (h2 : z2 ≠ 0) : Calls Try.prog 63 #[.agg #[.bool b1, v1, .bool b2, v2]] w (ResQ w (qn (-z1) z2) (qd (-z1) z2)) := by
  obtain ⟨A1, n1, c1, rfl⟩ := m1.form
  obtain ⟨A2, n2, c2, rfl⟩ := m2.form
  have Z := Zt.start w (m1.has.append m2.has)
  go_enter Try.func63, Try.ntmps63
  refine wp_seq ?_
  refine wp_region_list ?_
  refine seq_box4 Z rfl rfl rfl ?_; clear Z; intro g1 W Z
  (try simp only [Act.put, List.setIfInBounds_toArray, List.set_cons_zero, List.set_cons_succ])
  refine seq_alloc4 Z rfl rfl ?_; clear Z; intro g2 W Z
  (try simp only [Act.put, List.setIfInBounds_toArray, List.set_cons_zero, List.set_cons_succ])
  show Code.wp _ _ _ _ _
  refine wp_seq ?_
  refine wp_dag (pre := [_, _, _, _, _, _]) (sps := [.is (.pointer (some ⟨g1, 0, none⟩)), .is (.agg #[.bool (b1), .slice A1 n1 c1]), spI w (-(z1)), .is (.pointer (some ⟨g1, 2, none⟩)), .is (.agg #[.bool (b2), .slice A2 n2 c2]), spQ w (qn (-(z1)) (z2)) (qd (-(z1)) (z2))]) Z (by kernel_rfl) _ rfl (by kernel_rfl) (by kernel_rfl) rfl ⟨?_, ?_, ?_, ?_, ?_, ?_, trivial⟩ ?_
  · intro a e3 W Q Z; exact step_is (fun _ h => op_plain rfl rfl h) (run_fieldR0 rfl (ev e3))
  · intro a x5 e6 W Q Z; exact step_is (fun _ h => op_plain rfl rfl h) (run_loadNum rfl (ev e6) (Z.bx 1 rfl))
  · intro a x8 e9 W Q Z; exact step_call (fun _ h => op_plain rfl rfl h) rfl Try.func48 rfl rfl (args1 (ev e9)) (Z.callI (trammelref02_Neg.sem (Z.num 0 rfl)  ))
  · intro a e11 W Q Z; exact step_is (fun _ h => op_plain rfl rfl h) (run_fieldR1 rfl (ev e11))
  · intro a x13 e14 W Q Z; exact step_is (fun _ h => op_plain rfl rfl h) (run_loadDen rfl (ev e14) (Z.bx 1 rfl))
  · intro a x16 e17 x18 e19 W Q Z; exact step_call (fun _ h => op_plain rfl rfl h) rfl Try.func17 rfl rfl (args2 (ev e17) (ev e19)) (Z.callQ (trammelref03_Make.semq (Z.own 0 rfl (Bd.fm (Bd.abs (Bd.neg hb1)) (by decide))) (Z.num 2 rfl) (Bd.mono (Bd.neg hb1) (by decide)) (Bd.mono hb2 (by decide)) h2))
  clear Z; intro x4 x7 x10 x12 x15 x20 W Z
  (try simp only [Act.put, List.setIfInBounds_toArray, List.set_cons_zero, List.set_cons_succ])
  refine seq_store4 Z 0 rfl rfl rfl rfl rfl ?_; clear Z; intro W Z
  (try simp only [Act.put, List.setIfInBounds_toArray, List.set_cons_zero, List.set_cons_succ])
  show Code.wp _ _ _ _ _
  refine wp_ret ?_
  exact Z.endsQ' 0 0 1 rfl rfl rfl rfl rfl rfl (by rfl) (by rfl) (by rfl) (by rfl)
set_option maxHeartbeats 4000000 in
set_option maxRecDepth 100000 in
theorem trammelref03_Add.sem {w : World} {b1 : Bool} {v1 : Value} {z1 : Int} {b2 : Bool} {v2 : Value} {z2 : Int} {b3 : Bool} {v3 : Value} {z3 : Int} {b4 : Bool} {v4 : Value} {z4 : Int} (m1 : NumV w b1 v1 z1) (m2 : NumV w b2 v2 z2) (m3 : NumV w b3 v3 z3) (m4 : NumV w b4 v4 z4) (hb1 : Bd 74000000 z1) (hb2 : Bd 74000000 z2) (hb3 : Bd 74000000 z3) (hb4 : Bd 74000000 z4) (h2 : z2 ≠ 0) (h4 : z4 ≠ 0) : Calls Try.prog 25 #[.agg #[.bool b1, v1, .bool b2, v2], .agg #[.bool b3, v3, .bool b4, v4]] w (ResQ w (qn ((z1 * z4) + (z3 * z2)) (z2 * z4)) (qd ((z1 * z4) + (z3 * z2)) (z2 * z4))) := by
  obtain ⟨A1, n1, c1, rfl⟩ := m1.form
  obtain ⟨A2, n2, c2, rfl⟩ := m2.form
  obtain ⟨A3, n3, c3, rfl⟩ := m3.form
  obtain ⟨A4, n4, c4, rfl⟩ := m4.form
  have Z := Zt.start w (m1.has.append (m2.has.append (m3.has.append m4.has)))
  go_enter Try.func25, Try.ntmps25
  refine wp_seq ?_
  refine wp_region_list ?_
  refine seq_box4 Z rfl rfl rfl ?_; clear Z; intro g1 W Z
  (try simp only [Act.put, List.setIfInBounds_toArray, List.set_cons_zero, List.set_cons_succ])
  refine seq_box4 Z rfl rfl rfl ?_; clear Z; intro g2 W Z
  (try simp only [Act.put, List.setIfInBounds_toArray, List.set_cons_zero, List.set_cons_succ])
  refine seq_alloc4 Z rfl rfl ?_; clear Z; intro g3 W Z
  (try simp only [Act.put, List.setIfInBounds_toArray, List.set_cons_zero, List.set_cons_succ])
  show Code.wp _ _ _ _ _
  refine wp_seq ?_
  refine wp_region_list ?_
  refine seq_is (v := .pointer (some ⟨g1, 0, none⟩)) rfl (run_fieldR0 rfl rfl) ?_
  (try simp only [Act.put, List.setIfInBounds_toArray, List.set_cons_zero, List.set_cons_succ])
  refine seq_is (v := .agg #[.bool (b1), .slice A1 n1 c1]) rfl (run_loadNum rfl rfl (Z.bx 2 rfl)) ?_
  (try simp only [Act.put, List.setIfInBounds_toArray, List.set_cons_zero, List.set_cons_succ])
  refine seq_is (v := .pointer (some ⟨g2, 2, none⟩)) rfl (run_fieldR1 rfl rfl) ?_
  (try simp only [Act.put, List.setIfInBounds_toArray, List.set_cons_zero, List.set_cons_succ])
  refine seq_is (v := .agg #[.bool (b4), .slice A4 n4 c4]) rfl (run_loadDen rfl rfl (Z.bx 1 rfl)) ?_
  (try simp only [Act.put, List.setIfInBounds_toArray, List.set_cons_zero, List.set_cons_succ])
  refine seq_call Z rfl rfl Try.func61 rfl rfl (args2 rfl rfl) (Z.callI (trammelref02_Mul.sem (Z.num 0 rfl) (Z.num 3 rfl) (Bd.fm (Bd.mul (Bd.abs hb1) (Bd.abs hb4)) (by decide)) )) ?_; clear Z; intro x4 W Z
  (try simp only [Act.put, List.setIfInBounds_toArray, List.set_cons_zero, List.set_cons_succ])
  refine seq_alloc Z rfl rfl ?_; clear Z; intro g5 W Z
  (try simp only [Act.put, List.setIfInBounds_toArray, List.set_cons_zero, List.set_cons_succ])
  refine seq_store Z 0 rfl rfl rfl rfl rfl ?_; clear Z; intro W Z
  (try simp only [Act.put, List.setIfInBounds_toArray, List.set_cons_zero, List.set_cons_succ])
  show Code.wp _ _ _ _ _
  refine wp_seq ?_
  refine wp_region_list ?_
  refine seq_is (v := .pointer (some ⟨g2, 0, none⟩)) rfl (run_fieldR0 rfl rfl) ?_
  (try simp only [Act.put, List.setIfInBounds_toArray, List.set_cons_zero, List.set_cons_succ])
  refine seq_is (v := .agg #[.bool (b3), .slice A3 n3 c3]) rfl (run_loadNum rfl rfl (Z.bx 2 rfl)) ?_
  (try simp only [Act.put, List.setIfInBounds_toArray, List.set_cons_zero, List.set_cons_succ])
  refine seq_is (v := .pointer (some ⟨g1, 2, none⟩)) rfl (run_fieldR1 rfl rfl) ?_
  (try simp only [Act.put, List.setIfInBounds_toArray, List.set_cons_zero, List.set_cons_succ])
  refine seq_is (v := .agg #[.bool (b2), .slice A2 n2 c2]) rfl (run_loadDen rfl rfl (Z.bx 3 rfl)) ?_
  (try simp only [Act.put, List.setIfInBounds_toArray, List.set_cons_zero, List.set_cons_succ])
  refine seq_call Z rfl rfl Try.func61 rfl rfl (args2 rfl rfl) (Z.callI (trammelref02_Mul.sem (Z.num 3 rfl) (Z.num 2 rfl) (Bd.fm (Bd.mul (Bd.abs hb3) (Bd.abs hb2)) (by decide)) )) ?_; clear Z; intro x6 W Z
  (try simp only [Act.put, List.setIfInBounds_toArray, List.set_cons_zero, List.set_cons_succ])
  refine seq_alloc Z rfl rfl ?_; clear Z; intro g7 W Z
  (try simp only [Act.put, List.setIfInBounds_toArray, List.set_cons_zero, List.set_cons_succ])
  refine seq_store Z 0 rfl rfl rfl rfl rfl ?_; clear Z; intro W Z
  (try simp only [Act.put, List.setIfInBounds_toArray, List.set_cons_zero, List.set_cons_succ])
  show Code.wp _ _ _ _ _
  refine wp_seq ?_
  refine wp_dag (pre := [_, _, _, _, _, _, _, _, _]) (sps := [.is (.agg #[.bool (decide ((z1) * (z4) < 0)), x4.v]), .is (.agg #[.bool (decide ((z3) * (z2) < 0)), x6.v]), spI w (((z1) * (z4)) + ((z3) * (z2))), .is (.pointer (some ⟨g1, 2, none⟩)), .is (.agg #[.bool (b2), .slice A2 n2 c2]), .is (.pointer (some ⟨g2, 2, none⟩)), .is (.agg #[.bool (b4), .slice A4 n4 c4]), spI w ((z2) * (z4)), spQ w (qn (((z1) * (z4)) + ((z3) * (z2))) ((z2) * (z4))) (qd (((z1) * (z4)) + ((z3) * (z2))) ((z2) * (z4)))]) Z (by kernel_rfl) _ rfl (by kernel_rfl) (by kernel_rfl) rfl ⟨?_, ?_, ?_, ?_, ?_, ?_, ?_, ?_, ?_, trivial⟩ ?_
  · intro a e8 W Q Z; exact step_is (fun _ h => op_plain rfl rfl h) (run_load2 rfl (ev e8) (Z.bx 1 rfl))
  · intro a e10 W Q Z; exact step_is (fun _ h => op_plain rfl rfl h) (run_load2 rfl (ev e10) (Z.bx 0 rfl))
  · intro a x12 e13 x14 e15 W Q Z; exact step_call (fun _ h => op_plain rfl rfl h) rfl Try.func62 rfl rfl (args2 (ev e13) (ev e15)) (Z.callI (trammelref02_Add.sem (Z.own 1 rfl (Bd.fm (Bd.abs (Bd.mul hb1 hb4)) (by decide))) (Z.own 0 rfl (Bd.fm (Bd.abs (Bd.mul hb3 hb2)) (by decide))) (Bd.fm (Bd.add (Bd.abs (Bd.mul hb1 hb4)) (Bd.abs (Bd.mul hb3 hb2))) (by decide)) (Bd.fm (Bd.sub (Bd.abs (Bd.mul hb1 hb4)) (Bd.abs (Bd.mul hb3 hb2))) (by decide)) (Bd.fm (Bd.sub (Bd.abs (Bd.mul hb3 hb2)) (Bd.abs (Bd.mul hb1 hb4))) (by decide)) ))
  · intro a e17 W Q Z; exact step_is (fun _ h => op_plain rfl rfl h) (run_fieldR1 rfl (ev e17))
  · intro a x19 e20 W Q Z; exact step_is (fun _ h => op_plain rfl rfl h) (run_loadDen rfl (ev e20) (Z.bx 4 rfl))
  · intro a e22 W Q Z; exact step_is (fun _ h => op_plain rfl rfl h) (run_fieldR1 rfl (ev e22))
  · intro a x24 e25 W Q Z; exact step_is (fun _ h => op_plain rfl rfl h) (run_loadDen rfl (ev e25) (Z.bx 3 rfl))
  · intro a x27 e28 x29 e30 W Q Z; exact step_call (fun _ h => op_plain rfl rfl h) rfl Try.func61 rfl rfl (args2 (ev e28) (ev e30)) (Z.callI (trammelref02_Mul.sem (Z.num 3 rfl) (Z.num 5 rfl) (Bd.fm (Bd.mul (Bd.abs hb2) (Bd.abs hb4)) (by decide)) ))
  · intro a x32 e33 x34 e35 W Q Z; exact step_call (fun _ h => op_plain rfl rfl h) rfl Try.func17 rfl rfl (args2 (ev e33) (ev e35)) (Z.callQ (trammelref03_Make.semq (Z.own 1 rfl (Bd.fm (Bd.abs (Bd.add (Bd.mul hb1 hb4) (Bd.mul hb3 hb2))) (by decide))) (Z.own 0 rfl (Bd.fm (Bd.abs (Bd.mul hb2 hb4)) (by decide))) (Bd.mono (Bd.add (Bd.mul hb1 hb4) (Bd.mul hb3 hb2)) (by decide)) (Bd.mono (Bd.mul hb2 hb4) (by decide)) (Int.mul_ne_zero h2 h4)))
  clear Z; intro x9 x11 x16 x18 x21 x23 x26 x31 x36 W Z
  (try simp only [Act.put, List.setIfInBounds_toArray, List.set_cons_zero, List.set_cons_succ])
  refine seq_store4 Z 2 rfl rfl rfl rfl rfl ?_; clear Z; intro W Z
  (try simp only [Act.put, List.setIfInBounds_toArray, List.set_cons_zero, List.set_cons_succ])
  show Code.wp _ _ _ _ _
  refine wp_ret ?_
  exact Z.endsQ' 2 0 1 rfl rfl rfl rfl rfl rfl (by rfl) (by rfl) (by rfl) (by rfl)
set_option maxHeartbeats 4000000 in
set_option maxRecDepth 100000 in
theorem trammelref03_Sub.sem {w : World} {b1 : Bool} {v1 : Value} {z1 : Int} {b2 : Bool} {v2 : Value} {z2 : Int} {b3 : Bool} {v3 : Value} {z3 : Int} {b4 : Bool} {v4 : Value} {z4 : Int} (m1 : NumV w b1 v1 z1) (m2 : NumV w b2 v2 z2) (m3 : NumV w b3 v3 z3) (m4 : NumV w b4 v4 z4) (hb1 : Bd 74000000 z1) (hb2 : Bd 74000000 z2) (hb3 : Bd 74000000 z3) (hb4 : Bd 74000000 z4) (h2 : z2 ≠ 0) (h4 : z4 ≠ 0) : Calls Try.prog 26 #[.agg #[.bool b1, v1, .bool b2, v2], .agg #[.bool b3, v3, .bool b4, v4]] w (ResQ w (qn ((z1 * z4) - (z3 * z2)) (z2 * z4)) (qd ((z1 * z4) - (z3 * z2)) (z2 * z4))) := by
  obtain ⟨A1, n1, c1, rfl⟩ := m1.form
  obtain ⟨A2, n2, c2, rfl⟩ := m2.form
  obtain ⟨A3, n3, c3, rfl⟩ := m3.form
  obtain ⟨A4, n4, c4, rfl⟩ := m4.form
  have Z := Zt.start w (m1.has.append (m2.has.append (m3.has.append m4.has)))
  go_enter Try.func26, Try.ntmps26
  refine wp_seq ?_
  refine wp_region_list ?_
  refine seq_box4 Z rfl rfl rfl ?_; clear Z; intro g1 W Z
  (try simp only [Act.put, List.setIfInBounds_toArray, List.set_cons_zero, List.set_cons_succ])
  refine seq_box4 Z rfl rfl rfl ?_; clear Z; intro g2 W Z
  (try simp only [Act.put, List.setIfInBounds_toArray, List.set_cons_zero, List.set_cons_succ])
  refine seq_alloc4 Z rfl rfl ?_; clear Z; intro g3 W Z
  (try simp only [Act.put, List.setIfInBounds_toArray, List.set_cons_zero, List.set_cons_succ])
  show Code.wp _ _ _ _ _
  refine wp_seq ?_
  refine wp_dag (pre := [_, _, _, _]) (sps := [.is (.agg #[.bool (b1), .slice A1 n1 c1, .bool (b2), .slice A2 n2 c2]), .is (.agg #[.bool (b3), .slice A3 n3 c3, .bool (b4), .slice A4 n4 c4]), spQ w (qn (-(z3)) (z4)) (qd (-(z3)) (z4)), spQ w (qn (((z1) * (qd (-(z3)) (z4))) + ((qn (-(z3)) (z4)) * (z2))) ((z2) * (qd (-(z3)) (z4)))) (qd (((z1) * (qd (-(z3)) (z4))) + ((qn (-(z3)) (z4)) * (z2))) ((z2) * (qd (-(z3)) (z4))))]) Z (by kernel_rfl) _ rfl (by kernel_rfl) (by kernel_rfl) rfl ⟨?_, ?_, ?_, ?_, trivial⟩ ?_
  · intro a e4 W Q Z; exact step_is (fun _ h => op_plain rfl rfl h) (run_load4 rfl (ev e4) (Z.bx 2 rfl))
  · intro a e6 W Q Z; exact step_is (fun _ h => op_plain rfl rfl h) (run_load4 rfl (ev e6) (Z.bx 1 rfl))
  · intro a x8 e9 W Q Z; exact step_call (fun _ h => op_plain rfl rfl h) rfl Try.func63 rfl rfl (args1 (ev e9)) (Z.callQ (trammelref03_Neg.sem (Z.num 2 rfl) (Z.num 3 rfl) (Bd.mono hb3 (by decide)) (Bd.mono hb4 (by decide)) h4))
  · intro a x11 e12 x13 e14 W Q Z; exact step_call (fun _ h => op_plain rfl rfl h) rfl Try.func25 rfl rfl (args2 (ev e12) (ev e14)) (Z.callQ (trammelref03_Add.sem (Z.num 2 rfl) (Z.num 3 rfl) (Z.own 0 rfl (Bd.fm (Bd.abs (Bd.qn (Bd.neg hb3))) (by decide))) (Z.own 1 rfl (Bd.fm (Bd.abs (Bd.qd hb4)) (by decide))) (Bd.mono hb1 (by decide)) (Bd.mono hb2 (by decide)) (Bd.mono (Bd.qn (Bd.neg hb3)) (by decide)) (Bd.mono (Bd.qd hb4) (by decide)) h2 (pos_ne (qd_pos h4))))
  clear Z; intro x5 x7 x10 x15 W Z
  (try simp only [Act.put, List.setIfInBounds_toArray, List.set_cons_zero, List.set_cons_succ])
  refine seq_store4 Z 0 rfl rfl rfl rfl rfl ?_; clear Z; intro W Z
  (try simp only [Act.put, List.setIfInBounds_toArray, List.set_cons_zero, List.set_cons_succ])
  show Code.wp _ _ _ _ _
  refine wp_ret ?_
  exact Z.endsQ' 0 0 1 rfl rfl rfl rfl rfl rfl (by rw [(sub_q h2 h4).1]) (by rw [(sub_q h2 h4).1]) (by rw [(sub_q h2 h4).2]) (by rw [(sub_q h2 h4).2])
set_option maxHeartbeats 4000000 in
set_option maxRecDepth 100000 in
theorem trammelref03_Cmp.sem {w : World} {b1 : Bool} {v1 : Value} {z1 : Int} {b2 : Bool} {v2 : Value} {z2 : Int} {b3 : Bool} {v3 : Value} {z3 : Int} {b4 : Bool} {v4 : Value} {z4 : Int} (m1 : NumV w b1 v1 z1) (m2 : NumV w b2 v2 z2) (m3 : NumV w b3 v3 z3) (m4 : NumV w b4 v4 z4) (hb1 : Bd 74000000 z1) (hb2 : Bd 74000000 z2) (hb3 : Bd 74000000 z3) (hb4 : Bd 74000000 z4) (h2 : 0 < z2) (h4 : 0 < z4) : Calls Try.prog 22 #[.agg #[.bool b1, v1, .bool b2, v2], .agg #[.bool b3, v3, .bool b4, v4]] w (RetV w (.int .i64 ((z1 * z4 - z3 * z2).sign))) := by
  obtain ⟨A1, n1, c1, rfl⟩ := m1.form
  obtain ⟨A2, n2, c2, rfl⟩ := m2.form
  obtain ⟨A3, n3, c3, rfl⟩ := m3.form
  obtain ⟨A4, n4, c4, rfl⟩ := m4.form
  have Z := Zt.start w (m1.has.append (m2.has.append (m3.has.append m4.has)))
  go_enter Try.func22, Try.ntmps22
  refine wp_seq ?_
  refine wp_region_list ?_
  refine seq_box4 Z rfl rfl rfl ?_; clear Z; intro g1 W Z
  (try simp only [Act.put, List.setIfInBounds_toArray, List.set_cons_zero, List.set_cons_succ])
  refine seq_box4 Z rfl rfl rfl ?_; clear Z; intro g2 W Z
  (try simp only [Act.put, List.setIfInBounds_toArray, List.set_cons_zero, List.set_cons_succ])
  refine seq_is (v := .int .i64 (0)) rfl (run_assign rfl rfl) ?_
  (try simp only [Act.put, List.setIfInBounds_toArray, List.set_cons_zero, List.set_cons_succ])
  show Code.wp _ _ _ _ _
  refine wp_seq ?_
  refine wp_region_list ?_
  refine seq_is (v := .agg #[.bool (b1), .slice A1 n1 c1, .bool (b2), .slice A2 n2 c2]) rfl (run_load4 rfl rfl (Z.bx 1 rfl)) ?_
  (try simp only [Act.put, List.setIfInBounds_toArray, List.set_cons_zero, List.set_cons_succ])
  refine seq_is (v := .agg #[.bool (b3), .slice A3 n3 c3, .bool (b4), .slice A4 n4 c4]) rfl (run_load4 rfl rfl (Z.bx 0 rfl)) ?_
  (try simp only [Act.put, List.setIfInBounds_toArray, List.set_cons_zero, List.set_cons_succ])
  refine seq_call Z rfl rfl Try.func26 rfl rfl (args2 rfl rfl) (Z.callQ (trammelref03_Sub.sem (Z.num 0 rfl) (Z.num 1 rfl) (Z.num 2 rfl) (Z.num 3 rfl) (Bd.mono hb1 (by decide)) (Bd.mono hb2 (by decide)) (Bd.mono hb3 (by decide)) (Bd.mono hb4 (by decide)) (pos_ne h2) (pos_ne h4))) ?_; clear Z; intro x3 W Z
  (try simp only [Act.put, List.setIfInBounds_toArray, List.set_cons_zero, List.set_cons_succ])
  refine seq_is (v := .agg #[.bool (decide (qn (((z1) * (z4)) - ((z3) * (z2))) ((z2) * (z4)) < 0)), x3.1.v]) rfl (run_fieldN rfl rfl) ?_
  (try simp only [Act.put, List.setIfInBounds_toArray, List.set_cons_zero, List.set_cons_succ])
  refine seq_call Z rfl rfl Try.func14 rfl rfl (args1 rfl) (Z.callV (trammelref02_Sign.sem (Z.own 0 rfl (Bd.fm (Bd.abs (Bd.qn (Bd.sub (Bd.mul hb1 hb4) (Bd.mul hb3 hb2)))) (by decide))) (Bd.fm (Bd.abs (Bd.qn (Bd.sub (Bd.mul hb1 hb4) (Bd.mul hb3 hb2)))) (by decide)) )) ?_; clear Z; intro x4 W Z
  (try simp only [Act.put, List.setIfInBounds_toArray, List.set_cons_zero, List.set_cons_succ])
  refine seq_is (v := .int .i64 ((qn (((z1) * (z4)) - ((z3) * (z2))) ((z2) * (z4))).sign)) rfl (run_assign rfl rfl) ?_
  (try simp only [Act.put, List.setIfInBounds_toArray, List.set_cons_zero, List.set_cons_succ])
  show Code.wp _ _ _ _ _
  refine wp_ret ?_
  exact Z.endsV (u := .int .i64 ((qn (((z1) * (z4)) - ((z3) * (z2))) ((z2) * (z4))).sign)) rfl rfl rfl (by rw [sign_qn (Int.mul_pos h2 h4)])
theorem trammelref03_Cmp.semc {w : World} {b1 : Bool} {v1 : Value} {z1 : Int} {b2 : Bool} {v2 : Value} {z2 : Int} {b3 : Bool} {v3 : Value} {z3 : Int} {b4 : Bool} {v4 : Value} {z4 : Int} (m1 : NumV w b1 v1 z1) (m2 : NumV w b2 v2 z2) (m3 : NumV w b3 v3 z3) (m4 : NumV w b4 v4 z4) (hb1 : Bd 74000000 z1) (hb2 : Bd 74000000 z2) (hb3 : Bd 74000000 z3) (hb4 : Bd 74000000 z4) (h2 : 0 < z2) (h4 : 0 < z4) : Calls Try.prog 22 #[.agg #[.bool b1, v1, .bool b2, v2], .agg #[.bool b3, v3, .bool b4, v4]] w (RetV w (.int .i64 (cmp (z1 * z4) (z3 * z2)))) := by
  rw [cmp_sign]
  exact trammelref03_Cmp.sem m1 m2 m3 m4 hb1 hb2 hb3 hb4 h2 h4
end Go.Proofs.Ytndopanohhdfgaa.PA

