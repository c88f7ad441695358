/- The walk of the law RatField: what its code answers for arguments of a bulk of at most 1048576. -/
import Derived.Outline
import Derived.Test.YtndopanohhdfgaaZYK
import Derived.Test.YtndopanohhdfgaaZDK
import Derived.Test.YtndopanohhdfgaaPAx0K
namespace Go.Proofs.Ytndopanohhdfgaa.PA
open Go Go.Proofs.Ytndopanohhdfgaa.Nums Go.RowKit Go.Proofs.YtndopanohhdfgaaW.PrintWords Go.Proofs.YtndopanohhdfgaaW.PrintLast Go.Proofs.YtndopanohhdfgaaW.PrintMore
set_option linter.unusedVariables false
set_option linter.unusedSimpArgs false
theorem field_1 {a b c d : Int} (hb : 0 < b) (hd : 0 < d) : qn (a * d + c * b) (b * d) = qn (c * b + a * d) (d * b) ∧ qd (a * d + c * b) (b * d) = qd (c * b + a * d) (d * b) :=
  q_eq (pos_ne (Int.mul_pos hb hd)) (pos_ne (Int.mul_pos hd hb)) (by grind)
theorem field_2 {a b c d e f : Int} (hb : 0 < b) (hd : 0 < d) (hf : 0 < f) : qn (qn (a * d + c * b) (b * d) * f + e * qd (a * d + c * b) (b * d)) (qd (a * d + c * b) (b * d) * f) = qn (a * qd (c * f + e * d) (d * f) + qn (c * f + e * d) (d * f) * b) (b * qd (c * f + e * d) (d * f)) ∧ qd (qn (a * d + c * b) (b * d) * f + e * qd (a * d + c * b) (b * d)) (qd (a * d + c * b) (b * d) * f) = qd (a * qd (c * f + e * d) (d * f) + qn (c * f + e * d) (d * f) * b) (b * qd (c * f + e * d) (d * f)) := by
  have p1 := pos_ne (Int.mul_pos hb hd)
  have p2 := pos_ne (Int.mul_pos hd hf)
  have c1 := q_cross (x := a * d + c * b) p1
  have c2 := q_cross (x := c * f + e * d) p2
  have d1 := qd_pos (x := a * d + c * b) p1
  have d2 := qd_pos (x := c * f + e * d) p2
  have k1 := q_eq (x := qn (a * d + c * b) (b * d) * f + e * qd (a * d + c * b) (b * d)) (u := a * d * f + c * b * f + e * b * d) (v := b * d * f) (pos_ne (Int.mul_pos d1 hf)) (pos_ne (Int.mul_pos (Int.mul_pos hb hd) hf)) (by grind)
  have k2 := q_eq (x := a * qd (c * f + e * d) (d * f) + qn (c * f + e * d) (d * f) * b) (u := a * d * f + c * b * f + e * b * d) (v := b * d * f) (pos_ne (Int.mul_pos hb d2)) (pos_ne (Int.mul_pos (Int.mul_pos hb hd) hf)) (by grind)
  exact ⟨k1.1.trans k2.1.symm, k1.2.trans k2.2.symm⟩
theorem field_3 {a b c d e f : Int} (hb : 0 < b) (hd : 0 < d) (hf : 0 < f) : qn (a * qn (c * f + e * d) (d * f)) (b * qd (c * f + e * d) (d * f)) = qn (qn (a * c) (b * d) * qd (a * e) (b * f) + qn (a * e) (b * f) * qd (a * c) (b * d)) (qd (a * c) (b * d) * qd (a * e) (b * f)) ∧ qd (a * qn (c * f + e * d) (d * f)) (b * qd (c * f + e * d) (d * f)) = qd (qn (a * c) (b * d) * qd (a * e) (b * f) + qn (a * e) (b * f) * qd (a * c) (b * d)) (qd (a * c) (b * d) * qd (a * e) (b * f)) := by
  have p1 := pos_ne (Int.mul_pos hb hd)
  have p2 := pos_ne (Int.mul_pos hd hf)
  have p3 := pos_ne (Int.mul_pos hb hf)
  have c1 := q_cross (x := a * c) p1
  have c2 := q_cross (x := c * f + e * d) p2
  have c3 := q_cross (x := a * e) p3
  have d1 := qd_pos (x := a * c) p1
  have d2 := qd_pos (x := c * f + e * d) p2
  have d3 := qd_pos (x := a * e) p3
  have k1 := q_eq (x := a * qn (c * f + e * d) (d * f)) (u := a * (c * f + e * d)) (v := b * d * f) (pos_ne (Int.mul_pos hb d2)) (pos_ne (Int.mul_pos (Int.mul_pos hb hd) hf)) (by grind)
  have k2 := q_eq (x := qn (a * c) (b * d) * qd (a * e) (b * f) + qn (a * e) (b * f) * qd (a * c) (b * d)) (u := a * (c * f + e * d)) (v := b * d * f) (pos_ne (Int.mul_pos d1 d3)) (pos_ne (Int.mul_pos (Int.mul_pos hb hd) hf)) (by grind)
  exact ⟨k1.1.trans k2.1.symm, k1.2.trans k2.2.symm⟩
theorem field_4 {a b c d : Int} (hb : 0 < b) (hd : 0 < d) : qn (qn (a * d + c * b) (b * d) * d - c * qd (a * d + c * b) (b * d)) (qd (a * d + c * b) (b * d) * d) = qn a b ∧ qd (qn (a * d + c * b) (b * d) * d - c * qd (a * d + c * b) (b * d)) (qd (a * d + c * b) (b * d) * d) = qd a b := by
  have p1 := pos_ne (Int.mul_pos hb hd)
  have c1 := q_cross (x := a * d + c * b) p1
  have d1 := qd_pos (x := a * d + c * b) p1
  refine q_eq (pos_ne (Int.mul_pos d1 hd)) (pos_ne hb) ?_
  have : ((qn (a * d + c * b) (b * d) * d - c * qd (a * d + c * b) (b * d)) * b - a * (qd (a * d + c * b) (b * d) * d)) * d = 0 := by grind
  rcases Int.mul_eq_zero.mp this with h | h <;> omega
theorem field_5 {a b c d : Int} (hb : 0 < b) (hd : 0 < d) (hc : c ≠ 0) : qn (qn (a * c) (b * d) * d) (qd (a * c) (b * d) * c) = qn a b ∧ qd (qn (a * c) (b * d) * d) (qd (a * c) (b * d) * c) = qd a b := by
  have p1 := pos_ne (Int.mul_pos hb hd)
  have c1 := q_cross (x := a * c) p1
  have d1 := qd_pos (x := a * c) p1
  refine q_eq (Int.mul_ne_zero (pos_ne d1) hc) (pos_ne hb) ?_
  grind
set_option maxHeartbeats 8000000 in
set_option maxRecDepth 100000 in
theorem trammellaw03_RatField.walk (b0n : Bool) (a0n : Option Addr) (len0n cap0n : Nat) (q0n : List Int) (b0d : Bool) (a0d : Option Addr) (len0d cap0d : Nat) (q0d : List Int) (b1n : Bool) (a1n : Option Addr) (len1n cap1n : Nat) (q1n : List Int) (b1d : Bool) (a1d : Option Addr) (len1d cap1d : Nat) (q1d : List Int) (b2n : Bool) (a2n : Option Addr) (len2n cap2n : Nat) (q2n : List Int) (b2d : Bool) (a2d : Option Addr) (len2d cap2d : Nat) (q2d : List Int) (w : World) (w0n : bulks.IsRow .u32 w a0n len0n cap0n q0n) (y0n : len0n ≤ 1048576) (w0d : bulks.IsRow .u32 w a0d len0d cap0d q0d) (y0d : len0d ≤ 1048576) (w1n : bulks.IsRow .u32 w a1n len1n cap1n q1n) (y1n : len1n ≤ 1048576) (w1d : bulks.IsRow .u32 w a1d len1d cap1d q1d) (y1d : len1d ≤ 1048576) (w2n : bulks.IsRow .u32 w a2n len2n cap2n q2n) (y2n : len2n ≤ 1048576) (w2d : bulks.IsRow .u32 w a2d len2d cap2d q2d) (y2d : len2d ≤ 1048576) : Calls Try.prog 10 #[.agg #[.bool b0n, .slice a0n len0n cap0n, .bool b0d, .slice a0d len0d cap0d], .agg #[.bool b1n, .slice a1n len1n cap1n, .bool b1d, .slice a1d len1d cap1d], .agg #[.bool b2n, .slice a2n len2n cap2n, .bool b2d, .slice a2d len2d cap2d]] w (RetV w (.bool true)) := by
  obtain ⟨l0n, r0n, o0n, hl0n⟩ := row_rd w0n y0n
  obtain ⟨x0n, N0n, F0n, hx0n⟩ := arg_num (b := b0n) o0n hl0n
  obtain ⟨l0d, r0d, o0d, hl0d⟩ := row_rd w0d y0d
  obtain ⟨x0d, N0d, F0d, hx0d⟩ := arg_num (b := b0d) o0d hl0d
  obtain ⟨l1n, r1n, o1n, hl1n⟩ := row_rd w1n y1n
  obtain ⟨x1n, N1n, F1n, hx1n⟩ := arg_num (b := b1n) o1n hl1n
  obtain ⟨l1d, r1d, o1d, hl1d⟩ := row_rd w1d y1d
  obtain ⟨x1d, N1d, F1d, hx1d⟩ := arg_num (b := b1d) o1d hl1d
  obtain ⟨l2n, r2n, o2n, hl2n⟩ := row_rd w2n y2n
  obtain ⟨x2n, N2n, F2n, hx2n⟩ := arg_num (b := b2n) o2n hl2n
  obtain ⟨l2d, r2d, o2d, hl2d⟩ := row_rd w2d y2d
  obtain ⟨x2d, N2d, F2d, hx2d⟩ := arg_num (b := b2d) o2d hl2d
  have Z := Zt.start w (r0n.has.append (r0d.has.append (r1n.has.append (r1d.has.append (r2n.has.append r2d.has)))))
  obtain ⟨tt, htt⟩ : ∃ b : Bool, b = true := ⟨true, rfl⟩
  obtain ⟨ff, hff⟩ : ∃ b : Bool, b = false := ⟨false, rfl⟩
  rcases (Classical.em ((0 < x0d ∧ 0 < x1d) ∧ 0 < x2d)) with H | H
  · rcases (Classical.em (x1n = 0)) with h3 | h3
    · go_enter Try.func10, Try.ntmps10
      refine wp_seq ?_
      refine wp_region_list ?_
      refine seq_box4 Z rfl rfl rfl ?_; clear Z; intro g1 W Z
      (try simp only [Act.put, List.setIfInBounds_toArray, List.set_cons_zero, List.set_cons_succ])
      refine seq_box4 Z rfl rfl rfl ?_; clear Z; intro g2 W Z
      (try simp only [Act.put, List.setIfInBounds_toArray, List.set_cons_zero, List.set_cons_succ])
      refine seq_box4 Z rfl rfl rfl ?_; clear Z; intro g3 W Z
      (try simp only [Act.put, List.setIfInBounds_toArray, List.set_cons_zero, List.set_cons_succ])
      refine seq_is (v := .bool (false)) rfl (run_assign rfl rfl) ?_
      (try simp only [Act.put, List.setIfInBounds_toArray, List.set_cons_zero, List.set_cons_succ])
      show Code.wp _ _ _ _ _
      refine wp_seq ?_
      refine wp_seq ?_
      refine wp_region_list ?_
      refine seq_call Z rfl rfl Try.func16 rfl rfl (show Array.map _ #[] = #[] by simp) (Z.callV (trammellaw03_awake.sem _)) ?_; clear Z; intro x4 W Z
      (try simp only [Act.put, List.setIfInBounds_toArray, List.set_cons_zero, List.set_cons_succ])
      refine seq_is (v := .bool (!(true))) rfl (run_not rfl rfl) ?_
      (try simp only [Act.put, List.setIfInBounds_toArray, List.set_cons_zero, List.set_cons_succ])
      show Code.wp _ _ _ _ _
      refine wp_cond_false rfl ?_
      refine wp_skip ?_
      show Code.wp _ _ _ _ _
      refine wp_seq ?_
      refine wp_seq ?_
      refine wp_region_list ?_
      refine seq_is (v := .agg #[.bool (b0n), .slice a0n len0n cap0n, .bool (b0d), .slice a0d len0d cap0d]) rfl (run_load4 rfl rfl (Z.bx 2 rfl)) ?_
      (try simp only [Act.put, List.setIfInBounds_toArray, List.set_cons_zero, List.set_cons_succ])
      refine seq_is (v := .agg #[.bool (b1n), .slice a1n len1n cap1n, .bool (b1d), .slice a1d len1d cap1d]) rfl (run_load4 rfl rfl (Z.bx 1 rfl)) ?_
      (try simp only [Act.put, List.setIfInBounds_toArray, List.set_cons_zero, List.set_cons_succ])
      refine seq_call Z rfl rfl Try.func21 rfl rfl (args2 rfl rfl) (Z.callV (trammellaw03_both.sem (N0n _ _ (Z.rd 0 rfl)) (N0d _ _ (Z.rd 1 rfl)) (N1n _ _ (Z.rd 2 rfl)) (N1d _ _ (Z.rd 3 rfl)) (Bd.mono F0d (by decide)) (Bd.mono F1d (by decide)))) ?_; clear Z; intro x5 W Z
      (try simp only [Act.put, List.setIfInBounds_toArray, List.set_cons_zero, List.set_cons_succ])
      refine seq_is (v := .bool (!(okB2 (x0d) (x1d)))) rfl (run_not rfl rfl) ?_
      (try simp only [Act.put, List.setIfInBounds_toArray, List.set_cons_zero, List.set_cons_succ])
      refine seq_is (v := .bool (!(okB2 (x0d) (x1d)))) rfl (run_move rfl rfl) ?_
      (try simp only [Act.put, List.setIfInBounds_toArray, List.set_cons_zero, List.set_cons_succ])
      refine list_want rfl rfl (congrArg some (congrArg Value.bool (congrArg Bool.not (okB2_t H.1)))) (wp_run (v := .agg #[.bool (b2n), .slice a2n len2n cap2n, .bool (b2d), .slice a2d len2d cap2d]) (run_load4 rfl rfl (Z.bx 0 rfl)) ?_)
      (try simp only [Act.put, List.setIfInBounds_toArray, List.set_cons_zero, List.set_cons_succ])
      refine seq_callw Z (fun h => list_want rfl rfl (congrArg some (congrArg Value.bool (congrArg Bool.not (okB2_t H.1)))) h) rfl Try.func31 rfl rfl (args1 rfl) (Z.callV (trammellaw03_ok.sem (N2n _ _ (Z.rd 4 rfl)) (N2d _ _ (Z.rd 5 rfl)) (Bd.mono F2d (by decide)))) ?_; clear Z; intro x6 W Z
      (try simp only [Act.put, List.setIfInBounds_toArray, List.set_cons_zero, List.set_cons_succ])
      refine list_want rfl rfl (congrArg some (congrArg Value.bool (congrArg Bool.not (okB2_t H.1)))) (wp_run (v := .bool (!(okB1 (x2d)))) (run_not rfl rfl) ?_)
      (try simp only [Act.put, List.setIfInBounds_toArray, List.set_cons_zero, List.set_cons_succ])
      refine seq_is (v := .bool (!(okB1 (x2d)))) rfl (run_pickF rfl ((show _ = Value.bool (!(okB2 (x0d) (x1d))) from rfl).trans (congrArg Value.bool (congrArg Bool.not (okB2_t H.1)))) rfl) ?_
      (try simp only [Act.put, List.setIfInBounds_toArray, List.set_cons_zero, List.set_cons_succ])
      show Code.wp _ _ _ _ _
      refine wp_cond_false ((show _ = Value.bool (!(okB1 (x2d))) from rfl).trans (congrArg Value.bool (congrArg Bool.not (decide_eq_true H.2)))) ?_
      refine wp_skip ?_
      show Code.wp _ _ _ _ _
      refine wp_seq ?_
      refine wp_region_list ?_
      refine seq_is (v := .agg #[.bool (b0n), .slice a0n len0n cap0n, .bool (b0d), .slice a0d len0d cap0d]) rfl (run_load4 rfl rfl (Z.bx 2 rfl)) ?_
      (try simp only [Act.put, List.setIfInBounds_toArray, List.set_cons_zero, List.set_cons_succ])
      refine seq_is (v := .agg #[.bool (b1n), .slice a1n len1n cap1n, .bool (b1d), .slice a1d len1d cap1d]) rfl (run_load4 rfl rfl (Z.bx 1 rfl)) ?_
      (try simp only [Act.put, List.setIfInBounds_toArray, List.set_cons_zero, List.set_cons_succ])
      refine seq_call Z rfl rfl Try.func23 rfl rfl (args2 rfl rfl) (Z.callQi (rat_Add.sem (N0n _ _ (Z.rd 0 rfl)) (N0d _ _ (Z.rd 1 rfl)) (N1n _ _ (Z.rd 2 rfl)) (N1d _ _ (Z.rd 3 rfl)) (Bd.mono F0n (by decide)) (Bd.mono F0d (by decide)) (Bd.mono F1n (by decide)) (Bd.mono F1d (by decide)) H.1.1 H.1.2)) ?_; clear Z; intro x7 W Z
      (try simp only [Act.put, List.setIfInBounds_toArray, List.set_cons_zero, List.set_cons_succ])
      refine seq_is (v := .tuple #[.agg #[.bool (decide (qn (((x0n) * (x1d)) + ((x1n) * (x0d))) ((x0d) * (x1d)) < 0)), x7.1.v, .bool (decide (qd (((x0n) * (x1d)) + ((x1n) * (x0d))) ((x0d) * (x1d)) < 0)), x7.2.v], .int .i64 (0)]) rfl (run_move rfl rfl) ?_
      (try simp only [Act.put, List.setIfInBounds_toArray, List.set_cons_zero, List.set_cons_succ])
      refine seq_is (v := .agg #[.bool (decide (qn (((x0n) * (x1d)) + ((x1n) * (x0d))) ((x0d) * (x1d)) < 0)), x7.1.v, .bool (decide (qd (((x0n) * (x1d)) + ((x1n) * (x0d))) ((x0d) * (x1d)) < 0)), x7.2.v]) rfl (run_extract rfl rfl rfl) ?_
      (try simp only [Act.put, List.setIfInBounds_toArray, List.set_cons_zero, List.set_cons_succ])
      refine seq_is (v := .int .i64 (0)) rfl (run_extract rfl rfl rfl) ?_
      (try simp only [Act.put, List.setIfInBounds_toArray, List.set_cons_zero, List.set_cons_succ])
      refine seq_alloc4 Z rfl rfl ?_; clear Z; intro g8 W Z
      (try simp only [Act.put, List.setIfInBounds_toArray, List.set_cons_zero, List.set_cons_succ])
      refine seq_store4 Z 0 rfl rfl rfl rfl rfl ?_; clear Z; intro W Z
      (try simp only [Act.put, List.setIfInBounds_toArray, List.set_cons_zero, List.set_cons_succ])
      refine seq_is (v := .int .i64 (0)) rfl (run_assign rfl rfl) ?_
      (try simp only [Act.put, List.setIfInBounds_toArray, List.set_cons_zero, List.set_cons_succ])
      show Code.wp _ _ _ _ _
      refine wp_seq ?_
      refine wp_region_list ?_
      refine seq_is (v := .agg #[.bool (b1n), .slice a1n len1n cap1n, .bool (b1d), .slice a1d len1d cap1d]) rfl (run_load4 rfl rfl (Z.bx 2 rfl)) ?_
      (try simp only [Act.put, List.setIfInBounds_toArray, List.set_cons_zero, List.set_cons_succ])
      refine seq_is (v := .agg #[.bool (b0n), .slice a0n len0n cap0n, .bool (b0d), .slice a0d len0d cap0d]) rfl (run_load4 rfl rfl (Z.bx 3 rfl)) ?_
      (try simp only [Act.put, List.setIfInBounds_toArray, List.set_cons_zero, List.set_cons_succ])
      refine seq_call Z rfl rfl Try.func23 rfl rfl (args2 rfl rfl) (Z.callQi (rat_Add.sem (N1n _ _ (Z.rd 4 rfl)) (N1d _ _ (Z.rd 5 rfl)) (N0n _ _ (Z.rd 2 rfl)) (N0d _ _ (Z.rd 3 rfl)) (Bd.mono F1n (by decide)) (Bd.mono F1d (by decide)) (Bd.mono F0n (by decide)) (Bd.mono F0d (by decide)) H.1.2 H.1.1)) ?_; clear Z; intro x9 W Z
      (try simp only [Act.put, List.setIfInBounds_toArray, List.set_cons_zero, List.set_cons_succ])
      refine seq_is (v := .tuple #[.agg #[.bool (decide (qn (((x1n) * (x0d)) + ((x0n) * (x1d))) ((x1d) * (x0d)) < 0)), x9.1.v, .bool (decide (qd (((x1n) * (x0d)) + ((x0n) * (x1d))) ((x1d) * (x0d)) < 0)), x9.2.v], .int .i64 (0)]) rfl (run_move rfl rfl) ?_
      (try simp only [Act.put, List.setIfInBounds_toArray, List.set_cons_zero, List.set_cons_succ])
      refine seq_is (v := .agg #[.bool (decide (qn (((x1n) * (x0d)) + ((x0n) * (x1d))) ((x1d) * (x0d)) < 0)), x9.1.v, .bool (decide (qd (((x1n) * (x0d)) + ((x0n) * (x1d))) ((x1d) * (x0d)) < 0)), x9.2.v]) rfl (run_extract rfl rfl rfl) ?_
      (try simp only [Act.put, List.setIfInBounds_toArray, List.set_cons_zero, List.set_cons_succ])
      refine seq_is (v := .int .i64 (0)) rfl (run_extract rfl rfl rfl) ?_
      (try simp only [Act.put, List.setIfInBounds_toArray, List.set_cons_zero, List.set_cons_succ])
      refine seq_alloc4 Z rfl rfl ?_; clear Z; intro g10 W Z
      (try simp only [Act.put, List.setIfInBounds_toArray, List.set_cons_zero, List.set_cons_succ])
      refine seq_store4 Z 0 rfl rfl rfl rfl rfl ?_; clear Z; intro W Z
      (try simp only [Act.put, List.setIfInBounds_toArray, List.set_cons_zero, List.set_cons_succ])
      refine seq_is (v := .int .i64 (0)) rfl (run_assign rfl rfl) ?_
      (try simp only [Act.put, List.setIfInBounds_toArray, List.set_cons_zero, List.set_cons_succ])
      show Code.wp _ _ _ _ _
      refine wp_seq ?_
      refine wp_region_list ?_
      refine seq_is (v := .agg #[.bool (b1n), .slice a1n len1n cap1n, .bool (b1d), .slice a1d len1d cap1d]) rfl (run_load4 rfl rfl (Z.bx 3 rfl)) ?_
      (try simp only [Act.put, List.setIfInBounds_toArray, List.set_cons_zero, List.set_cons_succ])
      refine seq_is (v := .agg #[.bool (b2n), .slice a2n len2n cap2n, .bool (b2d), .slice a2d len2d cap2d]) rfl (run_load4 rfl rfl (Z.bx 2 rfl)) ?_
      (try simp only [Act.put, List.setIfInBounds_toArray, List.set_cons_zero, List.set_cons_succ])
      refine seq_call Z rfl rfl Try.func23 rfl rfl (args2 rfl rfl) (Z.callQi (rat_Add.sem (N1n _ _ (Z.rd 6 rfl)) (N1d _ _ (Z.rd 7 rfl)) (N2n _ _ (Z.rd 8 rfl)) (N2d _ _ (Z.rd 9 rfl)) (Bd.mono F1n (by decide)) (Bd.mono F1d (by decide)) (Bd.mono F2n (by decide)) (Bd.mono F2d (by decide)) H.1.2 H.2)) ?_; clear Z; intro x11 W Z
      (try simp only [Act.put, List.setIfInBounds_toArray, List.set_cons_zero, List.set_cons_succ])
      refine seq_is (v := .tuple #[.agg #[.bool (decide (qn (((x1n) * (x2d)) + ((x2n) * (x1d))) ((x1d) * (x2d)) < 0)), x11.1.v, .bool (decide (qd (((x1n) * (x2d)) + ((x2n) * (x1d))) ((x1d) * (x2d)) < 0)), x11.2.v], .int .i64 (0)]) rfl (run_move rfl rfl) ?_
      (try simp only [Act.put, List.setIfInBounds_toArray, List.set_cons_zero, List.set_cons_succ])
      refine seq_is (v := .agg #[.bool (decide (qn (((x1n) * (x2d)) + ((x2n) * (x1d))) ((x1d) * (x2d)) < 0)), x11.1.v, .bool (decide (qd (((x1n) * (x2d)) + ((x2n) * (x1d))) ((x1d) * (x2d)) < 0)), x11.2.v]) rfl (run_extract rfl rfl rfl) ?_
      (try simp only [Act.put, List.setIfInBounds_toArray, List.set_cons_zero, List.set_cons_succ])
      refine seq_is (v := .int .i64 (0)) rfl (run_extract rfl rfl rfl) ?_
      (try simp only [Act.put, List.setIfInBounds_toArray, List.set_cons_zero, List.set_cons_succ])
      refine seq_alloc4 Z rfl rfl ?_; clear Z; intro g12 W Z
      (try simp only [Act.put, List.setIfInBounds_toArray, List.set_cons_zero, List.set_cons_succ])
      refine seq_store4 Z 0 rfl rfl rfl rfl rfl ?_; clear Z; intro W Z
      (try simp only [Act.put, List.setIfInBounds_toArray, List.set_cons_zero, List.set_cons_succ])
      refine seq_is (v := .int .i64 (0)) rfl (run_assign rfl rfl) ?_
      (try simp only [Act.put, List.setIfInBounds_toArray, List.set_cons_zero, List.set_cons_succ])
      show Code.wp _ _ _ _ _
      refine wp_seq ?_
      refine wp_region_list ?_
      refine seq_is (v := .agg #[.bool (decide (qn (((x0n) * (x1d)) + ((x1n) * (x0d))) ((x0d) * (x1d)) < 0)), x7.1.v, .bool (decide (qd (((x0n) * (x1d)) + ((x1n) * (x0d))) ((x0d) * (x1d)) < 0)), x7.2.v]) rfl (run_load4 rfl rfl (Z.bx 2 rfl)) ?_
      (try simp only [Act.put, List.setIfInBounds_toArray, List.set_cons_zero, List.set_cons_succ])
      refine seq_is (v := .agg #[.bool (b2n), .slice a2n len2n cap2n, .bool (b2d), .slice a2d len2d cap2d]) rfl (run_load4 rfl rfl (Z.bx 3 rfl)) ?_
      (try simp only [Act.put, List.setIfInBounds_toArray, List.set_cons_zero, List.set_cons_succ])
      refine seq_call Z rfl rfl Try.func23 rfl rfl (args2 rfl rfl) (Z.callQi (rat_Add.sem (Z.own 4 rfl (Bd.fm (Bd.abs (Bd.qn (Bd.add (Bd.mul F0n F1d) (Bd.mul F1n F0d)))) (by decide))) (Z.own 5 rfl (Bd.fm (Bd.abs (Bd.qd (Bd.mul F0d F1d))) (by decide))) (N2n _ _ (Z.rd 10 rfl)) (N2d _ _ (Z.rd 11 rfl)) (Bd.mono (Bd.qn (Bd.add (Bd.mul F0n F1d) (Bd.mul F1n F0d))) (by decide)) (Bd.mono (Bd.qd (Bd.mul F0d F1d)) (by decide)) (Bd.mono F2n (by decide)) (Bd.mono F2d (by decide)) (qd_pos (pos_ne (Int.mul_pos H.1.1 H.1.2))) H.2)) ?_; clear Z; intro x13 W Z
      (try simp only [Act.put, List.setIfInBounds_toArray, List.set_cons_zero, List.set_cons_succ])
      refine seq_is (v := .tuple #[.agg #[.bool (decide (qn (((qn (((x0n) * (x1d)) + ((x1n) * (x0d))) ((x0d) * (x1d))) * (x2d)) + ((x2n) * (qd (((x0n) * (x1d)) + ((x1n) * (x0d))) ((x0d) * (x1d))))) ((qd (((x0n) * (x1d)) + ((x1n) * (x0d))) ((x0d) * (x1d))) * (x2d)) < 0)), x13.1.v, .bool (decide (qd (((qn (((x0n) * (x1d)) + ((x1n) * (x0d))) ((x0d) * (x1d))) * (x2d)) + ((x2n) * (qd (((x0n) * (x1d)) + ((x1n) * (x0d))) ((x0d) * (x1d))))) ((qd (((x0n) * (x1d)) + ((x1n) * (x0d))) ((x0d) * (x1d))) * (x2d)) < 0)), x13.2.v], .int .i64 (0)]) rfl (run_move rfl rfl) ?_
      (try simp only [Act.put, List.setIfInBounds_toArray, List.set_cons_zero, List.set_cons_succ])
      refine seq_is (v := .agg #[.bool (decide (qn (((qn (((x0n) * (x1d)) + ((x1n) * (x0d))) ((x0d) * (x1d))) * (x2d)) + ((x2n) * (qd (((x0n) * (x1d)) + ((x1n) * (x0d))) ((x0d) * (x1d))))) ((qd (((x0n) * (x1d)) + ((x1n) * (x0d))) ((x0d) * (x1d))) * (x2d)) < 0)), x13.1.v, .bool (decide (qd (((qn (((x0n) * (x1d)) + ((x1n) * (x0d))) ((x0d) * (x1d))) * (x2d)) + ((x2n) * (qd (((x0n) * (x1d)) + ((x1n) * (x0d))) ((x0d) * (x1d))))) ((qd (((x0n) * (x1d)) + ((x1n) * (x0d))) ((x0d) * (x1d))) * (x2d)) < 0)), x13.2.v]) rfl (run_extract rfl rfl rfl) ?_
      (try simp only [Act.put, List.setIfInBounds_toArray, List.set_cons_zero, List.set_cons_succ])
      refine seq_is (v := .int .i64 (0)) rfl (run_extract rfl rfl rfl) ?_
      (try simp only [Act.put, List.setIfInBounds_toArray, List.set_cons_zero, List.set_cons_succ])
      refine seq_alloc4 Z rfl rfl ?_; clear Z; intro g14 W Z
      (try simp only [Act.put, List.setIfInBounds_toArray, List.set_cons_zero, List.set_cons_succ])
      refine seq_store4 Z 0 rfl rfl rfl rfl rfl ?_; clear Z; intro W Z
      (try simp only [Act.put, List.setIfInBounds_toArray, List.set_cons_zero, List.set_cons_succ])
      refine seq_is (v := .int .i64 (0)) rfl (run_assign rfl rfl) ?_
      (try simp only [Act.put, List.setIfInBounds_toArray, List.set_cons_zero, List.set_cons_succ])
      show Code.wp _ _ _ _ _
      refine wp_seq ?_
      refine wp_region_list ?_
      refine seq_is (v := .agg #[.bool (b0n), .slice a0n len0n cap0n, .bool (b0d), .slice a0d len0d cap0d]) rfl (run_load4 rfl rfl (Z.bx 6 rfl)) ?_
      (try simp only [Act.put, List.setIfInBounds_toArray, List.set_cons_zero, List.set_cons_succ])
      refine seq_is (v := .agg #[.bool (decide (qn (((x1n) * (x2d)) + ((x2n) * (x1d))) ((x1d) * (x2d)) < 0)), x11.1.v, .bool (decide (qd (((x1n) * (x2d)) + ((x2n) * (x1d))) ((x1d) * (x2d)) < 0)), x11.2.v]) rfl (run_load4 rfl rfl (Z.bx 1 rfl)) ?_
      (try simp only [Act.put, List.setIfInBounds_toArray, List.set_cons_zero, List.set_cons_succ])
      refine seq_call Z rfl rfl Try.func23 rfl rfl (args2 rfl rfl) (Z.callQi (rat_Add.sem (N0n _ _ (Z.rd 8 rfl)) (N0d _ _ (Z.rd 9 rfl)) (Z.own 2 rfl (Bd.fm (Bd.abs (Bd.qn (Bd.add (Bd.mul F1n F2d) (Bd.mul F2n F1d)))) (by decide))) (Z.own 3 rfl (Bd.fm (Bd.abs (Bd.qd (Bd.mul F1d F2d))) (by decide))) (Bd.mono F0n (by decide)) (Bd.mono F0d (by decide)) (Bd.mono (Bd.qn (Bd.add (Bd.mul F1n F2d) (Bd.mul F2n F1d))) (by decide)) (Bd.mono (Bd.qd (Bd.mul F1d F2d)) (by decide)) H.1.1 (qd_pos (pos_ne (Int.mul_pos H.1.2 H.2))))) ?_; clear Z; intro x15 W Z
      (try simp only [Act.put, List.setIfInBounds_toArray, List.set_cons_zero, List.set_cons_succ])
      refine seq_is (v := .tuple #[.agg #[.bool (decide (qn (((x0n) * (qd (((x1n) * (x2d)) + ((x2n) * (x1d))) ((x1d) * (x2d)))) + ((qn (((x1n) * (x2d)) + ((x2n) * (x1d))) ((x1d) * (x2d))) * (x0d))) ((x0d) * (qd (((x1n) * (x2d)) + ((x2n) * (x1d))) ((x1d) * (x2d)))) < 0)), x15.1.v, .bool (decide (qd (((x0n) * (qd (((x1n) * (x2d)) + ((x2n) * (x1d))) ((x1d) * (x2d)))) + ((qn (((x1n) * (x2d)) + ((x2n) * (x1d))) ((x1d) * (x2d))) * (x0d))) ((x0d) * (qd (((x1n) * (x2d)) + ((x2n) * (x1d))) ((x1d) * (x2d)))) < 0)), x15.2.v], .int .i64 (0)]) rfl (run_move rfl rfl) ?_
      (try simp only [Act.put, List.setIfInBounds_toArray, List.set_cons_zero, List.set_cons_succ])
      refine seq_is (v := .agg #[.bool (decide (qn (((x0n) * (qd (((x1n) * (x2d)) + ((x2n) * (x1d))) ((x1d) * (x2d)))) + ((qn (((x1n) * (x2d)) + ((x2n) * (x1d))) ((x1d) * (x2d))) * (x0d))) ((x0d) * (qd (((x1n) * (x2d)) + ((x2n) * (x1d))) ((x1d) * (x2d)))) < 0)), x15.1.v, .bool (decide (qd (((x0n) * (qd (((x1n) * (x2d)) + ((x2n) * (x1d))) ((x1d) * (x2d)))) + ((qn (((x1n) * (x2d)) + ((x2n) * (x1d))) ((x1d) * (x2d))) * (x0d))) ((x0d) * (qd (((x1n) * (x2d)) + ((x2n) * (x1d))) ((x1d) * (x2d)))) < 0)), x15.2.v]) rfl (run_extract rfl rfl rfl) ?_
      (try simp only [Act.put, List.setIfInBounds_toArray, List.set_cons_zero, List.set_cons_succ])
      refine seq_is (v := .int .i64 (0)) rfl (run_extract rfl rfl rfl) ?_
      (try simp only [Act.put, List.setIfInBounds_toArray, List.set_cons_zero, List.set_cons_succ])
      refine seq_alloc4 Z rfl rfl ?_; clear Z; intro g16 W Z
      (try simp only [Act.put, List.setIfInBounds_toArray, List.set_cons_zero, List.set_cons_succ])
      refine seq_store4 Z 0 rfl rfl rfl rfl rfl ?_; clear Z; intro W Z
      (try simp only [Act.put, List.setIfInBounds_toArray, List.set_cons_zero, List.set_cons_succ])
      refine seq_is (v := .int .i64 (0)) rfl (run_assign rfl rfl) ?_
      (try simp only [Act.put, List.setIfInBounds_toArray, List.set_cons_zero, List.set_cons_succ])
      show Code.wp _ _ _ _ _
      refine wp_seq ?_
      refine wp_region_list ?_
      refine seq_is (v := .agg #[.bool (b0n), .slice a0n len0n cap0n, .bool (b0d), .slice a0d len0d cap0d]) rfl (run_load4 rfl rfl (Z.bx 7 rfl)) ?_
      (try simp only [Act.put, List.setIfInBounds_toArray, List.set_cons_zero, List.set_cons_succ])
      refine seq_is (v := .agg #[.bool (decide (qn (((x1n) * (x2d)) + ((x2n) * (x1d))) ((x1d) * (x2d)) < 0)), x11.1.v, .bool (decide (qd (((x1n) * (x2d)) + ((x2n) * (x1d))) ((x1d) * (x2d)) < 0)), x11.2.v]) rfl (run_load4 rfl rfl (Z.bx 2 rfl)) ?_
      (try simp only [Act.put, List.setIfInBounds_toArray, List.set_cons_zero, List.set_cons_succ])
      refine seq_call Z rfl rfl Try.func27 rfl rfl (args2 rfl rfl) (Z.callQi (rat_Mul.sem (N0n _ _ (Z.rd 10 rfl)) (N0d _ _ (Z.rd 11 rfl)) (Z.own 4 rfl (Bd.fm (Bd.abs (Bd.qn (Bd.add (Bd.mul F1n F2d) (Bd.mul F2n F1d)))) (by decide))) (Z.own 5 rfl (Bd.fm (Bd.abs (Bd.qd (Bd.mul F1d F2d))) (by decide))) (Bd.mono F0n (by decide)) (Bd.mono F0d (by decide)) (Bd.mono (Bd.qn (Bd.add (Bd.mul F1n F2d) (Bd.mul F2n F1d))) (by decide)) (Bd.mono (Bd.qd (Bd.mul F1d F2d)) (by decide)) H.1.1 (qd_pos (pos_ne (Int.mul_pos H.1.2 H.2))))) ?_; clear Z; intro x17 W Z
      (try simp only [Act.put, List.setIfInBounds_toArray, List.set_cons_zero, List.set_cons_succ])
      refine seq_is (v := .tuple #[.agg #[.bool (decide (qn ((x0n) * (qn (((x1n) * (x2d)) + ((x2n) * (x1d))) ((x1d) * (x2d)))) ((x0d) * (qd (((x1n) * (x2d)) + ((x2n) * (x1d))) ((x1d) * (x2d)))) < 0)), x17.1.v, .bool (decide (qd ((x0n) * (qn (((x1n) * (x2d)) + ((x2n) * (x1d))) ((x1d) * (x2d)))) ((x0d) * (qd (((x1n) * (x2d)) + ((x2n) * (x1d))) ((x1d) * (x2d)))) < 0)), x17.2.v], .int .i64 (0)]) rfl (run_move rfl rfl) ?_
      (try simp only [Act.put, List.setIfInBounds_toArray, List.set_cons_zero, List.set_cons_succ])
      refine seq_is (v := .agg #[.bool (decide (qn ((x0n) * (qn (((x1n) * (x2d)) + ((x2n) * (x1d))) ((x1d) * (x2d)))) ((x0d) * (qd (((x1n) * (x2d)) + ((x2n) * (x1d))) ((x1d) * (x2d)))) < 0)), x17.1.v, .bool (decide (qd ((x0n) * (qn (((x1n) * (x2d)) + ((x2n) * (x1d))) ((x1d) * (x2d)))) ((x0d) * (qd (((x1n) * (x2d)) + ((x2n) * (x1d))) ((x1d) * (x2d)))) < 0)), x17.2.v]) rfl (run_extract rfl rfl rfl) ?_
      (try simp only [Act.put, List.setIfInBounds_toArray, List.set_cons_zero, List.set_cons_succ])
      refine seq_is (v := .int .i64 (0)) rfl (run_extract rfl rfl rfl) ?_
      (try simp only [Act.put, List.setIfInBounds_toArray, List.set_cons_zero, List.set_cons_succ])
      refine seq_alloc4 Z rfl rfl ?_; clear Z; intro g18 W Z
      (try simp only [Act.put, List.setIfInBounds_toArray, List.set_cons_zero, List.set_cons_succ])
      refine seq_store4 Z 0 rfl rfl rfl rfl rfl ?_; clear Z; intro W Z
      (try simp only [Act.put, List.setIfInBounds_toArray, List.set_cons_zero, List.set_cons_succ])
      refine seq_is (v := .int .i64 (0)) rfl (run_assign rfl rfl) ?_
      (try simp only [Act.put, List.setIfInBounds_toArray, List.set_cons_zero, List.set_cons_succ])
      show Code.wp _ _ _ _ _
      refine wp_seq ?_
      refine wp_region_list ?_
      refine seq_is (v := .agg #[.bool (b0n), .slice a0n len0n cap0n, .bool (b0d), .slice a0d len0d cap0d]) rfl (run_load4 rfl rfl (Z.bx 8 rfl)) ?_
      (try simp only [Act.put, List.setIfInBounds_toArray, List.set_cons_zero, List.set_cons_succ])
      refine seq_is (v := .agg #[.bool (b1n), .slice a1n len1n cap1n, .bool (b1d), .slice a1d len1d cap1d]) rfl (run_load4 rfl rfl (Z.bx 7 rfl)) ?_
      (try simp only [Act.put, List.setIfInBounds_toArray, List.set_cons_zero, List.set_cons_succ])
      refine seq_call Z rfl rfl Try.func27 rfl rfl (args2 rfl rfl) (Z.callQi (rat_Mul.sem (N0n _ _ (Z.rd 12 rfl)) (N0d _ _ (Z.rd 13 rfl)) (N1n _ _ (Z.rd 14 rfl)) (N1d _ _ (Z.rd 15 rfl)) (Bd.mono F0n (by decide)) (Bd.mono F0d (by decide)) (Bd.mono F1n (by decide)) (Bd.mono F1d (by decide)) H.1.1 H.1.2)) ?_; clear Z; intro x19 W Z
      (try simp only [Act.put, List.setIfInBounds_toArray, List.set_cons_zero, List.set_cons_succ])
      refine seq_is (v := .tuple #[.agg #[.bool (decide (qn ((x0n) * (x1n)) ((x0d) * (x1d)) < 0)), x19.1.v, .bool (decide (qd ((x0n) * (x1n)) ((x0d) * (x1d)) < 0)), x19.2.v], .int .i64 (0)]) rfl (run_move rfl rfl) ?_
      (try simp only [Act.put, List.setIfInBounds_toArray, List.set_cons_zero, List.set_cons_succ])
      refine seq_is (v := .agg #[.bool (decide (qn ((x0n) * (x1n)) ((x0d) * (x1d)) < 0)), x19.1.v, .bool (decide (qd ((x0n) * (x1n)) ((x0d) * (x1d)) < 0)), x19.2.v]) rfl (run_extract rfl rfl rfl) ?_
      (try simp only [Act.put, List.setIfInBounds_toArray, List.set_cons_zero, List.set_cons_succ])
      refine seq_is (v := .int .i64 (0)) rfl (run_extract rfl rfl rfl) ?_
      (try simp only [Act.put, List.setIfInBounds_toArray, List.set_cons_zero, List.set_cons_succ])
      refine seq_alloc4 Z rfl rfl ?_; clear Z; intro g20 W Z
      (try simp only [Act.put, List.setIfInBounds_toArray, List.set_cons_zero, List.set_cons_succ])
      refine seq_store4 Z 0 rfl rfl rfl rfl rfl ?_; clear Z; intro W Z
      (try simp only [Act.put, List.setIfInBounds_toArray, List.set_cons_zero, List.set_cons_succ])
      refine seq_is (v := .int .i64 (0)) rfl (run_assign rfl rfl) ?_
      (try simp only [Act.put, List.setIfInBounds_toArray, List.set_cons_zero, List.set_cons_succ])
      show Code.wp _ _ _ _ _
      refine wp_seq ?_
      refine wp_region_list ?_
      refine seq_is (v := .agg #[.bool (b0n), .slice a0n len0n cap0n, .bool (b0d), .slice a0d len0d cap0d]) rfl (run_load4 rfl rfl (Z.bx 9 rfl)) ?_
      (try simp only [Act.put, List.setIfInBounds_toArray, List.set_cons_zero, List.set_cons_succ])
      refine seq_is (v := .agg #[.bool (b2n), .slice a2n len2n cap2n, .bool (b2d), .slice a2d len2d cap2d]) rfl (run_load4 rfl rfl (Z.bx 7 rfl)) ?_
      (try simp only [Act.put, List.setIfInBounds_toArray, List.set_cons_zero, List.set_cons_succ])
      refine seq_call Z rfl rfl Try.func27 rfl rfl (args2 rfl rfl) (Z.callQi (rat_Mul.sem (N0n _ _ (Z.rd 14 rfl)) (N0d _ _ (Z.rd 15 rfl)) (N2n _ _ (Z.rd 18 rfl)) (N2d _ _ (Z.rd 19 rfl)) (Bd.mono F0n (by decide)) (Bd.mono F0d (by decide)) (Bd.mono F2n (by decide)) (Bd.mono F2d (by decide)) H.1.1 H.2)) ?_; clear Z; intro x21 W Z
      (try simp only [Act.put, List.setIfInBounds_toArray, List.set_cons_zero, List.set_cons_succ])
      refine seq_is (v := .tuple #[.agg #[.bool (decide (qn ((x0n) * (x2n)) ((x0d) * (x2d)) < 0)), x21.1.v, .bool (decide (qd ((x0n) * (x2n)) ((x0d) * (x2d)) < 0)), x21.2.v], .int .i64 (0)]) rfl (run_move rfl rfl) ?_
      (try simp only [Act.put, List.setIfInBounds_toArray, List.set_cons_zero, List.set_cons_succ])
      refine seq_is (v := .agg #[.bool (decide (qn ((x0n) * (x2n)) ((x0d) * (x2d)) < 0)), x21.1.v, .bool (decide (qd ((x0n) * (x2n)) ((x0d) * (x2d)) < 0)), x21.2.v]) rfl (run_extract rfl rfl rfl) ?_
      (try simp only [Act.put, List.setIfInBounds_toArray, List.set_cons_zero, List.set_cons_succ])
      refine seq_is (v := .int .i64 (0)) rfl (run_extract rfl rfl rfl) ?_
      (try simp only [Act.put, List.setIfInBounds_toArray, List.set_cons_zero, List.set_cons_succ])
      refine seq_alloc4 Z rfl rfl ?_; clear Z; intro g22 W Z
      (try simp only [Act.put, List.setIfInBounds_toArray, List.set_cons_zero, List.set_cons_succ])
      refine seq_store4 Z 0 rfl rfl rfl rfl rfl ?_; clear Z; intro W Z
      (try simp only [Act.put, List.setIfInBounds_toArray, List.set_cons_zero, List.set_cons_succ])
      refine seq_is (v := .int .i64 (0)) rfl (run_assign rfl rfl) ?_
      (try simp only [Act.put, List.setIfInBounds_toArray, List.set_cons_zero, List.set_cons_succ])
      show Code.wp _ _ _ _ _
      refine wp_seq ?_
      refine wp_region_list ?_
      refine seq_is (v := .agg #[.bool (decide (qn ((x0n) * (x1n)) ((x0d) * (x1d)) < 0)), x19.1.v, .bool (decide (qd ((x0n) * (x1n)) ((x0d) * (x1d)) < 0)), x19.2.v]) rfl (run_load4 rfl rfl (Z.bx 1 rfl)) ?_
      (try simp only [Act.put, List.setIfInBounds_toArray, List.set_cons_zero, List.set_cons_succ])
      refine seq_is (v := .agg #[.bool (decide (qn ((x0n) * (x2n)) ((x0d) * (x2d)) < 0)), x21.1.v, .bool (decide (qd ((x0n) * (x2n)) ((x0d) * (x2d)) < 0)), x21.2.v]) rfl (run_load4 rfl rfl (Z.bx 0 rfl)) ?_
      (try simp only [Act.put, List.setIfInBounds_toArray, List.set_cons_zero, List.set_cons_succ])
      refine seq_call Z rfl rfl Try.func23 rfl rfl (args2 rfl rfl) (Z.callQi (rat_Add.sem (Z.own 2 rfl (Bd.fm (Bd.abs (Bd.qn (Bd.mul F0n F1n))) (by decide))) (Z.own 3 rfl (Bd.fm (Bd.abs (Bd.qd (Bd.mul F0d F1d))) (by decide))) (Z.own 0 rfl (Bd.fm (Bd.abs (Bd.qn (Bd.mul F0n F2n))) (by decide))) (Z.own 1 rfl (Bd.fm (Bd.abs (Bd.qd (Bd.mul F0d F2d))) (by decide))) (Bd.mono (Bd.qn (Bd.mul F0n F1n)) (by decide)) (Bd.mono (Bd.qd (Bd.mul F0d F1d)) (by decide)) (Bd.mono (Bd.qn (Bd.mul F0n F2n)) (by decide)) (Bd.mono (Bd.qd (Bd.mul F0d F2d)) (by decide)) (qd_pos (pos_ne (Int.mul_pos H.1.1 H.1.2))) (qd_pos (pos_ne (Int.mul_pos H.1.1 H.2))))) ?_; clear Z; intro x23 W Z
      (try simp only [Act.put, List.setIfInBounds_toArray, List.set_cons_zero, List.set_cons_succ])
      refine seq_is (v := .tuple #[.agg #[.bool (decide (qn (((qn ((x0n) * (x1n)) ((x0d) * (x1d))) * (qd ((x0n) * (x2n)) ((x0d) * (x2d)))) + ((qn ((x0n) * (x2n)) ((x0d) * (x2d))) * (qd ((x0n) * (x1n)) ((x0d) * (x1d))))) ((qd ((x0n) * (x1n)) ((x0d) * (x1d))) * (qd ((x0n) * (x2n)) ((x0d) * (x2d)))) < 0)), x23.1.v, .bool (decide (qd (((qn ((x0n) * (x1n)) ((x0d) * (x1d))) * (qd ((x0n) * (x2n)) ((x0d) * (x2d)))) + ((qn ((x0n) * (x2n)) ((x0d) * (x2d))) * (qd ((x0n) * (x1n)) ((x0d) * (x1d))))) ((qd ((x0n) * (x1n)) ((x0d) * (x1d))) * (qd ((x0n) * (x2n)) ((x0d) * (x2d)))) < 0)), x23.2.v], .int .i64 (0)]) rfl (run_move rfl rfl) ?_
      (try simp only [Act.put, List.setIfInBounds_toArray, List.set_cons_zero, List.set_cons_succ])
      refine seq_is (v := .agg #[.bool (decide (qn (((qn ((x0n) * (x1n)) ((x0d) * (x1d))) * (qd ((x0n) * (x2n)) ((x0d) * (x2d)))) + ((qn ((x0n) * (x2n)) ((x0d) * (x2d))) * (qd ((x0n) * (x1n)) ((x0d) * (x1d))))) ((qd ((x0n) * (x1n)) ((x0d) * (x1d))) * (qd ((x0n) * (x2n)) ((x0d) * (x2d)))) < 0)), x23.1.v, .bool (decide (qd (((qn ((x0n) * (x1n)) ((x0d) * (x1d))) * (qd ((x0n) * (x2n)) ((x0d) * (x2d)))) + ((qn ((x0n) * (x2n)) ((x0d) * (x2d))) * (qd ((x0n) * (x1n)) ((x0d) * (x1d))))) ((qd ((x0n) * (x1n)) ((x0d) * (x1d))) * (qd ((x0n) * (x2n)) ((x0d) * (x2d)))) < 0)), x23.2.v]) rfl (run_extract rfl rfl rfl) ?_
      (try simp only [Act.put, List.setIfInBounds_toArray, List.set_cons_zero, List.set_cons_succ])
      refine seq_is (v := .int .i64 (0)) rfl (run_extract rfl rfl rfl) ?_
      (try simp only [Act.put, List.setIfInBounds_toArray, List.set_cons_zero, List.set_cons_succ])
      refine seq_alloc4 Z rfl rfl ?_; clear Z; intro g24 W Z
      (try simp only [Act.put, List.setIfInBounds_toArray, List.set_cons_zero, List.set_cons_succ])
      refine seq_store4 Z 0 rfl rfl rfl rfl rfl ?_; clear Z; intro W Z
      (try simp only [Act.put, List.setIfInBounds_toArray, List.set_cons_zero, List.set_cons_succ])
      refine seq_is (v := .int .i64 (0)) rfl (run_assign rfl rfl) ?_
      (try simp only [Act.put, List.setIfInBounds_toArray, List.set_cons_zero, List.set_cons_succ])
      show Code.wp _ _ _ _ _
      refine wp_seq ?_
      refine wp_seq ?_
      refine wp_region_list ?_
      refine seq_is (v := .int .i64 (0)) rfl (run_move rfl rfl) ?_
      (try simp only [Act.put, List.setIfInBounds_toArray, List.set_cons_zero, List.set_cons_succ])
      refine seq_is (v := .bool (decide ((0 : Int) ≠ (0)))) rfl (run_neqE rfl rfl rfl) ?_
      (try simp only [Act.put, List.setIfInBounds_toArray, List.set_cons_zero, List.set_cons_succ])
      refine seq_is (v := .bool (decide ((0 : Int) ≠ (0)))) rfl (run_move rfl rfl) ?_
      (try simp only [Act.put, List.setIfInBounds_toArray, List.set_cons_zero, List.set_cons_succ])
      refine list_want rfl rfl (congrArg some (congrArg Value.bool (Eq.refl false))) (wp_run (v := .agg #[.bool (decide (qn (((x0n) * (x1d)) + ((x1n) * (x0d))) ((x0d) * (x1d)) < 0)), x7.1.v, .bool (decide (qd (((x0n) * (x1d)) + ((x1n) * (x0d))) ((x0d) * (x1d)) < 0)), x7.2.v]) (run_load4 rfl rfl (Z.bx 8 rfl)) ?_)
      (try simp only [Act.put, List.setIfInBounds_toArray, List.set_cons_zero, List.set_cons_succ])
      refine list_want rfl rfl (congrArg some (congrArg Value.bool (Eq.refl false))) (wp_run (v := .agg #[.bool (decide (qn (((x1n) * (x0d)) + ((x0n) * (x1d))) ((x1d) * (x0d)) < 0)), x9.1.v, .bool (decide (qd (((x1n) * (x0d)) + ((x0n) * (x1d))) ((x1d) * (x0d)) < 0)), x9.2.v]) (run_load4 rfl rfl (Z.bx 7 rfl)) ?_)
      (try simp only [Act.put, List.setIfInBounds_toArray, List.set_cons_zero, List.set_cons_succ])
      refine seq_callw Z (fun h => list_want rfl rfl (congrArg some (congrArg Value.bool (Eq.refl false))) h) rfl Try.func15 rfl rfl (args2 rfl rfl) (Z.callV (sameQ (z1 := qn (((x0n) * (x1d)) + ((x1n) * (x0d))) ((x0d) * (x1d))) (z2 := qn (((x1n) * (x0d)) + ((x0n) * (x1d))) ((x1d) * (x0d))) (y1 := qd (((x0n) * (x1d)) + ((x1n) * (x0d))) ((x0d) * (x1d))) (y2 := qd (((x1n) * (x0d)) + ((x0n) * (x1d))) ((x1d) * (x0d))) (Z.rdO 16 rfl) (Z.rdO 17 rfl) (Z.rdO 14 rfl) (Z.rdO 15 rfl) (Bd.fm (Bd.abs (Bd.qn (Bd.add (Bd.mul F0n F1d) (Bd.mul F1n F0d)))) (by decide)) (Bd.fm (Bd.abs (Bd.qd (Bd.mul F0d F1d))) (by decide)) (field_1 H.1.1 H.1.2).1 (field_1 H.1.1 H.1.2).2)) ?_; clear Z; intro x25 W Z
      (try simp only [Act.put, List.setIfInBounds_toArray, List.set_cons_zero, List.set_cons_succ])
      refine list_want rfl rfl (congrArg some (congrArg Value.bool (Eq.refl false))) (wp_run (v := .bool (!(true))) (run_not rfl rfl) ?_)
      (try simp only [Act.put, List.setIfInBounds_toArray, List.set_cons_zero, List.set_cons_succ])
      refine seq_is (v := .bool (!(true))) rfl (run_pickF rfl rfl rfl) ?_
      (try simp only [Act.put, List.setIfInBounds_toArray, List.set_cons_zero, List.set_cons_succ])
      refine seq_is (v := .bool (!(true))) rfl (run_move rfl rfl) ?_
      (try simp only [Act.put, List.setIfInBounds_toArray, List.set_cons_zero, List.set_cons_succ])
      refine list_want rfl rfl (congrArg some (congrArg Value.bool (Eq.refl false))) (wp_run (v := .agg #[.bool (decide (qn (((qn (((x0n) * (x1d)) + ((x1n) * (x0d))) ((x0d) * (x1d))) * (x2d)) + ((x2n) * (qd (((x0n) * (x1d)) + ((x1n) * (x0d))) ((x0d) * (x1d))))) ((qd (((x0n) * (x1d)) + ((x1n) * (x0d))) ((x0d) * (x1d))) * (x2d)) < 0)), x13.1.v, .bool (decide (qd (((qn (((x0n) * (x1d)) + ((x1n) * (x0d))) ((x0d) * (x1d))) * (x2d)) + ((x2n) * (qd (((x0n) * (x1d)) + ((x1n) * (x0d))) ((x0d) * (x1d))))) ((qd (((x0n) * (x1d)) + ((x1n) * (x0d))) ((x0d) * (x1d))) * (x2d)) < 0)), x13.2.v]) (run_load4 rfl rfl (Z.bx 5 rfl)) ?_)
      (try simp only [Act.put, List.setIfInBounds_toArray, List.set_cons_zero, List.set_cons_succ])
      refine list_want rfl rfl (congrArg some (congrArg Value.bool (Eq.refl false))) (wp_run (v := .agg #[.bool (decide (qn (((x0n) * (qd (((x1n) * (x2d)) + ((x2n) * (x1d))) ((x1d) * (x2d)))) + ((qn (((x1n) * (x2d)) + ((x2n) * (x1d))) ((x1d) * (x2d))) * (x0d))) ((x0d) * (qd (((x1n) * (x2d)) + ((x2n) * (x1d))) ((x1d) * (x2d)))) < 0)), x15.1.v, .bool (decide (qd (((x0n) * (qd (((x1n) * (x2d)) + ((x2n) * (x1d))) ((x1d) * (x2d)))) + ((qn (((x1n) * (x2d)) + ((x2n) * (x1d))) ((x1d) * (x2d))) * (x0d))) ((x0d) * (qd (((x1n) * (x2d)) + ((x2n) * (x1d))) ((x1d) * (x2d)))) < 0)), x15.2.v]) (run_load4 rfl rfl (Z.bx 4 rfl)) ?_)
      (try simp only [Act.put, List.setIfInBounds_toArray, List.set_cons_zero, List.set_cons_succ])
      refine seq_callw Z (fun h => list_want rfl rfl (congrArg some (congrArg Value.bool (Eq.refl false))) h) rfl Try.func15 rfl rfl (args2 rfl rfl) (Z.callV (sameQ (z1 := qn (((qn (((x0n) * (x1d)) + ((x1n) * (x0d))) ((x0d) * (x1d))) * (x2d)) + ((x2n) * (qd (((x0n) * (x1d)) + ((x1n) * (x0d))) ((x0d) * (x1d))))) ((qd (((x0n) * (x1d)) + ((x1n) * (x0d))) ((x0d) * (x1d))) * (x2d))) (z2 := qn (((x0n) * (qd (((x1n) * (x2d)) + ((x2n) * (x1d))) ((x1d) * (x2d)))) + ((qn (((x1n) * (x2d)) + ((x2n) * (x1d))) ((x1d) * (x2d))) * (x0d))) ((x0d) * (qd (((x1n) * (x2d)) + ((x2n) * (x1d))) ((x1d) * (x2d))))) (y1 := qd (((qn (((x0n) * (x1d)) + ((x1n) * (x0d))) ((x0d) * (x1d))) * (x2d)) + ((x2n) * (qd (((x0n) * (x1d)) + ((x1n) * (x0d))) ((x0d) * (x1d))))) ((qd (((x0n) * (x1d)) + ((x1n) * (x0d))) ((x0d) * (x1d))) * (x2d))) (y2 := qd (((x0n) * (qd (((x1n) * (x2d)) + ((x2n) * (x1d))) ((x1d) * (x2d)))) + ((qn (((x1n) * (x2d)) + ((x2n) * (x1d))) ((x1d) * (x2d))) * (x0d))) ((x0d) * (qd (((x1n) * (x2d)) + ((x2n) * (x1d))) ((x1d) * (x2d))))) (Z.rdO 10 rfl) (Z.rdO 11 rfl) (Z.rdO 8 rfl) (Z.rdO 9 rfl) (Bd.fm (Bd.abs (Bd.qn (Bd.add (Bd.mul (Bd.qn (Bd.add (Bd.mul F0n F1d) (Bd.mul F1n F0d))) F2d) (Bd.mul F2n (Bd.qd (Bd.mul F0d F1d)))))) (by decide)) (Bd.fm (Bd.abs (Bd.qd (Bd.mul (Bd.qd (Bd.mul F0d F1d)) F2d))) (by decide)) (field_2 H.1.1 H.1.2 H.2).1 (field_2 H.1.1 H.1.2 H.2).2)) ?_; clear Z; intro x26 W Z
      (try simp only [Act.put, List.setIfInBounds_toArray, List.set_cons_zero, List.set_cons_succ])
      refine list_want rfl rfl (congrArg some (congrArg Value.bool (Eq.refl false))) (wp_run (v := .bool (!(true))) (run_not rfl rfl) ?_)
      (try simp only [Act.put, List.setIfInBounds_toArray, List.set_cons_zero, List.set_cons_succ])
      refine seq_is (v := .bool (!(true))) rfl (run_pickF rfl rfl rfl) ?_
      (try simp only [Act.put, List.setIfInBounds_toArray, List.set_cons_zero, List.set_cons_succ])
      refine seq_is (v := .bool (!(true))) rfl (run_move rfl rfl) ?_
      (try simp only [Act.put, List.setIfInBounds_toArray, List.set_cons_zero, List.set_cons_succ])
      refine list_want rfl rfl (congrArg some (congrArg Value.bool (Eq.refl false))) (wp_run (v := .agg #[.bool (decide (qn ((x0n) * (qn (((x1n) * (x2d)) + ((x2n) * (x1d))) ((x1d) * (x2d)))) ((x0d) * (qd (((x1n) * (x2d)) + ((x2n) * (x1d))) ((x1d) * (x2d)))) < 0)), x17.1.v, .bool (decide (qd ((x0n) * (qn (((x1n) * (x2d)) + ((x2n) * (x1d))) ((x1d) * (x2d)))) ((x0d) * (qd (((x1n) * (x2d)) + ((x2n) * (x1d))) ((x1d) * (x2d)))) < 0)), x17.2.v]) (run_load4 rfl rfl (Z.bx 3 rfl)) ?_)
      (try simp only [Act.put, List.setIfInBounds_toArray, List.set_cons_zero, List.set_cons_succ])
      refine list_want rfl rfl (congrArg some (congrArg Value.bool (Eq.refl false))) (wp_run (v := .agg #[.bool (decide (qn (((qn ((x0n) * (x1n)) ((x0d) * (x1d))) * (qd ((x0n) * (x2n)) ((x0d) * (x2d)))) + ((qn ((x0n) * (x2n)) ((x0d) * (x2d))) * (qd ((x0n) * (x1n)) ((x0d) * (x1d))))) ((qd ((x0n) * (x1n)) ((x0d) * (x1d))) * (qd ((x0n) * (x2n)) ((x0d) * (x2d)))) < 0)), x23.1.v, .bool (decide (qd (((qn ((x0n) * (x1n)) ((x0d) * (x1d))) * (qd ((x0n) * (x2n)) ((x0d) * (x2d)))) + ((qn ((x0n) * (x2n)) ((x0d) * (x2d))) * (qd ((x0n) * (x1n)) ((x0d) * (x1d))))) ((qd ((x0n) * (x1n)) ((x0d) * (x1d))) * (qd ((x0n) * (x2n)) ((x0d) * (x2d)))) < 0)), x23.2.v]) (run_load4 rfl rfl (Z.bx 0 rfl)) ?_)
      (try simp only [Act.put, List.setIfInBounds_toArray, List.set_cons_zero, List.set_cons_succ])
      refine seq_callw Z (fun h => list_want rfl rfl (congrArg some (congrArg Value.bool (Eq.refl false))) h) rfl Try.func15 rfl rfl (args2 rfl rfl) (Z.callV (sameQ (z1 := qn ((x0n) * (qn (((x1n) * (x2d)) + ((x2n) * (x1d))) ((x1d) * (x2d)))) ((x0d) * (qd (((x1n) * (x2d)) + ((x2n) * (x1d))) ((x1d) * (x2d))))) (z2 := qn (((qn ((x0n) * (x1n)) ((x0d) * (x1d))) * (qd ((x0n) * (x2n)) ((x0d) * (x2d)))) + ((qn ((x0n) * (x2n)) ((x0d) * (x2d))) * (qd ((x0n) * (x1n)) ((x0d) * (x1d))))) ((qd ((x0n) * (x1n)) ((x0d) * (x1d))) * (qd ((x0n) * (x2n)) ((x0d) * (x2d))))) (y1 := qd ((x0n) * (qn (((x1n) * (x2d)) + ((x2n) * (x1d))) ((x1d) * (x2d)))) ((x0d) * (qd (((x1n) * (x2d)) + ((x2n) * (x1d))) ((x1d) * (x2d))))) (y2 := qd (((qn ((x0n) * (x1n)) ((x0d) * (x1d))) * (qd ((x0n) * (x2n)) ((x0d) * (x2d)))) + ((qn ((x0n) * (x2n)) ((x0d) * (x2d))) * (qd ((x0n) * (x1n)) ((x0d) * (x1d))))) ((qd ((x0n) * (x1n)) ((x0d) * (x1d))) * (qd ((x0n) * (x2n)) ((x0d) * (x2d))))) (Z.rdO 6 rfl) (Z.rdO 7 rfl) (Z.rdO 0 rfl) (Z.rdO 1 rfl) (Bd.fm (Bd.abs (Bd.qn (Bd.mul F0n (Bd.qn (Bd.add (Bd.mul F1n F2d) (Bd.mul F2n F1d)))))) (by decide)) (Bd.fm (Bd.abs (Bd.qd (Bd.mul F0d (Bd.qd (Bd.mul F1d F2d))))) (by decide)) (field_3 H.1.1 H.1.2 H.2).1 (field_3 H.1.1 H.1.2 H.2).2)) ?_; clear Z; intro x27 W Z
      (try simp only [Act.put, List.setIfInBounds_toArray, List.set_cons_zero, List.set_cons_succ])
      refine list_want rfl rfl (congrArg some (congrArg Value.bool (Eq.refl false))) (wp_run (v := .bool (!(true))) (run_not rfl rfl) ?_)
      (try simp only [Act.put, List.setIfInBounds_toArray, List.set_cons_zero, List.set_cons_succ])
      refine seq_is (v := .bool (!(true))) rfl (run_pickF rfl rfl rfl) ?_
      (try simp only [Act.put, List.setIfInBounds_toArray, List.set_cons_zero, List.set_cons_succ])
      show Code.wp _ _ _ _ _
      refine wp_cond_false rfl ?_
      refine wp_skip ?_
      show Code.wp _ _ _ _ _
      refine wp_seq ?_
      refine wp_region_list ?_
      refine seq_is (v := .agg #[.bool (decide (qn (((x0n) * (x1d)) + ((x1n) * (x0d))) ((x0d) * (x1d)) < 0)), x7.1.v, .bool (decide (qd (((x0n) * (x1d)) + ((x1n) * (x0d))) ((x0d) * (x1d)) < 0)), x7.2.v]) rfl (run_load4 rfl rfl (Z.bx 8 rfl)) ?_
      (try simp only [Act.put, List.setIfInBounds_toArray, List.set_cons_zero, List.set_cons_succ])
      refine seq_is (v := .agg #[.bool (b1n), .slice a1n len1n cap1n, .bool (b1d), .slice a1d len1d cap1d]) rfl (run_load4 rfl rfl (Z.bx 10 rfl)) ?_
      (try simp only [Act.put, List.setIfInBounds_toArray, List.set_cons_zero, List.set_cons_succ])
      refine seq_call Z rfl rfl Try.func24 rfl rfl (args2 rfl rfl) (Z.callQi (rat_Sub.sem (Z.own 16 rfl (Bd.fm (Bd.abs (Bd.qn (Bd.add (Bd.mul F0n F1d) (Bd.mul F1n F0d)))) (by decide))) (Z.own 17 rfl (Bd.fm (Bd.abs (Bd.qd (Bd.mul F0d F1d))) (by decide))) (N1n _ _ (Z.rd 20 rfl)) (N1d _ _ (Z.rd 21 rfl)) (Bd.mono (Bd.qn (Bd.add (Bd.mul F0n F1d) (Bd.mul F1n F0d))) (by decide)) (Bd.mono (Bd.qd (Bd.mul F0d F1d)) (by decide)) (Bd.mono F1n (by decide)) (Bd.mono F1d (by decide)) (qd_pos (pos_ne (Int.mul_pos H.1.1 H.1.2))) H.1.2)) ?_; clear Z; intro x28 W Z
      (try simp only [Act.put, List.setIfInBounds_toArray, List.set_cons_zero, List.set_cons_succ])
      refine seq_is (v := .tuple #[.agg #[.bool (decide (qn (((qn (((x0n) * (x1d)) + ((x1n) * (x0d))) ((x0d) * (x1d))) * (x1d)) - ((x1n) * (qd (((x0n) * (x1d)) + ((x1n) * (x0d))) ((x0d) * (x1d))))) ((qd (((x0n) * (x1d)) + ((x1n) * (x0d))) ((x0d) * (x1d))) * (x1d)) < 0)), x28.1.v, .bool (decide (qd (((qn (((x0n) * (x1d)) + ((x1n) * (x0d))) ((x0d) * (x1d))) * (x1d)) - ((x1n) * (qd (((x0n) * (x1d)) + ((x1n) * (x0d))) ((x0d) * (x1d))))) ((qd (((x0n) * (x1d)) + ((x1n) * (x0d))) ((x0d) * (x1d))) * (x1d)) < 0)), x28.2.v], .int .i64 (0)]) rfl (run_move rfl rfl) ?_
      (try simp only [Act.put, List.setIfInBounds_toArray, List.set_cons_zero, List.set_cons_succ])
      refine seq_is (v := .agg #[.bool (decide (qn (((qn (((x0n) * (x1d)) + ((x1n) * (x0d))) ((x0d) * (x1d))) * (x1d)) - ((x1n) * (qd (((x0n) * (x1d)) + ((x1n) * (x0d))) ((x0d) * (x1d))))) ((qd (((x0n) * (x1d)) + ((x1n) * (x0d))) ((x0d) * (x1d))) * (x1d)) < 0)), x28.1.v, .bool (decide (qd (((qn (((x0n) * (x1d)) + ((x1n) * (x0d))) ((x0d) * (x1d))) * (x1d)) - ((x1n) * (qd (((x0n) * (x1d)) + ((x1n) * (x0d))) ((x0d) * (x1d))))) ((qd (((x0n) * (x1d)) + ((x1n) * (x0d))) ((x0d) * (x1d))) * (x1d)) < 0)), x28.2.v]) rfl (run_extract rfl rfl rfl) ?_
      (try simp only [Act.put, List.setIfInBounds_toArray, List.set_cons_zero, List.set_cons_succ])
      refine seq_is (v := .int .i64 (0)) rfl (run_extract rfl rfl rfl) ?_
      (try simp only [Act.put, List.setIfInBounds_toArray, List.set_cons_zero, List.set_cons_succ])
      refine seq_alloc4 Z rfl rfl ?_; clear Z; intro g29 W Z
      (try simp only [Act.put, List.setIfInBounds_toArray, List.set_cons_zero, List.set_cons_succ])
      refine seq_store4 Z 0 rfl rfl rfl rfl rfl ?_; clear Z; intro W Z
      (try simp only [Act.put, List.setIfInBounds_toArray, List.set_cons_zero, List.set_cons_succ])
      refine seq_is (v := .int .i64 (0)) rfl (run_assign rfl rfl) ?_
      (try simp only [Act.put, List.setIfInBounds_toArray, List.set_cons_zero, List.set_cons_succ])
      show Code.wp _ _ _ _ _
      refine wp_seq ?_
      refine wp_region_list ?_
      refine seq_is (v := .pointer (some ⟨g1, 0, none⟩)) rfl (run_fieldR0 rfl rfl) ?_
      (try simp only [Act.put, List.setIfInBounds_toArray, List.set_cons_zero, List.set_cons_succ])
      refine seq_is (v := .agg #[.bool (b0n), .slice a0n len0n cap0n]) rfl (run_loadNum rfl rfl (Z.bx 12 rfl)) ?_
      (try simp only [Act.put, List.setIfInBounds_toArray, List.set_cons_zero, List.set_cons_succ])
      refine seq_is (v := .pointer (some ⟨g1, 2, none⟩)) rfl (run_fieldR1 rfl rfl) ?_
      (try simp only [Act.put, List.setIfInBounds_toArray, List.set_cons_zero, List.set_cons_succ])
      refine seq_is (v := .agg #[.bool (b0d), .slice a0d len0d cap0d]) rfl (run_loadDen rfl rfl (Z.bx 12 rfl)) ?_
      (try simp only [Act.put, List.setIfInBounds_toArray, List.set_cons_zero, List.set_cons_succ])
      refine seq_call Z rfl rfl Try.func13 rfl rfl (args2 rfl rfl) (Z.callQi (rat_Make.semq (N0n _ _ (Z.rd 20 rfl)) (N0d _ _ (Z.rd 21 rfl)) (Bd.mono F0n (by decide)) (Bd.mono F0d (by decide)) (pos_ne H.1.1))) ?_; clear Z; intro x30 W Z
      (try simp only [Act.put, List.setIfInBounds_toArray, List.set_cons_zero, List.set_cons_succ])
      refine seq_is (v := .tuple #[.agg #[.bool (decide (qn (x0n) (x0d) < 0)), x30.1.v, .bool (decide (qd (x0n) (x0d) < 0)), x30.2.v], .int .i64 (0)]) rfl (run_move rfl rfl) ?_
      (try simp only [Act.put, List.setIfInBounds_toArray, List.set_cons_zero, List.set_cons_succ])
      refine seq_is (v := .agg #[.bool (decide (qn (x0n) (x0d) < 0)), x30.1.v, .bool (decide (qd (x0n) (x0d) < 0)), x30.2.v]) rfl (run_extract rfl rfl rfl) ?_
      (try simp only [Act.put, List.setIfInBounds_toArray, List.set_cons_zero, List.set_cons_succ])
      refine seq_is (v := .int .i64 (0)) rfl (run_extract rfl rfl rfl) ?_
      (try simp only [Act.put, List.setIfInBounds_toArray, List.set_cons_zero, List.set_cons_succ])
      refine seq_alloc4 Z rfl rfl ?_; clear Z; intro g31 W Z
      (try simp only [Act.put, List.setIfInBounds_toArray, List.set_cons_zero, List.set_cons_succ])
      refine seq_store4 Z 0 rfl rfl rfl rfl rfl ?_; clear Z; intro W Z
      (try simp only [Act.put, List.setIfInBounds_toArray, List.set_cons_zero, List.set_cons_succ])
      refine seq_is (v := .int .i64 (0)) rfl (run_assign rfl rfl) ?_
      (try simp only [Act.put, List.setIfInBounds_toArray, List.set_cons_zero, List.set_cons_succ])
      show Code.wp _ _ _ _ _
      refine wp_seq ?_
      refine wp_seq ?_
      refine wp_region_list ?_
      refine seq_is (v := .int .i64 (0)) rfl (run_move rfl rfl) ?_
      (try simp only [Act.put, List.setIfInBounds_toArray, List.set_cons_zero, List.set_cons_succ])
      refine seq_is (v := .bool (decide ((0 : Int) ≠ (0)))) rfl (run_neqE rfl rfl rfl) ?_
      (try simp only [Act.put, List.setIfInBounds_toArray, List.set_cons_zero, List.set_cons_succ])
      refine seq_is (v := .bool (decide ((0 : Int) ≠ (0)))) rfl (run_move rfl rfl) ?_
      (try simp only [Act.put, List.setIfInBounds_toArray, List.set_cons_zero, List.set_cons_succ])
      refine list_want rfl rfl (congrArg some (congrArg Value.bool (Eq.refl false))) (wp_run (v := .agg #[.bool (decide (qn (((qn (((x0n) * (x1d)) + ((x1n) * (x0d))) ((x0d) * (x1d))) * (x1d)) - ((x1n) * (qd (((x0n) * (x1d)) + ((x1n) * (x0d))) ((x0d) * (x1d))))) ((qd (((x0n) * (x1d)) + ((x1n) * (x0d))) ((x0d) * (x1d))) * (x1d)) < 0)), x28.1.v, .bool (decide (qd (((qn (((x0n) * (x1d)) + ((x1n) * (x0d))) ((x0d) * (x1d))) * (x1d)) - ((x1n) * (qd (((x0n) * (x1d)) + ((x1n) * (x0d))) ((x0d) * (x1d))))) ((qd (((x0n) * (x1d)) + ((x1n) * (x0d))) ((x0d) * (x1d))) * (x1d)) < 0)), x28.2.v]) (run_load4 rfl rfl (Z.bx 1 rfl)) ?_)
      (try simp only [Act.put, List.setIfInBounds_toArray, List.set_cons_zero, List.set_cons_succ])
      refine list_want rfl rfl (congrArg some (congrArg Value.bool (Eq.refl false))) (wp_run (v := .agg #[.bool (decide (qn (x0n) (x0d) < 0)), x30.1.v, .bool (decide (qd (x0n) (x0d) < 0)), x30.2.v]) (run_load4 rfl rfl (Z.bx 0 rfl)) ?_)
      (try simp only [Act.put, List.setIfInBounds_toArray, List.set_cons_zero, List.set_cons_succ])
      refine seq_callw Z (fun h => list_want rfl rfl (congrArg some (congrArg Value.bool (Eq.refl false))) h) rfl Try.func15 rfl rfl (args2 rfl rfl) (Z.callV (sameQ (z1 := qn (((qn (((x0n) * (x1d)) + ((x1n) * (x0d))) ((x0d) * (x1d))) * (x1d)) - ((x1n) * (qd (((x0n) * (x1d)) + ((x1n) * (x0d))) ((x0d) * (x1d))))) ((qd (((x0n) * (x1d)) + ((x1n) * (x0d))) ((x0d) * (x1d))) * (x1d))) (z2 := qn (x0n) (x0d)) (y1 := qd (((qn (((x0n) * (x1d)) + ((x1n) * (x0d))) ((x0d) * (x1d))) * (x1d)) - ((x1n) * (qd (((x0n) * (x1d)) + ((x1n) * (x0d))) ((x0d) * (x1d))))) ((qd (((x0n) * (x1d)) + ((x1n) * (x0d))) ((x0d) * (x1d))) * (x1d))) (y2 := qd (x0n) (x0d)) (Z.rdO 2 rfl) (Z.rdO 3 rfl) (Z.rdO 0 rfl) (Z.rdO 1 rfl) (Bd.fm (Bd.abs (Bd.qn (Bd.sub (Bd.mul (Bd.qn (Bd.add (Bd.mul F0n F1d) (Bd.mul F1n F0d))) F1d) (Bd.mul F1n (Bd.qd (Bd.mul F0d F1d)))))) (by decide)) (Bd.fm (Bd.abs (Bd.qd (Bd.mul (Bd.qd (Bd.mul F0d F1d)) F1d))) (by decide)) (field_4 H.1.1 H.1.2).1 (field_4 H.1.1 H.1.2).2)) ?_; clear Z; intro x32 W Z
      (try simp only [Act.put, List.setIfInBounds_toArray, List.set_cons_zero, List.set_cons_succ])
      refine list_want rfl rfl (congrArg some (congrArg Value.bool (Eq.refl false))) (wp_run (v := .bool (!(true))) (run_not rfl rfl) ?_)
      (try simp only [Act.put, List.setIfInBounds_toArray, List.set_cons_zero, List.set_cons_succ])
      refine seq_is (v := .bool (!(true))) rfl (run_pickF rfl rfl rfl) ?_
      (try simp only [Act.put, List.setIfInBounds_toArray, List.set_cons_zero, List.set_cons_succ])
      show Code.wp _ _ _ _ _
      refine wp_cond_false rfl ?_
      refine wp_skip ?_
      show Code.wp _ _ _ _ _
      refine wp_seq ?_
      refine wp_seq ?_
      refine wp_region_list ?_
      refine seq_is (v := .pointer (some ⟨g2, 0, none⟩)) rfl (run_fieldR0 rfl rfl) ?_
      (try simp only [Act.put, List.setIfInBounds_toArray, List.set_cons_zero, List.set_cons_succ])
      refine seq_is (v := .agg #[.bool (b1n), .slice a1n len1n cap1n]) rfl (run_loadNum rfl rfl (Z.bx 12 rfl)) ?_
      (try simp only [Act.put, List.setIfInBounds_toArray, List.set_cons_zero, List.set_cons_succ])
      refine seq_call Z rfl rfl Try.func14 rfl rfl (args1 rfl) (Z.callV (trammelref02_Sign.sem (N1n _ _ (Z.rd 24 rfl)) (Bd.fm (Bd.abs F1n) (by decide)) )) ?_; clear Z; intro x33 W Z
      (try simp only [Act.put, List.setIfInBounds_toArray, List.set_cons_zero, List.set_cons_succ])
      refine seq_is (v := .bool (decide (((x1n).sign) = (0)))) rfl (run_eql rfl rfl rfl) ?_
      (try simp only [Act.put, List.setIfInBounds_toArray, List.set_cons_zero, List.set_cons_succ])
      show Code.wp _ _ _ _ _
      refine wp_cond_true ((show _ = Value.bool (decide (((x1n).sign) = (0))) from rfl).trans (congrArg Value.bool (sign0_t h3))) ?_
      refine wp_seq ?_
      refine wp_region_list ?_
      refine seq_is (v := .bool (true)) rfl (run_assign rfl rfl) ?_
      (try simp only [Act.put, List.setIfInBounds_toArray, List.set_cons_zero, List.set_cons_succ])
      show Code.wp _ _ _ _ _
      refine wp_ret ?_
      exact Z.endsV rfl rfl rfl rfl
    · go_enter Try.func10, Try.ntmps10
      refine wp_seq ?_
      refine wp_region_list ?_
      refine seq_box4 Z rfl rfl rfl ?_; clear Z; intro g1 W Z
      (try simp only [Act.put, List.setIfInBounds_toArray, List.set_cons_zero, List.set_cons_succ])
      refine seq_box4 Z rfl rfl rfl ?_; clear Z; intro g2 W Z
      (try simp only [Act.put, List.setIfInBounds_toArray, List.set_cons_zero, List.set_cons_succ])
      refine seq_box4 Z rfl rfl rfl ?_; clear Z; intro g3 W Z
      (try simp only [Act.put, List.setIfInBounds_toArray, List.set_cons_zero, List.set_cons_succ])
      refine seq_is (v := .bool (false)) rfl (run_assign rfl rfl) ?_
      (try simp only [Act.put, List.setIfInBounds_toArray, List.set_cons_zero, List.set_cons_succ])
      show Code.wp _ _ _ _ _
      refine wp_seq ?_
      refine wp_seq ?_
      refine wp_region_list ?_
      refine seq_call Z rfl rfl Try.func16 rfl rfl (show Array.map _ #[] = #[] by simp) (Z.callV (trammellaw03_awake.sem _)) ?_; clear Z; intro x4 W Z
      (try simp only [Act.put, List.setIfInBounds_toArray, List.set_cons_zero, List.set_cons_succ])
      refine seq_is (v := .bool (!(true))) rfl (run_not rfl rfl) ?_
      (try simp only [Act.put, List.setIfInBounds_toArray, List.set_cons_zero, List.set_cons_succ])
      show Code.wp _ _ _ _ _
      refine wp_cond_false rfl ?_
      refine wp_skip ?_
      show Code.wp _ _ _ _ _
      refine wp_seq ?_
      refine wp_seq ?_
      refine wp_region_list ?_
      refine seq_is (v := .agg #[.bool (b0n), .slice a0n len0n cap0n, .bool (b0d), .slice a0d len0d cap0d]) rfl (run_load4 rfl rfl (Z.bx 2 rfl)) ?_
      (try simp only [Act.put, List.setIfInBounds_toArray, List.set_cons_zero, List.set_cons_succ])
      refine seq_is (v := .agg #[.bool (b1n), .slice a1n len1n cap1n, .bool (b1d), .slice a1d len1d cap1d]) rfl (run_load4 rfl rfl (Z.bx 1 rfl)) ?_
      (try simp only [Act.put, List.setIfInBounds_toArray, List.set_cons_zero, List.set_cons_succ])
      refine seq_call Z rfl rfl Try.func21 rfl rfl (args2 rfl rfl) (Z.callV (trammellaw03_both.sem (N0n _ _ (Z.rd 0 rfl)) (N0d _ _ (Z.rd 1 rfl)) (N1n _ _ (Z.rd 2 rfl)) (N1d _ _ (Z.rd 3 rfl)) (Bd.mono F0d (by decide)) (Bd.mono F1d (by decide)))) ?_; clear Z; intro x5 W Z
      (try simp only [Act.put, List.setIfInBounds_toArray, List.set_cons_zero, List.set_cons_succ])
      refine seq_is (v := .bool (!(okB2 (x0d) (x1d)))) rfl (run_not rfl rfl) ?_
      (try simp only [Act.put, List.setIfInBounds_toArray, List.set_cons_zero, List.set_cons_succ])
      refine seq_is (v := .bool (!(okB2 (x0d) (x1d)))) rfl (run_move rfl rfl) ?_
      (try simp only [Act.put, List.setIfInBounds_toArray, List.set_cons_zero, List.set_cons_succ])
      refine list_want rfl rfl (congrArg some (congrArg Value.bool (congrArg Bool.not (okB2_t H.1)))) (wp_run (v := .agg #[.bool (b2n), .slice a2n len2n cap2n, .bool (b2d), .slice a2d len2d cap2d]) (run_load4 rfl rfl (Z.bx 0 rfl)) ?_)
      (try simp only [Act.put, List.setIfInBounds_toArray, List.set_cons_zero, List.set_cons_succ])
      refine seq_callw Z (fun h => list_want rfl rfl (congrArg some (congrArg Value.bool (congrArg Bool.not (okB2_t H.1)))) h) rfl Try.func31 rfl rfl (args1 rfl) (Z.callV (trammellaw03_ok.sem (N2n _ _ (Z.rd 4 rfl)) (N2d _ _ (Z.rd 5 rfl)) (Bd.mono F2d (by decide)))) ?_; clear Z; intro x6 W Z
      (try simp only [Act.put, List.setIfInBounds_toArray, List.set_cons_zero, List.set_cons_succ])
      refine list_want rfl rfl (congrArg some (congrArg Value.bool (congrArg Bool.not (okB2_t H.1)))) (wp_run (v := .bool (!(okB1 (x2d)))) (run_not rfl rfl) ?_)
      (try simp only [Act.put, List.setIfInBounds_toArray, List.set_cons_zero, List.set_cons_succ])
      refine seq_is (v := .bool (!(okB1 (x2d)))) rfl (run_pickF rfl ((show _ = Value.bool (!(okB2 (x0d) (x1d))) from rfl).trans (congrArg Value.bool (congrArg Bool.not (okB2_t H.1)))) rfl) ?_
      (try simp only [Act.put, List.setIfInBounds_toArray, List.set_cons_zero, List.set_cons_succ])
      show Code.wp _ _ _ _ _
      refine wp_cond_false ((show _ = Value.bool (!(okB1 (x2d))) from rfl).trans (congrArg Value.bool (congrArg Bool.not (decide_eq_true H.2)))) ?_
      refine wp_skip ?_
      show Code.wp _ _ _ _ _
      refine wp_seq ?_
      refine wp_region_list ?_
      refine seq_is (v := .agg #[.bool (b0n), .slice a0n len0n cap0n, .bool (b0d), .slice a0d len0d cap0d]) rfl (run_load4 rfl rfl (Z.bx 2 rfl)) ?_
      (try simp only [Act.put, List.setIfInBounds_toArray, List.set_cons_zero, List.set_cons_succ])
      refine seq_is (v := .agg #[.bool (b1n), .slice a1n len1n cap1n, .bool (b1d), .slice a1d len1d cap1d]) rfl (run_load4 rfl rfl (Z.bx 1 rfl)) ?_
      (try simp only [Act.put, List.setIfInBounds_toArray, List.set_cons_zero, List.set_cons_succ])
      refine seq_call Z rfl rfl Try.func23 rfl rfl (args2 rfl rfl) (Z.callQi (rat_Add.sem (N0n _ _ (Z.rd 0 rfl)) (N0d _ _ (Z.rd 1 rfl)) (N1n _ _ (Z.rd 2 rfl)) (N1d _ _ (Z.rd 3 rfl)) (Bd.mono F0n (by decide)) (Bd.mono F0d (by decide)) (Bd.mono F1n (by decide)) (Bd.mono F1d (by decide)) H.1.1 H.1.2)) ?_; clear Z; intro x7 W Z
      (try simp only [Act.put, List.setIfInBounds_toArray, List.set_cons_zero, List.set_cons_succ])
      refine seq_is (v := .tuple #[.agg #[.bool (decide (qn (((x0n) * (x1d)) + ((x1n) * (x0d))) ((x0d) * (x1d)) < 0)), x7.1.v, .bool (decide (qd (((x0n) * (x1d)) + ((x1n) * (x0d))) ((x0d) * (x1d)) < 0)), x7.2.v], .int .i64 (0)]) rfl (run_move rfl rfl) ?_
      (try simp only [Act.put, List.setIfInBounds_toArray, List.set_cons_zero, List.set_cons_succ])
      refine seq_is (v := .agg #[.bool (decide (qn (((x0n) * (x1d)) + ((x1n) * (x0d))) ((x0d) * (x1d)) < 0)), x7.1.v, .bool (decide (qd (((x0n) * (x1d)) + ((x1n) * (x0d))) ((x0d) * (x1d)) < 0)), x7.2.v]) rfl (run_extract rfl rfl rfl) ?_
      (try simp only [Act.put, List.setIfInBounds_toArray, List.set_cons_zero, List.set_cons_succ])
      refine seq_is (v := .int .i64 (0)) rfl (run_extract rfl rfl rfl) ?_
      (try simp only [Act.put, List.setIfInBounds_toArray, List.set_cons_zero, List.set_cons_succ])
      refine seq_alloc4 Z rfl rfl ?_; clear Z; intro g8 W Z
      (try simp only [Act.put, List.setIfInBounds_toArray, List.set_cons_zero, List.set_cons_succ])
      refine seq_store4 Z 0 rfl rfl rfl rfl rfl ?_; clear Z; intro W Z
      (try simp only [Act.put, List.setIfInBounds_toArray, List.set_cons_zero, List.set_cons_succ])
      refine seq_is (v := .int .i64 (0)) rfl (run_assign rfl rfl) ?_
      (try simp only [Act.put, List.setIfInBounds_toArray, List.set_cons_zero, List.set_cons_succ])
      show Code.wp _ _ _ _ _
      refine wp_seq ?_
      refine wp_region_list ?_
      refine seq_is (v := .agg #[.bool (b1n), .slice a1n len1n cap1n, .bool (b1d), .slice a1d len1d cap1d]) rfl (run_load4 rfl rfl (Z.bx 2 rfl)) ?_
      (try simp only [Act.put, List.setIfInBounds_toArray, List.set_cons_zero, List.set_cons_succ])
      refine seq_is (v := .agg #[.bool (b0n), .slice a0n len0n cap0n, .bool (b0d), .slice a0d len0d cap0d]) rfl (run_load4 rfl rfl (Z.bx 3 rfl)) ?_
      (try simp only [Act.put, List.setIfInBounds_toArray, List.set_cons_zero, List.set_cons_succ])
      refine seq_call Z rfl rfl Try.func23 rfl rfl (args2 rfl rfl) (Z.callQi (rat_Add.sem (N1n _ _ (Z.rd 4 rfl)) (N1d _ _ (Z.rd 5 rfl)) (N0n _ _ (Z.rd 2 rfl)) (N0d _ _ (Z.rd 3 rfl)) (Bd.mono F1n (by decide)) (Bd.mono F1d (by decide)) (Bd.mono F0n (by decide)) (Bd.mono F0d (by decide)) H.1.2 H.1.1)) ?_; clear Z; intro x9 W Z
      (try simp only [Act.put, List.setIfInBounds_toArray, List.set_cons_zero, List.set_cons_succ])
      refine seq_is (v := .tuple #[.agg #[.bool (decide (qn (((x1n) * (x0d)) + ((x0n) * (x1d))) ((x1d) * (x0d)) < 0)), x9.1.v, .bool (decide (qd (((x1n) * (x0d)) + ((x0n) * (x1d))) ((x1d) * (x0d)) < 0)), x9.2.v], .int .i64 (0)]) rfl (run_move rfl rfl) ?_
      (try simp only [Act.put, List.setIfInBounds_toArray, List.set_cons_zero, List.set_cons_succ])
      refine seq_is (v := .agg #[.bool (decide (qn (((x1n) * (x0d)) + ((x0n) * (x1d))) ((x1d) * (x0d)) < 0)), x9.1.v, .bool (decide (qd (((x1n) * (x0d)) + ((x0n) * (x1d))) ((x1d) * (x0d)) < 0)), x9.2.v]) rfl (run_extract rfl rfl rfl) ?_
      (try simp only [Act.put, List.setIfInBounds_toArray, List.set_cons_zero, List.set_cons_succ])
      refine seq_is (v := .int .i64 (0)) rfl (run_extract rfl rfl rfl) ?_
      (try simp only [Act.put, List.setIfInBounds_toArray, List.set_cons_zero, List.set_cons_succ])
      refine seq_alloc4 Z rfl rfl ?_; clear Z; intro g10 W Z
      (try simp only [Act.put, List.setIfInBounds_toArray, List.set_cons_zero, List.set_cons_succ])
      refine seq_store4 Z 0 rfl rfl rfl rfl rfl ?_; clear Z; intro W Z
      (try simp only [Act.put, List.setIfInBounds_toArray, List.set_cons_zero, List.set_cons_succ])
      refine seq_is (v := .int .i64 (0)) rfl (run_assign rfl rfl) ?_
      (try simp only [Act.put, List.setIfInBounds_toArray, List.set_cons_zero, List.set_cons_succ])
      show Code.wp _ _ _ _ _
      refine wp_seq ?_
      refine wp_region_list ?_
      refine seq_is (v := .agg #[.bool (b1n), .slice a1n len1n cap1n, .bool (b1d), .slice a1d len1d cap1d]) rfl (run_load4 rfl rfl (Z.bx 3 rfl)) ?_
      (try simp only [Act.put, List.setIfInBounds_toArray, List.set_cons_zero, List.set_cons_succ])
      refine seq_is (v := .agg #[.bool (b2n), .slice a2n len2n cap2n, .bool (b2d), .slice a2d len2d cap2d]) rfl (run_load4 rfl rfl (Z.bx 2 rfl)) ?_
      (try simp only [Act.put, List.setIfInBounds_toArray, List.set_cons_zero, List.set_cons_succ])
      refine seq_call Z rfl rfl Try.func23 rfl rfl (args2 rfl rfl) (Z.callQi (rat_Add.sem (N1n _ _ (Z.rd 6 rfl)) (N1d _ _ (Z.rd 7 rfl)) (N2n _ _ (Z.rd 8 rfl)) (N2d _ _ (Z.rd 9 rfl)) (Bd.mono F1n (by decide)) (Bd.mono F1d (by decide)) (Bd.mono F2n (by decide)) (Bd.mono F2d (by decide)) H.1.2 H.2)) ?_; clear Z; intro x11 W Z
      (try simp only [Act.put, List.setIfInBounds_toArray, List.set_cons_zero, List.set_cons_succ])
      refine seq_is (v := .tuple #[.agg #[.bool (decide (qn (((x1n) * (x2d)) + ((x2n) * (x1d))) ((x1d) * (x2d)) < 0)), x11.1.v, .bool (decide (qd (((x1n) * (x2d)) + ((x2n) * (x1d))) ((x1d) * (x2d)) < 0)), x11.2.v], .int .i64 (0)]) rfl (run_move rfl rfl) ?_
      (try simp only [Act.put, List.setIfInBounds_toArray, List.set_cons_zero, List.set_cons_succ])
      refine seq_is (v := .agg #[.bool (decide (qn (((x1n) * (x2d)) + ((x2n) * (x1d))) ((x1d) * (x2d)) < 0)), x11.1.v, .bool (decide (qd (((x1n) * (x2d)) + ((x2n) * (x1d))) ((x1d) * (x2d)) < 0)), x11.2.v]) rfl (run_extract rfl rfl rfl) ?_
      (try simp only [Act.put, List.setIfInBounds_toArray, List.set_cons_zero, List.set_cons_succ])
      refine seq_is (v := .int .i64 (0)) rfl (run_extract rfl rfl rfl) ?_
      (try simp only [Act.put, List.setIfInBounds_toArray, List.set_cons_zero, List.set_cons_succ])
      refine seq_alloc4 Z rfl rfl ?_; clear Z; intro g12 W Z
      (try simp only [Act.put, List.setIfInBounds_toArray, List.set_cons_zero, List.set_cons_succ])
      refine seq_store4 Z 0 rfl rfl rfl rfl rfl ?_; clear Z; intro W Z
      (try simp only [Act.put, List.setIfInBounds_toArray, List.set_cons_zero, List.set_cons_succ])
      refine seq_is (v := .int .i64 (0)) rfl (run_assign rfl rfl) ?_
      (try simp only [Act.put, List.setIfInBounds_toArray, List.set_cons_zero, List.set_cons_succ])
      show Code.wp _ _ _ _ _
      refine wp_seq ?_
      refine wp_region_list ?_
      refine seq_is (v := .agg #[.bool (decide (qn (((x0n) * (x1d)) + ((x1n) * (x0d))) ((x0d) * (x1d)) < 0)), x7.1.v, .bool (decide (qd (((x0n) * (x1d)) + ((x1n) * (x0d))) ((x0d) * (x1d)) < 0)), x7.2.v]) rfl (run_load4 rfl rfl (Z.bx 2 rfl)) ?_
      (try simp only [Act.put, List.setIfInBounds_toArray, List.set_cons_zero, List.set_cons_succ])
      refine seq_is (v := .agg #[.bool (b2n), .slice a2n len2n cap2n, .bool (b2d), .slice a2d len2d cap2d]) rfl (run_load4 rfl rfl (Z.bx 3 rfl)) ?_
      (try simp only [Act.put, List.setIfInBounds_toArray, List.set_cons_zero, List.set_cons_succ])
      refine seq_call Z rfl rfl Try.func23 rfl rfl (args2 rfl rfl) (Z.callQi (rat_Add.sem (Z.own 4 rfl (Bd.fm (Bd.abs (Bd.qn (Bd.add (Bd.mul F0n F1d) (Bd.mul F1n F0d)))) (by decide))) (Z.own 5 rfl (Bd.fm (Bd.abs (Bd.qd (Bd.mul F0d F1d))) (by decide))) (N2n _ _ (Z.rd 10 rfl)) (N2d _ _ (Z.rd 11 rfl)) (Bd.mono (Bd.qn (Bd.add (Bd.mul F0n F1d) (Bd.mul F1n F0d))) (by decide)) (Bd.mono (Bd.qd (Bd.mul F0d F1d)) (by decide)) (Bd.mono F2n (by decide)) (Bd.mono F2d (by decide)) (qd_pos (pos_ne (Int.mul_pos H.1.1 H.1.2))) H.2)) ?_; clear Z; intro x13 W Z
      (try simp only [Act.put, List.setIfInBounds_toArray, List.set_cons_zero, List.set_cons_succ])
      refine seq_is (v := .tuple #[.agg #[.bool (decide (qn (((qn (((x0n) * (x1d)) + ((x1n) * (x0d))) ((x0d) * (x1d))) * (x2d)) + ((x2n) * (qd (((x0n) * (x1d)) + ((x1n) * (x0d))) ((x0d) * (x1d))))) ((qd (((x0n) * (x1d)) + ((x1n) * (x0d))) ((x0d) * (x1d))) * (x2d)) < 0)), x13.1.v, .bool (decide (qd (((qn (((x0n) * (x1d)) + ((x1n) * (x0d))) ((x0d) * (x1d))) * (x2d)) + ((x2n) * (qd (((x0n) * (x1d)) + ((x1n) * (x0d))) ((x0d) * (x1d))))) ((qd (((x0n) * (x1d)) + ((x1n) * (x0d))) ((x0d) * (x1d))) * (x2d)) < 0)), x13.2.v], .int .i64 (0)]) rfl (run_move rfl rfl) ?_
      (try simp only [Act.put, List.setIfInBounds_toArray, List.set_cons_zero, List.set_cons_succ])
      refine seq_is (v := .agg #[.bool (decide (qn (((qn (((x0n) * (x1d)) + ((x1n) * (x0d))) ((x0d) * (x1d))) * (x2d)) + ((x2n) * (qd (((x0n) * (x1d)) + ((x1n) * (x0d))) ((x0d) * (x1d))))) ((qd (((x0n) * (x1d)) + ((x1n) * (x0d))) ((x0d) * (x1d))) * (x2d)) < 0)), x13.1.v, .bool (decide (qd (((qn (((x0n) * (x1d)) + ((x1n) * (x0d))) ((x0d) * (x1d))) * (x2d)) + ((x2n) * (qd (((x0n) * (x1d)) + ((x1n) * (x0d))) ((x0d) * (x1d))))) ((qd (((x0n) * (x1d)) + ((x1n) * (x0d))) ((x0d) * (x1d))) * (x2d)) < 0)), x13.2.v]) rfl (run_extract rfl rfl rfl) ?_
      (try simp only [Act.put, List.setIfInBounds_toArray, List.set_cons_zero, List.set_cons_succ])
      refine seq_is (v := .int .i64 (0)) rfl (run_extract rfl rfl rfl) ?_
      (try simp only [Act.put, List.setIfInBounds_toArray, List.set_cons_zero, List.set_cons_succ])
      refine seq_alloc4 Z rfl rfl ?_; clear Z; intro g14 W Z
      (try simp only [Act.put, List.setIfInBounds_toArray, List.set_cons_zero, List.set_cons_succ])
      refine seq_store4 Z 0 rfl rfl rfl rfl rfl ?_; clear Z; intro W Z
      (try simp only [Act.put, List.setIfInBounds_toArray, List.set_cons_zero, List.set_cons_succ])
      refine seq_is (v := .int .i64 (0)) rfl (run_assign rfl rfl) ?_
      (try simp only [Act.put, List.setIfInBounds_toArray, List.set_cons_zero, List.set_cons_succ])
      show Code.wp _ _ _ _ _
      refine wp_seq ?_
      refine wp_region_list ?_
      refine seq_is (v := .agg #[.bool (b0n), .slice a0n len0n cap0n, .bool (b0d), .slice a0d len0d cap0d]) rfl (run_load4 rfl rfl (Z.bx 6 rfl)) ?_
      (try simp only [Act.put, List.setIfInBounds_toArray, List.set_cons_zero, List.set_cons_succ])
      refine seq_is (v := .agg #[.bool (decide (qn (((x1n) * (x2d)) + ((x2n) * (x1d))) ((x1d) * (x2d)) < 0)), x11.1.v, .bool (decide (qd (((x1n) * (x2d)) + ((x2n) * (x1d))) ((x1d) * (x2d)) < 0)), x11.2.v]) rfl (run_load4 rfl rfl (Z.bx 1 rfl)) ?_
      (try simp only [Act.put, List.setIfInBounds_toArray, List.set_cons_zero, List.set_cons_succ])
      refine seq_call Z rfl rfl Try.func23 rfl rfl (args2 rfl rfl) (Z.callQi (rat_Add.sem (N0n _ _ (Z.rd 8 rfl)) (N0d _ _ (Z.rd 9 rfl)) (Z.own 2 rfl (Bd.fm (Bd.abs (Bd.qn (Bd.add (Bd.mul F1n F2d) (Bd.mul F2n F1d)))) (by decide))) (Z.own 3 rfl (Bd.fm (Bd.abs (Bd.qd (Bd.mul F1d F2d))) (by decide))) (Bd.mono F0n (by decide)) (Bd.mono F0d (by decide)) (Bd.mono (Bd.qn (Bd.add (Bd.mul F1n F2d) (Bd.mul F2n F1d))) (by decide)) (Bd.mono (Bd.qd (Bd.mul F1d F2d)) (by decide)) H.1.1 (qd_pos (pos_ne (Int.mul_pos H.1.2 H.2))))) ?_; clear Z; intro x15 W Z
      (try simp only [Act.put, List.setIfInBounds_toArray, List.set_cons_zero, List.set_cons_succ])
      refine seq_is (v := .tuple #[.agg #[.bool (decide (qn (((x0n) * (qd (((x1n) * (x2d)) + ((x2n) * (x1d))) ((x1d) * (x2d)))) + ((qn (((x1n) * (x2d)) + ((x2n) * (x1d))) ((x1d) * (x2d))) * (x0d))) ((x0d) * (qd (((x1n) * (x2d)) + ((x2n) * (x1d))) ((x1d) * (x2d)))) < 0)), x15.1.v, .bool (decide (qd (((x0n) * (qd (((x1n) * (x2d)) + ((x2n) * (x1d))) ((x1d) * (x2d)))) + ((qn (((x1n) * (x2d)) + ((x2n) * (x1d))) ((x1d) * (x2d))) * (x0d))) ((x0d) * (qd (((x1n) * (x2d)) + ((x2n) * (x1d))) ((x1d) * (x2d)))) < 0)), x15.2.v], .int .i64 (0)]) rfl (run_move rfl rfl) ?_
      (try simp only [Act.put, List.setIfInBounds_toArray, List.set_cons_zero, List.set_cons_succ])
      refine seq_is (v := .agg #[.bool (decide (qn (((x0n) * (qd (((x1n) * (x2d)) + ((x2n) * (x1d))) ((x1d) * (x2d)))) + ((qn (((x1n) * (x2d)) + ((x2n) * (x1d))) ((x1d) * (x2d))) * (x0d))) ((x0d) * (qd (((x1n) * (x2d)) + ((x2n) * (x1d))) ((x1d) * (x2d)))) < 0)), x15.1.v, .bool (decide (qd (((x0n) * (qd (((x1n) * (x2d)) + ((x2n) * (x1d))) ((x1d) * (x2d)))) + ((qn (((x1n) * (x2d)) + ((x2n) * (x1d))) ((x1d) * (x2d))) * (x0d))) ((x0d) * (qd (((x1n) * (x2d)) + ((x2n) * (x1d))) ((x1d) * (x2d)))) < 0)), x15.2.v]) rfl (run_extract rfl rfl rfl) ?_
      (try simp only [Act.put, List.setIfInBounds_toArray, List.set_cons_zero, List.set_cons_succ])
      refine seq_is (v := .int .i64 (0)) rfl (run_extract rfl rfl rfl) ?_
      (try simp only [Act.put, List.setIfInBounds_toArray, List.set_cons_zero, List.set_cons_succ])
      refine seq_alloc4 Z rfl rfl ?_; clear Z; intro g16 W Z
      (try simp only [Act.put, List.setIfInBounds_toArray, List.set_cons_zero, List.set_cons_succ])
      refine seq_store4 Z 0 rfl rfl rfl rfl rfl ?_; clear Z; intro W Z
      (try simp only [Act.put, List.setIfInBounds_toArray, List.set_cons_zero, List.set_cons_succ])
      refine seq_is (v := .int .i64 (0)) rfl (run_assign rfl rfl) ?_
      (try simp only [Act.put, List.setIfInBounds_toArray, List.set_cons_zero, List.set_cons_succ])
      show Code.wp _ _ _ _ _
      refine wp_seq ?_
      refine wp_region_list ?_
      refine seq_is (v := .agg #[.bool (b0n), .slice a0n len0n cap0n, .bool (b0d), .slice a0d len0d cap0d]) rfl (run_load4 rfl rfl (Z.bx 7 rfl)) ?_
      (try simp only [Act.put, List.setIfInBounds_toArray, List.set_cons_zero, List.set_cons_succ])
      refine seq_is (v := .agg #[.bool (decide (qn (((x1n) * (x2d)) + ((x2n) * (x1d))) ((x1d) * (x2d)) < 0)), x11.1.v, .bool (decide (qd (((x1n) * (x2d)) + ((x2n) * (x1d))) ((x1d) * (x2d)) < 0)), x11.2.v]) rfl (run_load4 rfl rfl (Z.bx 2 rfl)) ?_
      (try simp only [Act.put, List.setIfInBounds_toArray, List.set_cons_zero, List.set_cons_succ])
      refine seq_call Z rfl rfl Try.func27 rfl rfl (args2 rfl rfl) (Z.callQi (rat_Mul.sem (N0n _ _ (Z.rd 10 rfl)) (N0d _ _ (Z.rd 11 rfl)) (Z.own 4 rfl (Bd.fm (Bd.abs (Bd.qn (Bd.add (Bd.mul F1n F2d) (Bd.mul F2n F1d)))) (by decide))) (Z.own 5 rfl (Bd.fm (Bd.abs (Bd.qd (Bd.mul F1d F2d))) (by decide))) (Bd.mono F0n (by decide)) (Bd.mono F0d (by decide)) (Bd.mono (Bd.qn (Bd.add (Bd.mul F1n F2d) (Bd.mul F2n F1d))) (by decide)) (Bd.mono (Bd.qd (Bd.mul F1d F2d)) (by decide)) H.1.1 (qd_pos (pos_ne (Int.mul_pos H.1.2 H.2))))) ?_; clear Z; intro x17 W Z
      (try simp only [Act.put, List.setIfInBounds_toArray, List.set_cons_zero, List.set_cons_succ])
      refine seq_is (v := .tuple #[.agg #[.bool (decide (qn ((x0n) * (qn (((x1n) * (x2d)) + ((x2n) * (x1d))) ((x1d) * (x2d)))) ((x0d) * (qd (((x1n) * (x2d)) + ((x2n) * (x1d))) ((x1d) * (x2d)))) < 0)), x17.1.v, .bool (decide (qd ((x0n) * (qn (((x1n) * (x2d)) + ((x2n) * (x1d))) ((x1d) * (x2d)))) ((x0d) * (qd (((x1n) * (x2d)) + ((x2n) * (x1d))) ((x1d) * (x2d)))) < 0)), x17.2.v], .int .i64 (0)]) rfl (run_move rfl rfl) ?_
      (try simp only [Act.put, List.setIfInBounds_toArray, List.set_cons_zero, List.set_cons_succ])
      refine seq_is (v := .agg #[.bool (decide (qn ((x0n) * (qn (((x1n) * (x2d)) + ((x2n) * (x1d))) ((x1d) * (x2d)))) ((x0d) * (qd (((x1n) * (x2d)) + ((x2n) * (x1d))) ((x1d) * (x2d)))) < 0)), x17.1.v, .bool (decide (qd ((x0n) * (qn (((x1n) * (x2d)) + ((x2n) * (x1d))) ((x1d) * (x2d)))) ((x0d) * (qd (((x1n) * (x2d)) + ((x2n) * (x1d))) ((x1d) * (x2d)))) < 0)), x17.2.v]) rfl (run_extract rfl rfl rfl) ?_
      (try simp only [Act.put, List.setIfInBounds_toArray, List.set_cons_zero, List.set_cons_succ])
      refine seq_is (v := .int .i64 (0)) rfl (run_extract rfl rfl rfl) ?_
      (try simp only [Act.put, List.setIfInBounds_toArray, List.set_cons_zero, List.set_cons_succ])
      refine seq_alloc4 Z rfl rfl ?_; clear Z; intro g18 W Z
      (try simp only [Act.put, List.setIfInBounds_toArray, List.set_cons_zero, List.set_cons_succ])
      refine seq_store4 Z 0 rfl rfl rfl rfl rfl ?_; clear Z; intro W Z
      (try simp only [Act.put, List.setIfInBounds_toArray, List.set_cons_zero, List.set_cons_succ])
      refine seq_is (v := .int .i64 (0)) rfl (run_assign rfl rfl) ?_
      (try simp only [Act.put, List.setIfInBounds_toArray, List.set_cons_zero, List.set_cons_succ])
      show Code.wp _ _ _ _ _
      refine wp_seq ?_
      refine wp_region_list ?_
      refine seq_is (v := .agg #[.bool (b0n), .slice a0n len0n cap0n, .bool (b0d), .slice a0d len0d cap0d]) rfl (run_load4 rfl rfl (Z.bx 8 rfl)) ?_
      (try simp only [Act.put, List.setIfInBounds_toArray, List.set_cons_zero, List.set_cons_succ])
      refine seq_is (v := .agg #[.bool (b1n), .slice a1n len1n cap1n, .bool (b1d), .slice a1d len1d cap1d]) rfl (run_load4 rfl rfl (Z.bx 7 rfl)) ?_
      (try simp only [Act.put, List.setIfInBounds_toArray, List.set_cons_zero, List.set_cons_succ])
      refine seq_call Z rfl rfl Try.func27 rfl rfl (args2 rfl rfl) (Z.callQi (rat_Mul.sem (N0n _ _ (Z.rd 12 rfl)) (N0d _ _ (Z.rd 13 rfl)) (N1n _ _ (Z.rd 14 rfl)) (N1d _ _ (Z.rd 15 rfl)) (Bd.mono F0n (by decide)) (Bd.mono F0d (by decide)) (Bd.mono F1n (by decide)) (Bd.mono F1d (by decide)) H.1.1 H.1.2)) ?_; clear Z; intro x19 W Z
      (try simp only [Act.put, List.setIfInBounds_toArray, List.set_cons_zero, List.set_cons_succ])
      refine seq_is (v := .tuple #[.agg #[.bool (decide (qn ((x0n) * (x1n)) ((x0d) * (x1d)) < 0)), x19.1.v, .bool (decide (qd ((x0n) * (x1n)) ((x0d) * (x1d)) < 0)), x19.2.v], .int .i64 (0)]) rfl (run_move rfl rfl) ?_
      (try simp only [Act.put, List.setIfInBounds_toArray, List.set_cons_zero, List.set_cons_succ])
      refine seq_is (v := .agg #[.bool (decide (qn ((x0n) * (x1n)) ((x0d) * (x1d)) < 0)), x19.1.v, .bool (decide (qd ((x0n) * (x1n)) ((x0d) * (x1d)) < 0)), x19.2.v]) rfl (run_extract rfl rfl rfl) ?_
      (try simp only [Act.put, List.setIfInBounds_toArray, List.set_cons_zero, List.set_cons_succ])
      refine seq_is (v := .int .i64 (0)) rfl (run_extract rfl rfl rfl) ?_
      (try simp only [Act.put, List.setIfInBounds_toArray, List.set_cons_zero, List.set_cons_succ])
      refine seq_alloc4 Z rfl rfl ?_; clear Z; intro g20 W Z
      (try simp only [Act.put, List.setIfInBounds_toArray, List.set_cons_zero, List.set_cons_succ])
      refine seq_store4 Z 0 rfl rfl rfl rfl rfl ?_; clear Z; intro W Z
      (try simp only [Act.put, List.setIfInBounds_toArray, List.set_cons_zero, List.set_cons_succ])
      refine seq_is (v := .int .i64 (0)) rfl (run_assign rfl rfl) ?_
      (try simp only [Act.put, List.setIfInBounds_toArray, List.set_cons_zero, List.set_cons_succ])
      show Code.wp _ _ _ _ _
      refine wp_seq ?_
      refine wp_region_list ?_
      refine seq_is (v := .agg #[.bool (b0n), .slice a0n len0n cap0n, .bool (b0d), .slice a0d len0d cap0d]) rfl (run_load4 rfl rfl (Z.bx 9 rfl)) ?_
      (try simp only [Act.put, List.setIfInBounds_toArray, List.set_cons_zero, List.set_cons_succ])
      refine seq_is (v := .agg #[.bool (b2n), .slice a2n len2n cap2n, .bool (b2d), .slice a2d len2d cap2d]) rfl (run_load4 rfl rfl (Z.bx 7 rfl)) ?_
      (try simp only [Act.put, List.setIfInBounds_toArray, List.set_cons_zero, List.set_cons_succ])
      refine seq_call Z rfl rfl Try.func27 rfl rfl (args2 rfl rfl) (Z.callQi (rat_Mul.sem (N0n _ _ (Z.rd 14 rfl)) (N0d _ _ (Z.rd 15 rfl)) (N2n _ _ (Z.rd 18 rfl)) (N2d _ _ (Z.rd 19 rfl)) (Bd.mono F0n (by decide)) (Bd.mono F0d (by decide)) (Bd.mono F2n (by decide)) (Bd.mono F2d (by decide)) H.1.1 H.2)) ?_; clear Z; intro x21 W Z
      (try simp only [Act.put, List.setIfInBounds_toArray, List.set_cons_zero, List.set_cons_succ])
      refine seq_is (v := .tuple #[.agg #[.bool (decide (qn ((x0n) * (x2n)) ((x0d) * (x2d)) < 0)), x21.1.v, .bool (decide (qd ((x0n) * (x2n)) ((x0d) * (x2d)) < 0)), x21.2.v], .int .i64 (0)]) rfl (run_move rfl rfl) ?_
      (try simp only [Act.put, List.setIfInBounds_toArray, List.set_cons_zero, List.set_cons_succ])
      refine seq_is (v := .agg #[.bool (decide (qn ((x0n) * (x2n)) ((x0d) * (x2d)) < 0)), x21.1.v, .bool (decide (qd ((x0n) * (x2n)) ((x0d) * (x2d)) < 0)), x21.2.v]) rfl (run_extract rfl rfl rfl) ?_
      (try simp only [Act.put, List.setIfInBounds_toArray, List.set_cons_zero, List.set_cons_succ])
      refine seq_is (v := .int .i64 (0)) rfl (run_extract rfl rfl rfl) ?_
      (try simp only [Act.put, List.setIfInBounds_toArray, List.set_cons_zero, List.set_cons_succ])
      refine seq_alloc4 Z rfl rfl ?_; clear Z; intro g22 W Z
      (try simp only [Act.put, List.setIfInBounds_toArray, List.set_cons_zero, List.set_cons_succ])
      refine seq_store4 Z 0 rfl rfl rfl rfl rfl ?_; clear Z; intro W Z
      (try simp only [Act.put, List.setIfInBounds_toArray, List.set_cons_zero, List.set_cons_succ])
      refine seq_is (v := .int .i64 (0)) rfl (run_assign rfl rfl) ?_
      (try simp only [Act.put, List.setIfInBounds_toArray, List.set_cons_zero, List.set_cons_succ])
      show Code.wp _ _ _ _ _
      refine wp_seq ?_
      refine wp_region_list ?_
      refine seq_is (v := .agg #[.bool (decide (qn ((x0n) * (x1n)) ((x0d) * (x1d)) < 0)), x19.1.v, .bool (decide (qd ((x0n) * (x1n)) ((x0d) * (x1d)) < 0)), x19.2.v]) rfl (run_load4 rfl rfl (Z.bx 1 rfl)) ?_
      (try simp only [Act.put, List.setIfInBounds_toArray, List.set_cons_zero, List.set_cons_succ])
      refine seq_is (v := .agg #[.bool (decide (qn ((x0n) * (x2n)) ((x0d) * (x2d)) < 0)), x21.1.v, .bool (decide (qd ((x0n) * (x2n)) ((x0d) * (x2d)) < 0)), x21.2.v]) rfl (run_load4 rfl rfl (Z.bx 0 rfl)) ?_
      (try simp only [Act.put, List.setIfInBounds_toArray, List.set_cons_zero, List.set_cons_succ])
      refine seq_call Z rfl rfl Try.func23 rfl rfl (args2 rfl rfl) (Z.callQi (rat_Add.sem (Z.own 2 rfl (Bd.fm (Bd.abs (Bd.qn (Bd.mul F0n F1n))) (by decide))) (Z.own 3 rfl (Bd.fm (Bd.abs (Bd.qd (Bd.mul F0d F1d))) (by decide))) (Z.own 0 rfl (Bd.fm (Bd.abs (Bd.qn (Bd.mul F0n F2n))) (by decide))) (Z.own 1 rfl (Bd.fm (Bd.abs (Bd.qd (Bd.mul F0d F2d))) (by decide))) (Bd.mono (Bd.qn (Bd.mul F0n F1n)) (by decide)) (Bd.mono (Bd.qd (Bd.mul F0d F1d)) (by decide)) (Bd.mono (Bd.qn (Bd.mul F0n F2n)) (by decide)) (Bd.mono (Bd.qd (Bd.mul F0d F2d)) (by decide)) (qd_pos (pos_ne (Int.mul_pos H.1.1 H.1.2))) (qd_pos (pos_ne (Int.mul_pos H.1.1 H.2))))) ?_; clear Z; intro x23 W Z
      (try simp only [Act.put, List.setIfInBounds_toArray, List.set_cons_zero, List.set_cons_succ])
      refine seq_is (v := .tuple #[.agg #[.bool (decide (qn (((qn ((x0n) * (x1n)) ((x0d) * (x1d))) * (qd ((x0n) * (x2n)) ((x0d) * (x2d)))) + ((qn ((x0n) * (x2n)) ((x0d) * (x2d))) * (qd ((x0n) * (x1n)) ((x0d) * (x1d))))) ((qd ((x0n) * (x1n)) ((x0d) * (x1d))) * (qd ((x0n) * (x2n)) ((x0d) * (x2d)))) < 0)), x23.1.v, .bool (decide (qd (((qn ((x0n) * (x1n)) ((x0d) * (x1d))) * (qd ((x0n) * (x2n)) ((x0d) * (x2d)))) + ((qn ((x0n) * (x2n)) ((x0d) * (x2d))) * (qd ((x0n) * (x1n)) ((x0d) * (x1d))))) ((qd ((x0n) * (x1n)) ((x0d) * (x1d))) * (qd ((x0n) * (x2n)) ((x0d) * (x2d)))) < 0)), x23.2.v], .int .i64 (0)]) rfl (run_move rfl rfl) ?_
      (try simp only [Act.put, List.setIfInBounds_toArray, List.set_cons_zero, List.set_cons_succ])
      refine seq_is (v := .agg #[.bool (decide (qn (((qn ((x0n) * (x1n)) ((x0d) * (x1d))) * (qd ((x0n) * (x2n)) ((x0d) * (x2d)))) + ((qn ((x0n) * (x2n)) ((x0d) * (x2d))) * (qd ((x0n) * (x1n)) ((x0d) * (x1d))))) ((qd ((x0n) * (x1n)) ((x0d) * (x1d))) * (qd ((x0n) * (x2n)) ((x0d) * (x2d)))) < 0)), x23.1.v, .bool (decide (qd (((qn ((x0n) * (x1n)) ((x0d) * (x1d))) * (qd ((x0n) * (x2n)) ((x0d) * (x2d)))) + ((qn ((x0n) * (x2n)) ((x0d) * (x2d))) * (qd ((x0n) * (x1n)) ((x0d) * (x1d))))) ((qd ((x0n) * (x1n)) ((x0d) * (x1d))) * (qd ((x0n) * (x2n)) ((x0d) * (x2d)))) < 0)), x23.2.v]) rfl (run_extract rfl rfl rfl) ?_
      (try simp only [Act.put, List.setIfInBounds_toArray, List.set_cons_zero, List.set_cons_succ])
      refine seq_is (v := .int .i64 (0)) rfl (run_extract rfl rfl rfl) ?_
      (try simp only [Act.put, List.setIfInBounds_toArray, List.set_cons_zero, List.set_cons_succ])
      refine seq_alloc4 Z rfl rfl ?_; clear Z; intro g24 W Z
      (try simp only [Act.put, List.setIfInBounds_toArray, List.set_cons_zero, List.set_cons_succ])
      refine seq_store4 Z 0 rfl rfl rfl rfl rfl ?_; clear Z; intro W Z
      (try simp only [Act.put, List.setIfInBounds_toArray, List.set_cons_zero, List.set_cons_succ])
      refine seq_is (v := .int .i64 (0)) rfl (run_assign rfl rfl) ?_
      (try simp only [Act.put, List.setIfInBounds_toArray, List.set_cons_zero, List.set_cons_succ])
      show Code.wp _ _ _ _ _
      refine wp_seq ?_
      refine wp_seq ?_
      refine wp_region_list ?_
      refine seq_is (v := .int .i64 (0)) rfl (run_move rfl rfl) ?_
      (try simp only [Act.put, List.setIfInBounds_toArray, List.set_cons_zero, List.set_cons_succ])
      refine seq_is (v := .bool (decide ((0 : Int) ≠ (0)))) rfl (run_neqE rfl rfl rfl) ?_
      (try simp only [Act.put, List.setIfInBounds_toArray, List.set_cons_zero, List.set_cons_succ])
      refine seq_is (v := .bool (decide ((0 : Int) ≠ (0)))) rfl (run_move rfl rfl) ?_
      (try simp only [Act.put, List.setIfInBounds_toArray, List.set_cons_zero, List.set_cons_succ])
      refine list_want rfl rfl (congrArg some (congrArg Value.bool (Eq.refl false))) (wp_run (v := .agg #[.bool (decide (qn (((x0n) * (x1d)) + ((x1n) * (x0d))) ((x0d) * (x1d)) < 0)), x7.1.v, .bool (decide (qd (((x0n) * (x1d)) + ((x1n) * (x0d))) ((x0d) * (x1d)) < 0)), x7.2.v]) (run_load4 rfl rfl (Z.bx 8 rfl)) ?_)
      (try simp only [Act.put, List.setIfInBounds_toArray, List.set_cons_zero, List.set_cons_succ])
      refine list_want rfl rfl (congrArg some (congrArg Value.bool (Eq.refl false))) (wp_run (v := .agg #[.bool (decide (qn (((x1n) * (x0d)) + ((x0n) * (x1d))) ((x1d) * (x0d)) < 0)), x9.1.v, .bool (decide (qd (((x1n) * (x0d)) + ((x0n) * (x1d))) ((x1d) * (x0d)) < 0)), x9.2.v]) (run_load4 rfl rfl (Z.bx 7 rfl)) ?_)
      (try simp only [Act.put, List.setIfInBounds_toArray, List.set_cons_zero, List.set_cons_succ])
      refine seq_callw Z (fun h => list_want rfl rfl (congrArg some (congrArg Value.bool (Eq.refl false))) h) rfl Try.func15 rfl rfl (args2 rfl rfl) (Z.callV (sameQ (z1 := qn (((x0n) * (x1d)) + ((x1n) * (x0d))) ((x0d) * (x1d))) (z2 := qn (((x1n) * (x0d)) + ((x0n) * (x1d))) ((x1d) * (x0d))) (y1 := qd (((x0n) * (x1d)) + ((x1n) * (x0d))) ((x0d) * (x1d))) (y2 := qd (((x1n) * (x0d)) + ((x0n) * (x1d))) ((x1d) * (x0d))) (Z.rdO 16 rfl) (Z.rdO 17 rfl) (Z.rdO 14 rfl) (Z.rdO 15 rfl) (Bd.fm (Bd.abs (Bd.qn (Bd.add (Bd.mul F0n F1d) (Bd.mul F1n F0d)))) (by decide)) (Bd.fm (Bd.abs (Bd.qd (Bd.mul F0d F1d))) (by decide)) (field_1 H.1.1 H.1.2).1 (field_1 H.1.1 H.1.2).2)) ?_; clear Z; intro x25 W Z
      (try simp only [Act.put, List.setIfInBounds_toArray, List.set_cons_zero, List.set_cons_succ])
      refine list_want rfl rfl (congrArg some (congrArg Value.bool (Eq.refl false))) (wp_run (v := .bool (!(true))) (run_not rfl rfl) ?_)
      (try simp only [Act.put, List.setIfInBounds_toArray, List.set_cons_zero, List.set_cons_succ])
      refine seq_is (v := .bool (!(true))) rfl (run_pickF rfl rfl rfl) ?_
      (try simp only [Act.put, List.setIfInBounds_toArray, List.set_cons_zero, List.set_cons_succ])
      refine seq_is (v := .bool (!(true))) rfl (run_move rfl rfl) ?_
      (try simp only [Act.put, List.setIfInBounds_toArray, List.set_cons_zero, List.set_cons_succ])
      refine list_want rfl rfl (congrArg some (congrArg Value.bool (Eq.refl false))) (wp_run (v := .agg #[.bool (decide (qn (((qn (((x0n) * (x1d)) + ((x1n) * (x0d))) ((x0d) * (x1d))) * (x2d)) + ((x2n) * (qd (((x0n) * (x1d)) + ((x1n) * (x0d))) ((x0d) * (x1d))))) ((qd (((x0n) * (x1d)) + ((x1n) * (x0d))) ((x0d) * (x1d))) * (x2d)) < 0)), x13.1.v, .bool (decide (qd (((qn (((x0n) * (x1d)) + ((x1n) * (x0d))) ((x0d) * (x1d))) * (x2d)) + ((x2n) * (qd (((x0n) * (x1d)) + ((x1n) * (x0d))) ((x0d) * (x1d))))) ((qd (((x0n) * (x1d)) + ((x1n) * (x0d))) ((x0d) * (x1d))) * (x2d)) < 0)), x13.2.v]) (run_load4 rfl rfl (Z.bx 5 rfl)) ?_)
      (try simp only [Act.put, List.setIfInBounds_toArray, List.set_cons_zero, List.set_cons_succ])
      refine list_want rfl rfl (congrArg some (congrArg Value.bool (Eq.refl false))) (wp_run (v := .agg #[.bool (decide (qn (((x0n) * (qd (((x1n) * (x2d)) + ((x2n) * (x1d))) ((x1d) * (x2d)))) + ((qn (((x1n) * (x2d)) + ((x2n) * (x1d))) ((x1d) * (x2d))) * (x0d))) ((x0d) * (qd (((x1n) * (x2d)) + ((x2n) * (x1d))) ((x1d) * (x2d)))) < 0)), x15.1.v, .bool (decide (qd (((x0n) * (qd (((x1n) * (x2d)) + ((x2n) * (x1d))) ((x1d) * (x2d)))) + ((qn (((x1n) * (x2d)) + ((x2n) * (x1d))) ((x1d) * (x2d))) * (x0d))) ((x0d) * (qd (((x1n) * (x2d)) + ((x2n) * (x1d))) ((x1d) * (x2d)))) < 0)), x15.2.v]) (run_load4 rfl rfl (Z.bx 4 rfl)) ?_)
      (try simp only [Act.put, List.setIfInBounds_toArray, List.set_cons_zero, List.set_cons_succ])
      refine seq_callw Z (fun h => list_want rfl rfl (congrArg some (congrArg Value.bool (Eq.refl false))) h) rfl Try.func15 rfl rfl (args2 rfl rfl) (Z.callV (sameQ (z1 := qn (((qn (((x0n) * (x1d)) + ((x1n) * (x0d))) ((x0d) * (x1d))) * (x2d)) + ((x2n) * (qd (((x0n) * (x1d)) + ((x1n) * (x0d))) ((x0d) * (x1d))))) ((qd (((x0n) * (x1d)) + ((x1n) * (x0d))) ((x0d) * (x1d))) * (x2d))) (z2 := qn (((x0n) * (qd (((x1n) * (x2d)) + ((x2n) * (x1d))) ((x1d) * (x2d)))) + ((qn (((x1n) * (x2d)) + ((x2n) * (x1d))) ((x1d) * (x2d))) * (x0d))) ((x0d) * (qd (((x1n) * (x2d)) + ((x2n) * (x1d))) ((x1d) * (x2d))))) (y1 := qd (((qn (((x0n) * (x1d)) + ((x1n) * (x0d))) ((x0d) * (x1d))) * (x2d)) + ((x2n) * (qd (((x0n) * (x1d)) + ((x1n) * (x0d))) ((x0d) * (x1d))))) ((qd (((x0n) * (x1d)) + ((x1n) * (x0d))) ((x0d) * (x1d))) * (x2d))) (y2 := qd (((x0n) * (qd (((x1n) * (x2d)) + ((x2n) * (x1d))) ((x1d) * (x2d)))) + ((qn (((x1n) * (x2d)) + ((x2n) * (x1d))) ((x1d) * (x2d))) * (x0d))) ((x0d) * (qd (((x1n) * (x2d)) + ((x2n) * (x1d))) ((x1d) * (x2d))))) (Z.rdO 10 rfl) (Z.rdO 11 rfl) (Z.rdO 8 rfl) (Z.rdO 9 rfl) (Bd.fm (Bd.abs (Bd.qn (Bd.add (Bd.mul (Bd.qn (Bd.add (Bd.mul F0n F1d) (Bd.mul F1n F0d))) F2d) (Bd.mul F2n (Bd.qd (Bd.mul F0d F1d)))))) (by decide)) (Bd.fm (Bd.abs (Bd.qd (Bd.mul (Bd.qd (Bd.mul F0d F1d)) F2d))) (by decide)) (field_2 H.1.1 H.1.2 H.2).1 (field_2 H.1.1 H.1.2 H.2).2)) ?_; clear Z; intro x26 W Z
      (try simp only [Act.put, List.setIfInBounds_toArray, List.set_cons_zero, List.set_cons_succ])
      refine list_want rfl rfl (congrArg some (congrArg Value.bool (Eq.refl false))) (wp_run (v := .bool (!(true))) (run_not rfl rfl) ?_)
      (try simp only [Act.put, List.setIfInBounds_toArray, List.set_cons_zero, List.set_cons_succ])
      refine seq_is (v := .bool (!(true))) rfl (run_pickF rfl rfl rfl) ?_
      (try simp only [Act.put, List.setIfInBounds_toArray, List.set_cons_zero, List.set_cons_succ])
      refine seq_is (v := .bool (!(true))) rfl (run_move rfl rfl) ?_
      (try simp only [Act.put, List.setIfInBounds_toArray, List.set_cons_zero, List.set_cons_succ])
      refine list_want rfl rfl (congrArg some (congrArg Value.bool (Eq.refl false))) (wp_run (v := .agg #[.bool (decide (qn ((x0n) * (qn (((x1n) * (x2d)) + ((x2n) * (x1d))) ((x1d) * (x2d)))) ((x0d) * (qd (((x1n) * (x2d)) + ((x2n) * (x1d))) ((x1d) * (x2d)))) < 0)), x17.1.v, .bool (decide (qd ((x0n) * (qn (((x1n) * (x2d)) + ((x2n) * (x1d))) ((x1d) * (x2d)))) ((x0d) * (qd (((x1n) * (x2d)) + ((x2n) * (x1d))) ((x1d) * (x2d)))) < 0)), x17.2.v]) (run_load4 rfl rfl (Z.bx 3 rfl)) ?_)
      (try simp only [Act.put, List.setIfInBounds_toArray, List.set_cons_zero, List.set_cons_succ])
      refine list_want rfl rfl (congrArg some (congrArg Value.bool (Eq.refl false))) (wp_run (v := .agg #[.bool (decide (qn (((qn ((x0n) * (x1n)) ((x0d) * (x1d))) * (qd ((x0n) * (x2n)) ((x0d) * (x2d)))) + ((qn ((x0n) * (x2n)) ((x0d) * (x2d))) * (qd ((x0n) * (x1n)) ((x0d) * (x1d))))) ((qd ((x0n) * (x1n)) ((x0d) * (x1d))) * (qd ((x0n) * (x2n)) ((x0d) * (x2d)))) < 0)), x23.1.v, .bool (decide (qd (((qn ((x0n) * (x1n)) ((x0d) * (x1d))) * (qd ((x0n) * (x2n)) ((x0d) * (x2d)))) + ((qn ((x0n) * (x2n)) ((x0d) * (x2d))) * (qd ((x0n) * (x1n)) ((x0d) * (x1d))))) ((qd ((x0n) * (x1n)) ((x0d) * (x1d))) * (qd ((x0n) * (x2n)) ((x0d) * (x2d)))) < 0)), x23.2.v]) (run_load4 rfl rfl (Z.bx 0 rfl)) ?_)
      (try simp only [Act.put, List.setIfInBounds_toArray, List.set_cons_zero, List.set_cons_succ])
      refine seq_callw Z (fun h => list_want rfl rfl (congrArg some (congrArg Value.bool (Eq.refl false))) h) rfl Try.func15 rfl rfl (args2 rfl rfl) (Z.callV (sameQ (z1 := qn ((x0n) * (qn (((x1n) * (x2d)) + ((x2n) * (x1d))) ((x1d) * (x2d)))) ((x0d) * (qd (((x1n) * (x2d)) + ((x2n) * (x1d))) ((x1d) * (x2d))))) (z2 := qn (((qn ((x0n) * (x1n)) ((x0d) * (x1d))) * (qd ((x0n) * (x2n)) ((x0d) * (x2d)))) + ((qn ((x0n) * (x2n)) ((x0d) * (x2d))) * (qd ((x0n) * (x1n)) ((x0d) * (x1d))))) ((qd ((x0n) * (x1n)) ((x0d) * (x1d))) * (qd ((x0n) * (x2n)) ((x0d) * (x2d))))) (y1 := qd ((x0n) * (qn (((x1n) * (x2d)) + ((x2n) * (x1d))) ((x1d) * (x2d)))) ((x0d) * (qd (((x1n) * (x2d)) + ((x2n) * (x1d))) ((x1d) * (x2d))))) (y2 := qd (((qn ((x0n) * (x1n)) ((x0d) * (x1d))) * (qd ((x0n) * (x2n)) ((x0d) * (x2d)))) + ((qn ((x0n) * (x2n)) ((x0d) * (x2d))) * (qd ((x0n) * (x1n)) ((x0d) * (x1d))))) ((qd ((x0n) * (x1n)) ((x0d) * (x1d))) * (qd ((x0n) * (x2n)) ((x0d) * (x2d))))) (Z.rdO 6 rfl) (Z.rdO 7 rfl) (Z.rdO 0 rfl) (Z.rdO 1 rfl) (Bd.fm (Bd.abs (Bd.qn (Bd.mul F0n (Bd.qn (Bd.add (Bd.mul F1n F2d) (Bd.mul F2n F1d)))))) (by decide)) (Bd.fm (Bd.abs (Bd.qd (Bd.mul F0d (Bd.qd (Bd.mul F1d F2d))))) (by decide)) (field_3 H.1.1 H.1.2 H.2).1 (field_3 H.1.1 H.1.2 H.2).2)) ?_; clear Z; intro x27 W Z
      (try simp only [Act.put, List.setIfInBounds_toArray, List.set_cons_zero, List.set_cons_succ])
      refine list_want rfl rfl (congrArg some (congrArg Value.bool (Eq.refl false))) (wp_run (v := .bool (!(true))) (run_not rfl rfl) ?_)
      (try simp only [Act.put, List.setIfInBounds_toArray, List.set_cons_zero, List.set_cons_succ])
      refine seq_is (v := .bool (!(true))) rfl (run_pickF rfl rfl rfl) ?_
      (try simp only [Act.put, List.setIfInBounds_toArray, List.set_cons_zero, List.set_cons_succ])
      show Code.wp _ _ _ _ _
      refine wp_cond_false rfl ?_
      refine wp_skip ?_
      show Code.wp _ _ _ _ _
      refine wp_seq ?_
      refine wp_region_list ?_
      refine seq_is (v := .agg #[.bool (decide (qn (((x0n) * (x1d)) + ((x1n) * (x0d))) ((x0d) * (x1d)) < 0)), x7.1.v, .bool (decide (qd (((x0n) * (x1d)) + ((x1n) * (x0d))) ((x0d) * (x1d)) < 0)), x7.2.v]) rfl (run_load4 rfl rfl (Z.bx 8 rfl)) ?_
      (try simp only [Act.put, List.setIfInBounds_toArray, List.set_cons_zero, List.set_cons_succ])
      refine seq_is (v := .agg #[.bool (b1n), .slice a1n len1n cap1n, .bool (b1d), .slice a1d len1d cap1d]) rfl (run_load4 rfl rfl (Z.bx 10 rfl)) ?_
      (try simp only [Act.put, List.setIfInBounds_toArray, List.set_cons_zero, List.set_cons_succ])
      refine seq_call Z rfl rfl Try.func24 rfl rfl (args2 rfl rfl) (Z.callQi (rat_Sub.sem (Z.own 16 rfl (Bd.fm (Bd.abs (Bd.qn (Bd.add (Bd.mul F0n F1d) (Bd.mul F1n F0d)))) (by decide))) (Z.own 17 rfl (Bd.fm (Bd.abs (Bd.qd (Bd.mul F0d F1d))) (by decide))) (N1n _ _ (Z.rd 20 rfl)) (N1d _ _ (Z.rd 21 rfl)) (Bd.mono (Bd.qn (Bd.add (Bd.mul F0n F1d) (Bd.mul F1n F0d))) (by decide)) (Bd.mono (Bd.qd (Bd.mul F0d F1d)) (by decide)) (Bd.mono F1n (by decide)) (Bd.mono F1d (by decide)) (qd_pos (pos_ne (Int.mul_pos H.1.1 H.1.2))) H.1.2)) ?_; clear Z; intro x28 W Z
      (try simp only [Act.put, List.setIfInBounds_toArray, List.set_cons_zero, List.set_cons_succ])
      refine seq_is (v := .tuple #[.agg #[.bool (decide (qn (((qn (((x0n) * (x1d)) + ((x1n) * (x0d))) ((x0d) * (x1d))) * (x1d)) - ((x1n) * (qd (((x0n) * (x1d)) + ((x1n) * (x0d))) ((x0d) * (x1d))))) ((qd (((x0n) * (x1d)) + ((x1n) * (x0d))) ((x0d) * (x1d))) * (x1d)) < 0)), x28.1.v, .bool (decide (qd (((qn (((x0n) * (x1d)) + ((x1n) * (x0d))) ((x0d) * (x1d))) * (x1d)) - ((x1n) * (qd (((x0n) * (x1d)) + ((x1n) * (x0d))) ((x0d) * (x1d))))) ((qd (((x0n) * (x1d)) + ((x1n) * (x0d))) ((x0d) * (x1d))) * (x1d)) < 0)), x28.2.v], .int .i64 (0)]) rfl (run_move rfl rfl) ?_
      (try simp only [Act.put, List.setIfInBounds_toArray, List.set_cons_zero, List.set_cons_succ])
      refine seq_is (v := .agg #[.bool (decide (qn (((qn (((x0n) * (x1d)) + ((x1n) * (x0d))) ((x0d) * (x1d))) * (x1d)) - ((x1n) * (qd (((x0n) * (x1d)) + ((x1n) * (x0d))) ((x0d) * (x1d))))) ((qd (((x0n) * (x1d)) + ((x1n) * (x0d))) ((x0d) * (x1d))) * (x1d)) < 0)), x28.1.v, .bool (decide (qd (((qn (((x0n) * (x1d)) + ((x1n) * (x0d))) ((x0d) * (x1d))) * (x1d)) - ((x1n) * (qd (((x0n) * (x1d)) + ((x1n) * (x0d))) ((x0d) * (x1d))))) ((qd (((x0n) * (x1d)) + ((x1n) * (x0d))) ((x0d) * (x1d))) * (x1d)) < 0)), x28.2.v]) rfl (run_extract rfl rfl rfl) ?_
      (try simp only [Act.put, List.setIfInBounds_toArray, List.set_cons_zero, List.set_cons_succ])
      refine seq_is (v := .int .i64 (0)) rfl (run_extract rfl rfl rfl) ?_
      (try simp only [Act.put, List.setIfInBounds_toArray, List.set_cons_zero, List.set_cons_succ])
      refine seq_alloc4 Z rfl rfl ?_; clear Z; intro g29 W Z
      (try simp only [Act.put, List.setIfInBounds_toArray, List.set_cons_zero, List.set_cons_succ])
      refine seq_store4 Z 0 rfl rfl rfl rfl rfl ?_; clear Z; intro W Z
      (try simp only [Act.put, List.setIfInBounds_toArray, List.set_cons_zero, List.set_cons_succ])
      refine seq_is (v := .int .i64 (0)) rfl (run_assign rfl rfl) ?_
      (try simp only [Act.put, List.setIfInBounds_toArray, List.set_cons_zero, List.set_cons_succ])
      show Code.wp _ _ _ _ _
      refine wp_seq ?_
      refine wp_region_list ?_
      refine seq_is (v := .pointer (some ⟨g1, 0, none⟩)) rfl (run_fieldR0 rfl rfl) ?_
      (try simp only [Act.put, List.setIfInBounds_toArray, List.set_cons_zero, List.set_cons_succ])
      refine seq_is (v := .agg #[.bool (b0n), .slice a0n len0n cap0n]) rfl (run_loadNum rfl rfl (Z.bx 12 rfl)) ?_
      (try simp only [Act.put, List.setIfInBounds_toArray, List.set_cons_zero, List.set_cons_succ])
      refine seq_is (v := .pointer (some ⟨g1, 2, none⟩)) rfl (run_fieldR1 rfl rfl) ?_
      (try simp only [Act.put, List.setIfInBounds_toArray, List.set_cons_zero, List.set_cons_succ])
      refine seq_is (v := .agg #[.bool (b0d), .slice a0d len0d cap0d]) rfl (run_loadDen rfl rfl (Z.bx 12 rfl)) ?_
      (try simp only [Act.put, List.setIfInBounds_toArray, List.set_cons_zero, List.set_cons_succ])
      refine seq_call Z rfl rfl Try.func13 rfl rfl (args2 rfl rfl) (Z.callQi (rat_Make.semq (N0n _ _ (Z.rd 20 rfl)) (N0d _ _ (Z.rd 21 rfl)) (Bd.mono F0n (by decide)) (Bd.mono F0d (by decide)) (pos_ne H.1.1))) ?_; clear Z; intro x30 W Z
      (try simp only [Act.put, List.setIfInBounds_toArray, List.set_cons_zero, List.set_cons_succ])
      refine seq_is (v := .tuple #[.agg #[.bool (decide (qn (x0n) (x0d) < 0)), x30.1.v, .bool (decide (qd (x0n) (x0d) < 0)), x30.2.v], .int .i64 (0)]) rfl (run_move rfl rfl) ?_
      (try simp only [Act.put, List.setIfInBounds_toArray, List.set_cons_zero, List.set_cons_succ])
      refine seq_is (v := .agg #[.bool (decide (qn (x0n) (x0d) < 0)), x30.1.v, .bool (decide (qd (x0n) (x0d) < 0)), x30.2.v]) rfl (run_extract rfl rfl rfl) ?_
      (try simp only [Act.put, List.setIfInBounds_toArray, List.set_cons_zero, List.set_cons_succ])
      refine seq_is (v := .int .i64 (0)) rfl (run_extract rfl rfl rfl) ?_
      (try simp only [Act.put, List.setIfInBounds_toArray, List.set_cons_zero, List.set_cons_succ])
      refine seq_alloc4 Z rfl rfl ?_; clear Z; intro g31 W Z
      (try simp only [Act.put, List.setIfInBounds_toArray, List.set_cons_zero, List.set_cons_succ])
      refine seq_store4 Z 0 rfl rfl rfl rfl rfl ?_; clear Z; intro W Z
      (try simp only [Act.put, List.setIfInBounds_toArray, List.set_cons_zero, List.set_cons_succ])
      refine seq_is (v := .int .i64 (0)) rfl (run_assign rfl rfl) ?_
      (try simp only [Act.put, List.setIfInBounds_toArray, List.set_cons_zero, List.set_cons_succ])
      show Code.wp _ _ _ _ _
      refine wp_seq ?_
      refine wp_seq ?_
      refine wp_region_list ?_
      refine seq_is (v := .int .i64 (0)) rfl (run_move rfl rfl) ?_
      (try simp only [Act.put, List.setIfInBounds_toArray, List.set_cons_zero, List.set_cons_succ])
      refine seq_is (v := .bool (decide ((0 : Int) ≠ (0)))) rfl (run_neqE rfl rfl rfl) ?_
      (try simp only [Act.put, List.setIfInBounds_toArray, List.set_cons_zero, List.set_cons_succ])
      refine seq_is (v := .bool (decide ((0 : Int) ≠ (0)))) rfl (run_move rfl rfl) ?_
      (try simp only [Act.put, List.setIfInBounds_toArray, List.set_cons_zero, List.set_cons_succ])
      refine list_want rfl rfl (congrArg some (congrArg Value.bool (Eq.refl false))) (wp_run (v := .agg #[.bool (decide (qn (((qn (((x0n) * (x1d)) + ((x1n) * (x0d))) ((x0d) * (x1d))) * (x1d)) - ((x1n) * (qd (((x0n) * (x1d)) + ((x1n) * (x0d))) ((x0d) * (x1d))))) ((qd (((x0n) * (x1d)) + ((x1n) * (x0d))) ((x0d) * (x1d))) * (x1d)) < 0)), x28.1.v, .bool (decide (qd (((qn (((x0n) * (x1d)) + ((x1n) * (x0d))) ((x0d) * (x1d))) * (x1d)) - ((x1n) * (qd (((x0n) * (x1d)) + ((x1n) * (x0d))) ((x0d) * (x1d))))) ((qd (((x0n) * (x1d)) + ((x1n) * (x0d))) ((x0d) * (x1d))) * (x1d)) < 0)), x28.2.v]) (run_load4 rfl rfl (Z.bx 1 rfl)) ?_)
      (try simp only [Act.put, List.setIfInBounds_toArray, List.set_cons_zero, List.set_cons_succ])
      refine list_want rfl rfl (congrArg some (congrArg Value.bool (Eq.refl false))) (wp_run (v := .agg #[.bool (decide (qn (x0n) (x0d) < 0)), x30.1.v, .bool (decide (qd (x0n) (x0d) < 0)), x30.2.v]) (run_load4 rfl rfl (Z.bx 0 rfl)) ?_)
      (try simp only [Act.put, List.setIfInBounds_toArray, List.set_cons_zero, List.set_cons_succ])
      refine seq_callw Z (fun h => list_want rfl rfl (congrArg some (congrArg Value.bool (Eq.refl false))) h) rfl Try.func15 rfl rfl (args2 rfl rfl) (Z.callV (sameQ (z1 := qn (((qn (((x0n) * (x1d)) + ((x1n) * (x0d))) ((x0d) * (x1d))) * (x1d)) - ((x1n) * (qd (((x0n) * (x1d)) + ((x1n) * (x0d))) ((x0d) * (x1d))))) ((qd (((x0n) * (x1d)) + ((x1n) * (x0d))) ((x0d) * (x1d))) * (x1d))) (z2 := qn (x0n) (x0d)) (y1 := qd (((qn (((x0n) * (x1d)) + ((x1n) * (x0d))) ((x0d) * (x1d))) * (x1d)) - ((x1n) * (qd (((x0n) * (x1d)) + ((x1n) * (x0d))) ((x0d) * (x1d))))) ((qd (((x0n) * (x1d)) + ((x1n) * (x0d))) ((x0d) * (x1d))) * (x1d))) (y2 := qd (x0n) (x0d)) (Z.rdO 2 rfl) (Z.rdO 3 rfl) (Z.rdO 0 rfl) (Z.rdO 1 rfl) (Bd.fm (Bd.abs (Bd.qn (Bd.sub (Bd.mul (Bd.qn (Bd.add (Bd.mul F0n F1d) (Bd.mul F1n F0d))) F1d) (Bd.mul F1n (Bd.qd (Bd.mul F0d F1d)))))) (by decide)) (Bd.fm (Bd.abs (Bd.qd (Bd.mul (Bd.qd (Bd.mul F0d F1d)) F1d))) (by decide)) (field_4 H.1.1 H.1.2).1 (field_4 H.1.1 H.1.2).2)) ?_; clear Z; intro x32 W Z
      (try simp only [Act.put, List.setIfInBounds_toArray, List.set_cons_zero, List.set_cons_succ])
      refine list_want rfl rfl (congrArg some (congrArg Value.bool (Eq.refl false))) (wp_run (v := .bool (!(true))) (run_not rfl rfl) ?_)
      (try simp only [Act.put, List.setIfInBounds_toArray, List.set_cons_zero, List.set_cons_succ])
      refine seq_is (v := .bool (!(true))) rfl (run_pickF rfl rfl rfl) ?_
      (try simp only [Act.put, List.setIfInBounds_toArray, List.set_cons_zero, List.set_cons_succ])
      show Code.wp _ _ _ _ _
      refine wp_cond_false rfl ?_
      refine wp_skip ?_
      show Code.wp _ _ _ _ _
      refine wp_seq ?_
      refine wp_seq ?_
      refine wp_region_list ?_
      refine seq_is (v := .pointer (some ⟨g2, 0, none⟩)) rfl (run_fieldR0 rfl rfl) ?_
      (try simp only [Act.put, List.setIfInBounds_toArray, List.set_cons_zero, List.set_cons_succ])
      refine seq_is (v := .agg #[.bool (b1n), .slice a1n len1n cap1n]) rfl (run_loadNum rfl rfl (Z.bx 12 rfl)) ?_
      (try simp only [Act.put, List.setIfInBounds_toArray, List.set_cons_zero, List.set_cons_succ])
      refine seq_call Z rfl rfl Try.func14 rfl rfl (args1 rfl) (Z.callV (trammelref02_Sign.sem (N1n _ _ (Z.rd 24 rfl)) (Bd.fm (Bd.abs F1n) (by decide)) )) ?_; clear Z; intro x33 W Z
      (try simp only [Act.put, List.setIfInBounds_toArray, List.set_cons_zero, List.set_cons_succ])
      refine seq_is (v := .bool (decide (((x1n).sign) = (0)))) rfl (run_eql rfl rfl rfl) ?_
      (try simp only [Act.put, List.setIfInBounds_toArray, List.set_cons_zero, List.set_cons_succ])
      show Code.wp _ _ _ _ _
      refine wp_cond_false ((show _ = Value.bool (decide (((x1n).sign) = (0))) from rfl).trans (congrArg Value.bool (sign0_f h3))) ?_
      refine wp_skip ?_
      show Code.wp _ _ _ _ _
      refine wp_seq ?_
      refine wp_region_list ?_
      refine seq_is (v := .agg #[.bool (decide (qn ((x0n) * (x1n)) ((x0d) * (x1d)) < 0)), x19.1.v, .bool (decide (qd ((x0n) * (x1n)) ((x0d) * (x1d)) < 0)), x19.2.v]) rfl (run_load4 rfl rfl (Z.bx 4 rfl)) ?_
      (try simp only [Act.put, List.setIfInBounds_toArray, List.set_cons_zero, List.set_cons_succ])
      refine seq_is (v := .agg #[.bool (b1n), .slice a1n len1n cap1n, .bool (b1d), .slice a1d len1d cap1d]) rfl (run_load4 rfl rfl (Z.bx 12 rfl)) ?_
      (try simp only [Act.put, List.setIfInBounds_toArray, List.set_cons_zero, List.set_cons_succ])
      refine seq_call Z rfl rfl Try.func28 rfl rfl (args2 rfl rfl) (Z.callQi (rat_Div.semN (Z.own 8 rfl (Bd.fm (Bd.abs (Bd.qn (Bd.mul F0n F1n))) (by decide))) (Z.own 9 rfl (Bd.fm (Bd.abs (Bd.qd (Bd.mul F0d F1d))) (by decide))) (N1n _ _ (Z.rd 24 rfl)) (N1d _ _ (Z.rd 25 rfl)) (Bd.mono (Bd.qn (Bd.mul F0n F1n)) (by decide)) (Bd.mono (Bd.qd (Bd.mul F0d F1d)) (by decide)) (Bd.mono F1n (by decide)) (Bd.mono F1d (by decide)) (qd_pos (pos_ne (Int.mul_pos H.1.1 H.1.2))) H.1.2 h3)) ?_; clear Z; intro x34 W Z
      (try simp only [Act.put, List.setIfInBounds_toArray, List.set_cons_zero, List.set_cons_succ])
      refine seq_is (v := .tuple #[.agg #[.bool (decide (qn ((qn ((x0n) * (x1n)) ((x0d) * (x1d))) * (x1d)) ((qd ((x0n) * (x1n)) ((x0d) * (x1d))) * (x1n)) < 0)), x34.1.v, .bool (decide (qd ((qn ((x0n) * (x1n)) ((x0d) * (x1d))) * (x1d)) ((qd ((x0n) * (x1n)) ((x0d) * (x1d))) * (x1n)) < 0)), x34.2.v], .int .i64 (0)]) rfl (run_move rfl rfl) ?_
      (try simp only [Act.put, List.setIfInBounds_toArray, List.set_cons_zero, List.set_cons_succ])
      refine seq_is (v := .agg #[.bool (decide (qn ((qn ((x0n) * (x1n)) ((x0d) * (x1d))) * (x1d)) ((qd ((x0n) * (x1n)) ((x0d) * (x1d))) * (x1n)) < 0)), x34.1.v, .bool (decide (qd ((qn ((x0n) * (x1n)) ((x0d) * (x1d))) * (x1d)) ((qd ((x0n) * (x1n)) ((x0d) * (x1d))) * (x1n)) < 0)), x34.2.v]) rfl (run_extract rfl rfl rfl) ?_
      (try simp only [Act.put, List.setIfInBounds_toArray, List.set_cons_zero, List.set_cons_succ])
      refine seq_is (v := .int .i64 (0)) rfl (run_extract rfl rfl rfl) ?_
      (try simp only [Act.put, List.setIfInBounds_toArray, List.set_cons_zero, List.set_cons_succ])
      refine seq_alloc4 Z rfl rfl ?_; clear Z; intro g35 W Z
      (try simp only [Act.put, List.setIfInBounds_toArray, List.set_cons_zero, List.set_cons_succ])
      refine seq_store4 Z 0 rfl rfl rfl rfl rfl ?_; clear Z; intro W Z
      (try simp only [Act.put, List.setIfInBounds_toArray, List.set_cons_zero, List.set_cons_succ])
      refine seq_is (v := .int .i64 (0)) rfl (run_assign rfl rfl) ?_
      (try simp only [Act.put, List.setIfInBounds_toArray, List.set_cons_zero, List.set_cons_succ])
      show Code.wp _ _ _ _ _
      refine wp_seq ?_
      refine wp_region_list ?_
      refine seq_is (v := .int .i64 (0)) rfl (run_move rfl rfl) ?_
      (try simp only [Act.put, List.setIfInBounds_toArray, List.set_cons_zero, List.set_cons_succ])
      refine seq_is (v := .bool (decide ((0 : Int) = (0)))) rfl (run_eqlE rfl rfl rfl) ?_
      (try simp only [Act.put, List.setIfInBounds_toArray, List.set_cons_zero, List.set_cons_succ])
      refine seq_is (v := .bool (decide ((0 : Int) = (0)))) rfl (run_move rfl rfl) ?_
      (try simp only [Act.put, List.setIfInBounds_toArray, List.set_cons_zero, List.set_cons_succ])
      refine list_want rfl rfl (congrArg some (congrArg Value.bool (Eq.refl true))) (wp_run (v := .agg #[.bool (decide (qn ((qn ((x0n) * (x1n)) ((x0d) * (x1d))) * (x1d)) ((qd ((x0n) * (x1n)) ((x0d) * (x1d))) * (x1n)) < 0)), x34.1.v, .bool (decide (qd ((qn ((x0n) * (x1n)) ((x0d) * (x1d))) * (x1d)) ((qd ((x0n) * (x1n)) ((x0d) * (x1d))) * (x1n)) < 0)), x34.2.v]) (run_load4 rfl rfl (Z.bx 0 rfl)) ?_)
      (try simp only [Act.put, List.setIfInBounds_toArray, List.set_cons_zero, List.set_cons_succ])
      refine list_want rfl rfl (congrArg some (congrArg Value.bool (Eq.refl true))) (wp_run (v := .agg #[.bool (decide (qn (x0n) (x0d) < 0)), x30.1.v, .bool (decide (qd (x0n) (x0d) < 0)), x30.2.v]) (run_load4 rfl rfl (Z.bx 1 rfl)) ?_)
      (try simp only [Act.put, List.setIfInBounds_toArray, List.set_cons_zero, List.set_cons_succ])
      refine seq_callw Z (fun h => list_want rfl rfl (congrArg some (congrArg Value.bool (Eq.refl true))) h) rfl Try.func15 rfl rfl (args2 rfl rfl) (Z.callV (sameQ (z1 := qn ((qn ((x0n) * (x1n)) ((x0d) * (x1d))) * (x1d)) ((qd ((x0n) * (x1n)) ((x0d) * (x1d))) * (x1n))) (z2 := qn (x0n) (x0d)) (y1 := qd ((qn ((x0n) * (x1n)) ((x0d) * (x1d))) * (x1d)) ((qd ((x0n) * (x1n)) ((x0d) * (x1d))) * (x1n))) (y2 := qd (x0n) (x0d)) (Z.rdO 0 rfl) (Z.rdO 1 rfl) (Z.rdO 2 rfl) (Z.rdO 3 rfl) (Bd.fm (Bd.abs (Bd.qn (Bd.mul (Bd.qn (Bd.mul F0n F1n)) F1d))) (by decide)) (Bd.fm (Bd.abs (Bd.qd (Bd.mul (Bd.qd (Bd.mul F0d F1d)) F1n))) (by decide)) (field_5 H.1.1 H.1.2 h3).1 (field_5 H.1.1 H.1.2 h3).2)) ?_; clear Z; intro x36 W Z
      (try simp only [Act.put, List.setIfInBounds_toArray, List.set_cons_zero, List.set_cons_succ])
      refine seq_is (v := .bool (tt)) rfl (run_castR (run_pickT rfl rfl rfl) htt.symm) ?_
      (try simp only [Act.put, List.setIfInBounds_toArray, List.set_cons_zero, List.set_cons_succ])
      refine seq_is (v := .bool (tt)) rfl (run_assign rfl rfl) ?_
      (try simp only [Act.put, List.setIfInBounds_toArray, List.set_cons_zero, List.set_cons_succ])
      show Code.wp _ _ _ _ _
      refine wp_ret ?_
      exact Z.endsV rfl rfl rfl (by first | rfl | exact (congrArg Value.bool htt) | simp)
  · rcases (Classical.em (0 < x0d ∧ 0 < x1d)) with H1 | H1
    · go_enter Try.func10, Try.ntmps10
      refine wp_seq ?_
      refine wp_region_list ?_
      refine seq_box4 Z rfl rfl rfl ?_; clear Z; intro g1 W Z
      (try simp only [Act.put, List.setIfInBounds_toArray, List.set_cons_zero, List.set_cons_succ])
      refine seq_box4 Z rfl rfl rfl ?_; clear Z; intro g2 W Z
      (try simp only [Act.put, List.setIfInBounds_toArray, List.set_cons_zero, List.set_cons_succ])
      refine seq_box4 Z rfl rfl rfl ?_; clear Z; intro g3 W Z
      (try simp only [Act.put, List.setIfInBounds_toArray, List.set_cons_zero, List.set_cons_succ])
      refine seq_is (v := .bool (false)) rfl (run_assign rfl rfl) ?_
      (try simp only [Act.put, List.setIfInBounds_toArray, List.set_cons_zero, List.set_cons_succ])
      show Code.wp _ _ _ _ _
      refine wp_seq ?_
      refine wp_seq ?_
      refine wp_region_list ?_
      refine seq_call Z rfl rfl Try.func16 rfl rfl (show Array.map _ #[] = #[] by simp) (Z.callV (trammellaw03_awake.sem _)) ?_; clear Z; intro x4 W Z
      (try simp only [Act.put, List.setIfInBounds_toArray, List.set_cons_zero, List.set_cons_succ])
      refine seq_is (v := .bool (!(true))) rfl (run_not rfl rfl) ?_
      (try simp only [Act.put, List.setIfInBounds_toArray, List.set_cons_zero, List.set_cons_succ])
      show Code.wp _ _ _ _ _
      refine wp_cond_false rfl ?_
      refine wp_skip ?_
      show Code.wp _ _ _ _ _
      refine wp_seq ?_
      refine wp_seq ?_
      refine wp_region_list ?_
      refine seq_is (v := .agg #[.bool (b0n), .slice a0n len0n cap0n, .bool (b0d), .slice a0d len0d cap0d]) rfl (run_load4 rfl rfl (Z.bx 2 rfl)) ?_
      (try simp only [Act.put, List.setIfInBounds_toArray, List.set_cons_zero, List.set_cons_succ])
      refine seq_is (v := .agg #[.bool (b1n), .slice a1n len1n cap1n, .bool (b1d), .slice a1d len1d cap1d]) rfl (run_load4 rfl rfl (Z.bx 1 rfl)) ?_
      (try simp only [Act.put, List.setIfInBounds_toArray, List.set_cons_zero, List.set_cons_succ])
      refine seq_call Z rfl rfl Try.func21 rfl rfl (args2 rfl rfl) (Z.callV (trammellaw03_both.sem (N0n _ _ (Z.rd 0 rfl)) (N0d _ _ (Z.rd 1 rfl)) (N1n _ _ (Z.rd 2 rfl)) (N1d _ _ (Z.rd 3 rfl)) (Bd.mono F0d (by decide)) (Bd.mono F1d (by decide)))) ?_; clear Z; intro x5 W Z
      (try simp only [Act.put, List.setIfInBounds_toArray, List.set_cons_zero, List.set_cons_succ])
      refine seq_is (v := .bool (!(okB2 (x0d) (x1d)))) rfl (run_not rfl rfl) ?_
      (try simp only [Act.put, List.setIfInBounds_toArray, List.set_cons_zero, List.set_cons_succ])
      refine seq_is (v := .bool (!(okB2 (x0d) (x1d)))) rfl (run_move rfl rfl) ?_
      (try simp only [Act.put, List.setIfInBounds_toArray, List.set_cons_zero, List.set_cons_succ])
      refine list_want rfl rfl (congrArg some (congrArg Value.bool (congrArg Bool.not (okB2_t H1)))) (wp_run (v := .agg #[.bool (b2n), .slice a2n len2n cap2n, .bool (b2d), .slice a2d len2d cap2d]) (run_load4 rfl rfl (Z.bx 0 rfl)) ?_)
      (try simp only [Act.put, List.setIfInBounds_toArray, List.set_cons_zero, List.set_cons_succ])
      refine seq_callw Z (fun h => list_want rfl rfl (congrArg some (congrArg Value.bool (congrArg Bool.not (okB2_t H1)))) h) rfl Try.func31 rfl rfl (args1 rfl) (Z.callV (trammellaw03_ok.sem (N2n _ _ (Z.rd 4 rfl)) (N2d _ _ (Z.rd 5 rfl)) (Bd.mono F2d (by decide)))) ?_; clear Z; intro x6 W Z
      (try simp only [Act.put, List.setIfInBounds_toArray, List.set_cons_zero, List.set_cons_succ])
      refine list_want rfl rfl (congrArg some (congrArg Value.bool (congrArg Bool.not (okB2_t H1)))) (wp_run (v := .bool (!(okB1 (x2d)))) (run_not rfl rfl) ?_)
      (try simp only [Act.put, List.setIfInBounds_toArray, List.set_cons_zero, List.set_cons_succ])
      refine seq_is (v := .bool (!(okB1 (x2d)))) rfl (run_pickF rfl ((show _ = Value.bool (!(okB2 (x0d) (x1d))) from rfl).trans (congrArg Value.bool (congrArg Bool.not (okB2_t H1)))) rfl) ?_
      (try simp only [Act.put, List.setIfInBounds_toArray, List.set_cons_zero, List.set_cons_succ])
      show Code.wp _ _ _ _ _
      refine wp_cond_true ((show _ = Value.bool (!(okB1 (x2d))) from rfl).trans (congrArg Value.bool (congrArg Bool.not (decide_eq_false (fun h => H ⟨H1, h⟩))))) ?_
      refine wp_seq ?_
      refine wp_region_list ?_
      refine seq_is (v := .bool (true)) rfl (run_assign rfl rfl) ?_
      (try simp only [Act.put, List.setIfInBounds_toArray, List.set_cons_zero, List.set_cons_succ])
      show Code.wp _ _ _ _ _
      refine wp_ret ?_
      exact Z.endsV rfl rfl rfl rfl
    · go_enter Try.func10, Try.ntmps10
      refine wp_seq ?_
      refine wp_region_list ?_
      refine seq_box4 Z rfl rfl rfl ?_; clear Z; intro g1 W Z
      (try simp only [Act.put, List.setIfInBounds_toArray, List.set_cons_zero, List.set_cons_succ])
      refine seq_box4 Z rfl rfl rfl ?_; clear Z; intro g2 W Z
      (try simp only [Act.put, List.setIfInBounds_toArray, List.set_cons_zero, List.set_cons_succ])
      refine seq_box4 Z rfl rfl rfl ?_; clear Z; intro g3 W Z
      (try simp only [Act.put, List.setIfInBounds_toArray, List.set_cons_zero, List.set_cons_succ])
      refine seq_is (v := .bool (false)) rfl (run_assign rfl rfl) ?_
      (try simp only [Act.put, List.setIfInBounds_toArray, List.set_cons_zero, List.set_cons_succ])
      show Code.wp _ _ _ _ _
      refine wp_seq ?_
      refine wp_seq ?_
      refine wp_region_list ?_
      refine seq_call Z rfl rfl Try.func16 rfl rfl (show Array.map _ #[] = #[] by simp) (Z.callV (trammellaw03_awake.sem _)) ?_; clear Z; intro x4 W Z
      (try simp only [Act.put, List.setIfInBounds_toArray, List.set_cons_zero, List.set_cons_succ])
      refine seq_is (v := .bool (!(true))) rfl (run_not rfl rfl) ?_
      (try simp only [Act.put, List.setIfInBounds_toArray, List.set_cons_zero, List.set_cons_succ])
      show Code.wp _ _ _ _ _
      refine wp_cond_false rfl ?_
      refine wp_skip ?_
      show Code.wp _ _ _ _ _
      refine wp_seq ?_
      refine wp_seq ?_
      refine wp_region_list ?_
      refine seq_is (v := .agg #[.bool (b0n), .slice a0n len0n cap0n, .bool (b0d), .slice a0d len0d cap0d]) rfl (run_load4 rfl rfl (Z.bx 2 rfl)) ?_
      (try simp only [Act.put, List.setIfInBounds_toArray, List.set_cons_zero, List.set_cons_succ])
      refine seq_is (v := .agg #[.bool (b1n), .slice a1n len1n cap1n, .bool (b1d), .slice a1d len1d cap1d]) rfl (run_load4 rfl rfl (Z.bx 1 rfl)) ?_
      (try simp only [Act.put, List.setIfInBounds_toArray, List.set_cons_zero, List.set_cons_succ])
      refine seq_call Z rfl rfl Try.func21 rfl rfl (args2 rfl rfl) (Z.callV (trammellaw03_both.sem (N0n _ _ (Z.rd 0 rfl)) (N0d _ _ (Z.rd 1 rfl)) (N1n _ _ (Z.rd 2 rfl)) (N1d _ _ (Z.rd 3 rfl)) (Bd.mono F0d (by decide)) (Bd.mono F1d (by decide)))) ?_; clear Z; intro x5 W Z
      (try simp only [Act.put, List.setIfInBounds_toArray, List.set_cons_zero, List.set_cons_succ])
      refine seq_is (v := .bool (!(okB2 (x0d) (x1d)))) rfl (run_not rfl rfl) ?_
      (try simp only [Act.put, List.setIfInBounds_toArray, List.set_cons_zero, List.set_cons_succ])
      refine seq_is (v := .bool (!(okB2 (x0d) (x1d)))) rfl (run_move rfl rfl) ?_
      (try simp only [Act.put, List.setIfInBounds_toArray, List.set_cons_zero, List.set_cons_succ])
      refine list_unwant rfl rfl (congrArg some (congrArg Value.bool (congrArg Bool.not (okB2_f H1)))) (by decide) ?_
      (try simp only [Act.put, List.setIfInBounds_toArray, List.set_cons_zero, List.set_cons_succ])
      refine list_unwant rfl rfl (congrArg some (congrArg Value.bool (congrArg Bool.not (okB2_f H1)))) (by decide) ?_
      (try simp only [Act.put, List.setIfInBounds_toArray, List.set_cons_zero, List.set_cons_succ])
      refine list_unwant rfl rfl (congrArg some (congrArg Value.bool (congrArg Bool.not (okB2_f H1)))) (by decide) ?_
      (try simp only [Act.put, List.setIfInBounds_toArray, List.set_cons_zero, List.set_cons_succ])
      refine seq_is (v := .bool (tt)) rfl (run_castR (run_pickT rfl ((show _ = Value.bool (!(okB2 (x0d) (x1d))) from rfl).trans (congrArg Value.bool (congrArg Bool.not (okB2_f H1)))) rfl) htt.symm) ?_
      (try simp only [Act.put, List.setIfInBounds_toArray, List.set_cons_zero, List.set_cons_succ])
      show Code.wp _ _ _ _ _
      refine wp_cond_true ((show _ = Value.bool (tt) from rfl).trans (congrArg Value.bool htt)) ?_
      refine wp_seq ?_
      refine wp_region_list ?_
      refine seq_is (v := .bool (true)) rfl (run_assign rfl rfl) ?_
      (try simp only [Act.put, List.setIfInBounds_toArray, List.set_cons_zero, List.set_cons_succ])
      show Code.wp _ _ _ _ _
      refine wp_ret ?_
      exact Z.endsV rfl rfl rfl rfl

end Go.Proofs.Ytndopanohhdfgaa.PA

