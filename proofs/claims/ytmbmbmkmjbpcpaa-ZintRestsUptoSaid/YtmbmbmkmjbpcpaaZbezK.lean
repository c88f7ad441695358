/- The walk of Bezout. -/
import Derived.Outline
import Derived.Test.YtmbmbmkmjbpcpaaZJK
import Derived.Test.YtmbmbmkmjbpcpaaPAx0K
namespace Go.Proofs.Ytmbmbmkmjbpcpaa.PA
open Go Go.Proofs.Ytmbmbmkmjbpcpaa.Nums Go.RowKit Go.Proofs.YtmbmbmkmjbpcpaaW.PrintWords Go.Proofs.YtmbmbmkmjbpcpaaW.PrintLast Go.Proofs.YtmbmbmkmjbpcpaaW.PrintMore
set_option linter.unusedVariables false
set_option linter.unusedSimpArgs false
set_option maxHeartbeats 4000000 in
set_option maxRecDepth 100000 in
theorem zint_Bezout.sem0 {w : World} {b1 : Bool} {v1 : Value} {z1 : Int} {b2 : Bool} {v2 : Value} {z2 : Int} (m1 : NumV w b1 v1 z1) (m2 : NumV w b2 v2 z2) (hb1 : Bd 40000000 z1) (hb2 : Bd 40000000 z2) (h0 : z2 = 0) : Calls Try.prog 59 #[.agg #[.bool b1, v1], .agg #[.bool b2, v2]] w (ResIII w (bezG z1 z2) (bezX z1 z2) (bezY z1 z2)) := by
  obtain ⟨A1, n1, c1, rfl⟩ := m1.form
  obtain ⟨A2, n2, c2, rfl⟩ := m2.form
  have Z := Zt.begin2 m1 m2
  have hsg := sign0_t h0
  have hsr := sign_rng z1
  go_enter Try.func59, Try.ntmps59
  refine wp_seq ?_
  refine wp_region_list ?_
  refine seq_box Z rfl rfl rfl ?_; clear Z; intro g1 W Z
  (try simp only [Act.put, List.setIfInBounds_toArray, List.set_cons_zero, List.set_cons_succ])
  refine seq_box Z rfl rfl rfl ?_; clear Z; intro g2 W Z
  (try simp only [Act.put, List.setIfInBounds_toArray, List.set_cons_zero, List.set_cons_succ])
  refine seq_alloc Z rfl rfl ?_; clear Z; intro g3 W Z
  (try simp only [Act.put, List.setIfInBounds_toArray, List.set_cons_zero, List.set_cons_succ])
  refine seq_alloc Z rfl rfl ?_; clear Z; intro g4 W Z
  (try simp only [Act.put, List.setIfInBounds_toArray, List.set_cons_zero, List.set_cons_succ])
  refine seq_alloc Z rfl rfl ?_; clear Z; intro g5 W Z
  (try simp only [Act.put, List.setIfInBounds_toArray, List.set_cons_zero, List.set_cons_succ])
  show Code.wp _ _ _ _ _
  refine wp_seq ?_
  refine wp_seq ?_
  refine wp_region_list ?_
  refine seq_is (v := .agg #[.bool (b2), .slice A2 n2 c2]) rfl (run_load2 rfl rfl (Z.bx 3 rfl)) ?_
  (try simp only [Act.put, List.setIfInBounds_toArray, List.set_cons_zero, List.set_cons_succ])
  refine seq_call Z rfl rfl Try.func36 rfl rfl (args1 rfl) (Z.callV (zint_Sign.sem (Z.num 1 rfl)  )) ?_; clear Z; intro x6 W Z
  (try simp only [Act.put, List.setIfInBounds_toArray, List.set_cons_zero, List.set_cons_succ])
  refine seq_is (v := .bool (decide (((z2).sign) = (0)))) rfl (run_eql rfl rfl rfl) ?_
  (try simp only [Act.put, List.setIfInBounds_toArray, List.set_cons_zero, List.set_cons_succ])
  show Code.wp _ _ _ _ _
  refine wp_cond_true ((show _ = Value.bool (decide (((z2).sign) = (0))) from rfl).trans (congrArg Value.bool hsg)) ?_
  refine wp_seq ?_
  refine wp_dag3 (pre := [_, _, _, _, _, _]) (sps := [.is (.agg #[.bool (b1), .slice A1 n1 c1]), spI w ((((z1)).natAbs : Nat)), .is (.agg #[.bool (b1), .slice A1 n1 c1]), .is (.int .i64 ((z1).sign)), spI w ((z1).sign), .is (.agg #[.bool (false), .slice none 0 0])]) Z (by kernel_rfl) _ rfl (by kernel_rfl) (by kernel_rfl) (by kernel_rfl) rfl (fun _ _ d _ _ h => by cases d <;> exact h) ⟨?_, ?_, ?_, ?_, ?_, ?_, trivial⟩ ?_
  · intro a e7 W Q Z; exact step_is (fun _ h => op_plain rfl rfl h) (run_load2 rfl (ev e7) (Z.bx 4 rfl))
  · intro a x9 e10 W Q Z; exact step_call (fun _ h => op_plain rfl rfl h) rfl Try.func27 rfl rfl (args1 (ev e10)) (Z.callI (zint_Abs.sem (Z.num 0 rfl)  ))
  · intro a e12 W Q Z; exact step_is (fun _ h => op_plain rfl rfl h) (run_load2 rfl (ev e12) (Z.bx 4 rfl))
  · intro a x14 e15 W Q Z; exact step_call (fun _ h => op_plain rfl rfl h) rfl Try.func36 rfl rfl (args1 (ev e15)) (Z.callV (zint_Sign.sem (Z.num 0 rfl)  ))
  · intro a x17 e18 W Q Z; exact step_call (fun _ h => op_plain rfl rfl h) rfl Try.func30 rfl rfl (args1 (ev e18)) (Z.callI (zint_Of.sem (by omega) (by omega)))
  · intro a W Q Z; exact step_is (fun _ h => op_plain rfl rfl h) (run_build0 rfl)
  clear Z; intro x8 x11 x13 x16 x19 x20 W Z
  (try simp only [Act.put, List.setIfInBounds_toArray, List.set_cons_zero, List.set_cons_succ])
  refine seq_store Z 2 rfl rfl rfl rfl rfl ?_; clear Z; intro W Z
  (try simp only [Act.put, List.setIfInBounds_toArray, List.set_cons_zero, List.set_cons_succ])
  refine seq_store Z 1 rfl rfl rfl rfl rfl ?_; clear Z; intro W Z
  (try simp only [Act.put, List.setIfInBounds_toArray, List.set_cons_zero, List.set_cons_succ])
  refine seq_store Z 0 rfl rfl rfl rfl rfl ?_; clear Z; intro W Z
  (try simp only [Act.put, List.setIfInBounds_toArray, List.set_cons_zero, List.set_cons_succ])
  show Code.wp _ _ _ _ _
  refine wp_ret ?_
  exact Z.nought.endsIII (d := 0) (u' := undef) 2 2 1 1 0 0 rfl rfl rfl rfl rfl rfl rfl rfl rfl rfl rfl (by exact (bez_none h0).1) (by exact (bez_none h0).2.1) (by exact (bez_none h0).2.2)
set_option maxHeartbeats 4000000 in
set_option maxRecDepth 100000 in
theorem zint_Bezout.semN {w : World} {b1 : Bool} {v1 : Value} {z1 : Int} {b2 : Bool} {v2 : Value} {z2 : Int} (m1 : NumV w b1 v1 z1) (m2 : NumV w b2 v2 z2) (hb1 : Bd 40000000 z1) (hb2 : Bd 40000000 z2) (h0 : z2 ≠ 0) : Calls Try.prog 59 #[.agg #[.bool b1, v1], .agg #[.bool b2, v2]] w (ResIII w (bezG z1 z2) (bezX z1 z2) (bezY z1 z2)) := by
  obtain ⟨A1, n1, c1, rfl⟩ := m1.form
  obtain ⟨A2, n2, c2, rfl⟩ := m2.form
  have Z := Zt.begin2 m1 m2
  have hsg := sign0_f h0
  go_enter Try.func59, Try.ntmps59
  refine wp_seq ?_
  refine wp_region_list ?_
  refine seq_box Z rfl rfl rfl ?_; clear Z; intro g1 W Z
  (try simp only [Act.put, List.setIfInBounds_toArray, List.set_cons_zero, List.set_cons_succ])
  refine seq_box Z rfl rfl rfl ?_; clear Z; intro g2 W Z
  (try simp only [Act.put, List.setIfInBounds_toArray, List.set_cons_zero, List.set_cons_succ])
  refine seq_alloc Z rfl rfl ?_; clear Z; intro g3 W Z
  (try simp only [Act.put, List.setIfInBounds_toArray, List.set_cons_zero, List.set_cons_succ])
  refine seq_alloc Z rfl rfl ?_; clear Z; intro g4 W Z
  (try simp only [Act.put, List.setIfInBounds_toArray, List.set_cons_zero, List.set_cons_succ])
  refine seq_alloc Z rfl rfl ?_; clear Z; intro g5 W Z
  (try simp only [Act.put, List.setIfInBounds_toArray, List.set_cons_zero, List.set_cons_succ])
  show Code.wp _ _ _ _ _
  refine wp_seq ?_
  refine wp_seq ?_
  refine wp_region_list ?_
  refine seq_is (v := .agg #[.bool (b2), .slice A2 n2 c2]) rfl (run_load2 rfl rfl (Z.bx 3 rfl)) ?_
  (try simp only [Act.put, List.setIfInBounds_toArray, List.set_cons_zero, List.set_cons_succ])
  refine seq_call Z rfl rfl Try.func36 rfl rfl (args1 rfl) (Z.callV (zint_Sign.sem (Z.num 1 rfl)  )) ?_; clear Z; intro x6 W Z
  (try simp only [Act.put, List.setIfInBounds_toArray, List.set_cons_zero, List.set_cons_succ])
  refine seq_is (v := .bool (decide (((z2).sign) = (0)))) rfl (run_eql rfl rfl rfl) ?_
  (try simp only [Act.put, List.setIfInBounds_toArray, List.set_cons_zero, List.set_cons_succ])
  show Code.wp _ _ _ _ _
  refine wp_cond_false ((show _ = Value.bool (decide (((z2).sign) = (0))) from rfl).trans (congrArg Value.bool hsg)) ?_
  refine wp_skip ?_
  show Code.wp _ _ _ _ _
  refine wp_seq ?_
  refine wp_dag (pre := [_, _, _, _, _, _]) (sps := [.is (.agg #[.bool (b1), .slice A1 n1 c1]), spI w ((z1)), .is (.agg #[.bool (b2), .slice A2 n2 c2]), spI w ((z2)), .box 25 #[.bool false, .slice none 0 0], .box 25 #[.bool false, .slice none 0 0]]) Z (by kernel_rfl) _ rfl (by kernel_rfl) (by kernel_rfl) rfl ⟨?_, ?_, ?_, ?_, ?_, ?_, trivial⟩ ?_
  · intro a e7 W Q Z; exact step_is (fun _ h => op_plain rfl rfl h) (run_load2 rfl (ev e7) (Z.bx 4 rfl))
  · intro a x9 e10 W Q Z; exact step_call (fun _ h => op_plain rfl rfl h) rfl Try.func32 rfl rfl (args1 (ev e10)) (Z.callI (zint_Form.sem (Z.num 0 rfl)  ))
  · intro a e12 W Q Z; exact step_is (fun _ h => op_plain rfl rfl h) (run_load2 rfl (ev e12) (Z.bx 3 rfl))
  · intro a x14 e15 W Q Z; exact step_call (fun _ h => op_plain rfl rfl h) rfl Try.func32 rfl rfl (args1 (ev e15)) (Z.callI (zint_Form.sem (Z.num 1 rfl)  ))
  · intro a W Q Z; exact step_box (fun _ h => op_plain rfl rfl h) (by decide) (run_alloc2 rfl)
  · intro a W Q Z; exact step_box (fun _ h => op_plain rfl rfl h) (by decide) (run_alloc2 rfl)
  clear Z; intro x8 x11 x13 x16 g17 g18 W Z
  (try simp only [Act.put, List.setIfInBounds_toArray, List.set_cons_zero, List.set_cons_succ])
  refine seq_store Z 1 rfl rfl rfl rfl rfl ?_; clear Z; intro W Z
  (try simp only [Act.put, List.setIfInBounds_toArray, List.set_cons_zero, List.set_cons_succ])
  refine seq_store Z 0 rfl rfl rfl rfl rfl ?_; clear Z; intro W Z
  (try simp only [Act.put, List.setIfInBounds_toArray, List.set_cons_zero, List.set_cons_succ])
  show Code.wp _ _ _ _ _
  refine wp_seq ?_
  refine wp_region_list ?_
  refine seq_call Z rfl rfl Try.func30 rfl rfl (args1 rfl) (Z.callI (zint_Of.sem (by omega) (by omega))) ?_; clear Z; intro x19 W Z
  (try simp only [Act.put, List.setIfInBounds_toArray, List.set_cons_zero, List.set_cons_succ])
  refine seq_is (v := .agg #[.bool (false), .slice none 0 0]) rfl (run_build0 rfl) ?_
  (try simp only [Act.put, List.setIfInBounds_toArray, List.set_cons_zero, List.set_cons_succ])
  refine seq_alloc Z rfl rfl ?_; clear Z; intro g20 W Z
  (try simp only [Act.put, List.setIfInBounds_toArray, List.set_cons_zero, List.set_cons_succ])
  refine seq_alloc Z rfl rfl ?_; clear Z; intro g21 W Z
  (try simp only [Act.put, List.setIfInBounds_toArray, List.set_cons_zero, List.set_cons_succ])
  refine seq_store Z 1 rfl rfl rfl rfl rfl ?_; clear Z; intro W Z
  (try simp only [Act.put, List.setIfInBounds_toArray, List.set_cons_zero, List.set_cons_succ])
  refine seq_store Z 0 rfl rfl rfl rfl rfl ?_; clear Z; intro W Z
  (try simp only [Act.put, List.setIfInBounds_toArray, List.set_cons_zero, List.set_cons_succ])
  show Code.wp _ _ _ _ _
  refine wp_seq ?_
  refine wp_block ?_
  replace Z := Z.nought
  refine wp_loop_s (α := Int × Int × Int × Int × Sl × Sl × Sl × Sl) (fun (r, s, x, u, pr, ps, px, pu) a W => ∃ (j11_5 j12_5 j13_5 j35_5 j36_5 j37_5 j38_5 j39_5 j40_5 j41_5 j42_5 j43_5 j44_5 j45_5 j46_5 j47_5 j48_5 j49_5 j50_5 j51_5 j52_5 : Value), a = { tmps := #[.agg #[.bool (b1), .slice A1 n1 c1], .agg #[.bool (b2), .slice A2 n2 c2], .pointer (some ⟨g1, 0, none⟩), .pointer (some ⟨g2, 0, none⟩), .pointer (some ⟨g3, 0, none⟩), .pointer (some ⟨g4, 0, none⟩), .pointer (some ⟨g5, 0, none⟩), .pointer (some ⟨g17, 0, none⟩), .pointer (some ⟨g18, 0, none⟩), .pointer (some ⟨g20, 0, none⟩), .pointer (some ⟨g21, 0, none⟩), j11_5, j12_5, j13_5, undef, undef, undef, undef, undef, undef, .agg #[.bool (b2), .slice A2 n2 c2], .int .i64 ((z2).sign), .bool (decide (((z2).sign) = (0))), undef, undef, undef, undef, undef, undef, .agg #[.bool (b1), .slice A1 n1 c1], .agg #[.bool (decide ((z1) < 0)), x11.v], .agg #[.bool (b2), .slice A2 n2 c2], .agg #[.bool (decide ((z2) < 0)), x16.v], .agg #[.bool (decide ((1 : Int) < 0)), x19.v], .agg #[.bool (false), .slice none 0 0], j35_5, j36_5, j37_5, j38_5, j39_5, j40_5, j41_5, j42_5, j43_5, j44_5, j45_5, j46_5, j47_5, j48_5, j49_5, j50_5, j51_5, j52_5, undef, undef, undef, undef, undef, undef, undef, undef, undef, undef, undef, undef, undef, undef, undef, undef, undef, undef, undef, undef, undef, undef, undef, undef, undef, undef, undef, undef, undef, undef, undef, undef, undef, undef, undef, undef], defers := [] } ∧ Zt w W [(pr.v, tyO w (mg r)), (ps.v, tyO w (mg s)), (px.v, tyO w (mg x)), (pu.v, tyO w (mg u)), (.slice A1 n1 c1, tyN b1 z1), (.slice A2 n2 c2, tyN b2 z2)] [(g21, 25, #[.bool (decide (u < 0)), pu.v]), (g20, 25, #[.bool (decide (x < 0)), px.v]), (g18, 25, #[.bool (decide (s < 0)), ps.v]), (g17, 25, #[.bool (decide (r < 0)), pr.v]), (g5, 25, #[.bool (false), .slice none 0 0]), (g4, 25, #[.bool (false), .slice none 0 0]), (g3, 25, #[.bool (false), .slice none 0 0]), (g2, 25, #[.bool (b2), .slice A2 n2 c2]), (g1, 25, #[.bool (b1), .slice A1 n1 c1])] ∧ (BzI z1 z2 r s x u)) (fun (r, s, x, u, pr, ps, px, pu) => s.natAbs) (z1, z2, 1, 0, x11, x16, x19, ⟨none, 0, 0⟩) ⟨_, _, _, _, _, _, _, _, _, _, _, _, _, _, _, _, _, _, _, _, _, rfl, (Z.retype (has_cons (Z.has 3 rfl) (has_cons (Z.has 2 rfl) (has_cons (Z.has 1 rfl) (has_cons (Z.has 0 rfl) (has_cons (Z.has 4 rfl) (has_cons (Z.has 5 rfl) (Has.nil _ _)))))))), BzI.start h0⟩ ?_
  clear Z; rintro ⟨r, s, x, u, pr, ps, px, pu⟩ a W ⟨j11_5, j12_5, j13_5, j35_5, j36_5, j37_5, j38_5, j39_5, j40_5, j41_5, j42_5, j43_5, j44_5, j45_5, j46_5, j47_5, j48_5, j49_5, j50_5, j51_5, j52_5, rfl, Z, hI⟩
  have hbr := hI.bdr hb1 hb2
  have hbs := hI.bds hb2
  have hbx := hI.bdx hb2
  have hbu := hI.bdu hb2
  refine wp_seq ?_
  refine wp_seq ?_
  refine wp_region_list ?_
  refine seq_is (v := .agg #[.bool (decide (s < 0)), ps.v]) rfl (run_load2 rfl rfl (Z.bx 2 rfl)) ?_
  (try simp only [Act.put, List.setIfInBounds_toArray, List.set_cons_zero, List.set_cons_succ])
  refine seq_call Z rfl rfl Try.func36 rfl rfl (args1 rfl) (Z.callV (zint_Sign.sem (Z.own 1 rfl (Bd.fm (Bd.abs hbs) (by decide)))  )) ?_; clear Z; intro x22 W Z
  (try simp only [Act.put, List.setIfInBounds_toArray, List.set_cons_zero, List.set_cons_succ])
  refine seq_is (v := .bool (decide (((s).sign) ≠ (0)))) rfl (run_neq rfl rfl rfl) ?_
  (try simp only [Act.put, List.setIfInBounds_toArray, List.set_cons_zero, List.set_cons_succ])
  show Code.wp _ _ _ _ _
  refine wp_cond_split (t := decide (((s).sign) ≠ (0))) rfl ?_ ?_
  · intro hc23
    have hs0 := sgn_non hc23
    refine wp_skip ?_
    show Code.wp _ _ _ _ _
    refine wp_block ?_
    refine wp_seq ?_
    refine wp_region_list ?_
    refine seq_is (v := .agg #[.bool (decide (r < 0)), pr.v]) rfl (run_load2 rfl rfl (Z.bx 3 rfl)) ?_
    (try simp only [Act.put, List.setIfInBounds_toArray, List.set_cons_zero, List.set_cons_succ])
    refine seq_is (v := .agg #[.bool (decide (s < 0)), ps.v]) rfl (run_load2 rfl rfl (Z.bx 2 rfl)) ?_
    (try simp only [Act.put, List.setIfInBounds_toArray, List.set_cons_zero, List.set_cons_succ])
    refine seq_call Z rfl rfl Try.func51 rfl rfl (args2 rfl rfl) (Z.callIIi (zint_Floor.sem (Z.own 0 rfl (Bd.fm (Bd.abs hbr) (by decide))) (Z.own 1 rfl (Bd.fm (Bd.abs hbs) (by decide)))  (Bd.mono hbr (by decide)) (Bd.mono hbs (by decide)) hs0)) ?_; clear Z; intro x24 W Z
    (try simp only [Act.put, List.setIfInBounds_toArray, List.set_cons_zero, List.set_cons_succ])
    refine seq_is (v := .tuple #[.agg #[.bool (decide ((r : Int).fdiv (s) < 0)), x24.1.v], .agg #[.bool (decide ((r : Int).fmod (s) < 0)), x24.2.v], .int .i64 (0)]) rfl (run_move rfl rfl) ?_
    (try simp only [Act.put, List.setIfInBounds_toArray, List.set_cons_zero, List.set_cons_succ])
    refine seq_is (v := .agg #[.bool (decide ((r : Int).fdiv (s) < 0)), x24.1.v]) rfl (run_extract rfl rfl rfl) ?_
    (try simp only [Act.put, List.setIfInBounds_toArray, List.set_cons_zero, List.set_cons_succ])
    refine seq_is (v := .agg #[.bool (decide ((r : Int).fmod (s) < 0)), x24.2.v]) rfl (run_extract rfl rfl rfl) ?_
    (try simp only [Act.put, List.setIfInBounds_toArray, List.set_cons_zero, List.set_cons_succ])
    refine seq_is (v := .int .i64 (0)) rfl (run_extract rfl rfl rfl) ?_
    (try simp only [Act.put, List.setIfInBounds_toArray, List.set_cons_zero, List.set_cons_succ])
    refine seq_alloc Z rfl rfl ?_; clear Z; intro g25 W Z
    (try simp only [Act.put, List.setIfInBounds_toArray, List.set_cons_zero, List.set_cons_succ])
    refine seq_alloc Z rfl rfl ?_; clear Z; intro g26 W Z
    (try simp only [Act.put, List.setIfInBounds_toArray, List.set_cons_zero, List.set_cons_succ])
    refine seq_store Z 1 rfl rfl rfl rfl rfl ?_; clear Z; intro W Z
    (try simp only [Act.put, List.setIfInBounds_toArray, List.set_cons_zero, List.set_cons_succ])
    refine seq_store Z 0 rfl rfl rfl rfl rfl ?_; clear Z; intro W Z
    (try simp only [Act.put, List.setIfInBounds_toArray, List.set_cons_zero, List.set_cons_succ])
    refine seq_is (v := .int .i64 (0)) rfl (run_assign rfl rfl) ?_
    (try simp only [Act.put, List.setIfInBounds_toArray, List.set_cons_zero, List.set_cons_succ])
    show Code.wp _ _ _ _ _
    refine wp_seq ?_
    refine wp_orders_k (act' := { tmps := #[.agg #[.bool (b1), .slice A1 n1 c1], .agg #[.bool (b2), .slice A2 n2 c2], .pointer (some ⟨g1, 0, none⟩), .pointer (some ⟨g2, 0, none⟩), .pointer (some ⟨g3, 0, none⟩), .pointer (some ⟨g4, 0, none⟩), .pointer (some ⟨g5, 0, none⟩), .pointer (some ⟨g17, 0, none⟩), .pointer (some ⟨g18, 0, none⟩), .pointer (some ⟨g20, 0, none⟩), .pointer (some ⟨g21, 0, none⟩), .pointer (some ⟨g25, 0, none⟩), .pointer (some ⟨g26, 0, none⟩), .int .i64 (0), undef, undef, undef, undef, undef, undef, .agg #[.bool (b2), .slice A2 n2 c2], .int .i64 ((z2).sign), .bool (decide (((z2).sign) = (0))), undef, undef, undef, undef, undef, undef, .agg #[.bool (b1), .slice A1 n1 c1], .agg #[.bool (decide ((z1) < 0)), x11.v], .agg #[.bool (b2), .slice A2 n2 c2], .agg #[.bool (decide ((z2) < 0)), x16.v], .agg #[.bool (decide ((1 : Int) < 0)), x19.v], .agg #[.bool (false), .slice none 0 0], .agg #[.bool (decide (s < 0)), ps.v], .int .i64 ((s).sign), .bool (decide (((s).sign) ≠ (0))), .tuple #[.agg #[.bool (decide ((r : Int).fdiv (s) < 0)), x24.1.v], .agg #[.bool (decide ((r : Int).fmod (s) < 0)), x24.2.v], .int .i64 (0)], .agg #[.bool (decide (r < 0)), pr.v], .agg #[.bool (decide (s < 0)), ps.v], .tuple #[.agg #[.bool (decide ((r : Int).fdiv (s) < 0)), x24.1.v], .agg #[.bool (decide ((r : Int).fmod (s) < 0)), x24.2.v], .int .i64 (0)], .agg #[.bool (decide ((r : Int).fdiv (s) < 0)), x24.1.v], .agg #[.bool (decide ((r : Int).fmod (s) < 0)), x24.2.v], .int .i64 (0), .agg #[.bool (decide (s < 0)), ps.v], .agg #[.bool (decide ((r : Int).fmod (s) < 0)), x24.2.v], j47_5, j48_5, j49_5, j50_5, j51_5, j52_5, undef, undef, undef, undef, undef, undef, undef, undef, undef, undef, undef, undef, undef, undef, undef, undef, undef, undef, undef, undef, undef, undef, undef, undef, undef, undef, undef, undef, undef, undef, undef, undef, undef, undef, undef, undef], defers := [] }) (ts' := [(x24.1.v, tyO w (mg ((r : Int).fdiv (s)))), (x24.2.v, tyO w (mg ((r : Int).fmod (s)))), (pr.v, tyO w (mg r)), (ps.v, tyO w (mg s)), (px.v, tyO w (mg x)), (pu.v, tyO w (mg u)), (.slice A1 n1 c1, tyN b1 z1), (.slice A2 n2 c2, tyN b2 z2)]) (bs' := [(g26, 25, #[.bool (decide ((r : Int).fmod (s) < 0)), x24.2.v]), (g25, 25, #[.bool (decide ((r : Int).fdiv (s) < 0)), x24.1.v]), (g21, 25, #[.bool (decide (u < 0)), pu.v]), (g20, 25, #[.bool (decide (x < 0)), px.v]), (g18, 25, #[.bool (decide ((r : Int).fmod (s) < 0)), x24.2.v]), (g17, 25, #[.bool (decide (s < 0)), ps.v]), (g5, 25, #[.bool (false), .slice none 0 0]), (g4, 25, #[.bool (false), .slice none 0 0]), (g3, 25, #[.bool (false), .slice none 0 0]), (g2, 25, #[.bool (b2), .slice A2 n2 c2]), (g1, 25, #[.bool (b1), .slice A1 n1 c1])]) Z (by kernel_rfl) [[0, 1, 2, 3], [0, 2, 1, 3], [1, 0, 2, 3]] (by kernel_rfl) (fun K W Z o ho => ?_) (fun W Z => ?_)
    · simp only [List.mem_cons, List.not_mem_nil, or_false] at ho; rcases ho with rfl | rfl | rfl
      · show wpList _ _ _ [_, _, _, _] _ _
        refine seq_is (v := .agg #[.bool (decide (s < 0)), ps.v]) rfl (run_load2 rfl rfl (Z.bx 4 rfl)) ?_
        (try simp only [Act.put, List.setIfInBounds_toArray, List.set_cons_zero, List.set_cons_succ])
        refine seq_is (v := .agg #[.bool (decide ((r : Int).fmod (s) < 0)), x24.2.v]) rfl (run_load2 rfl rfl (Z.bx 0 rfl)) ?_
        (try simp only [Act.put, List.setIfInBounds_toArray, List.set_cons_zero, List.set_cons_succ])
        refine seq_store Z 5 rfl rfl rfl rfl rfl ?_; clear Z; intro W Z
        (try simp only [Act.put, List.setIfInBounds_toArray, List.set_cons_zero, List.set_cons_succ])
        refine seq_store Z 4 rfl rfl rfl rfl rfl ?_; clear Z; intro W Z
        (try simp only [Act.put, List.setIfInBounds_toArray, List.set_cons_zero, List.set_cons_succ])
        exact K _ Z
      · show wpList _ _ _ [_, _, _, _] _ _
        refine seq_is (v := .agg #[.bool (decide (s < 0)), ps.v]) rfl (run_load2 rfl rfl (Z.bx 4 rfl)) ?_
        (try simp only [Act.put, List.setIfInBounds_toArray, List.set_cons_zero, List.set_cons_succ])
        refine seq_store Z 5 rfl rfl rfl rfl rfl ?_; clear Z; intro W Z
        (try simp only [Act.put, List.setIfInBounds_toArray, List.set_cons_zero, List.set_cons_succ])
        refine seq_is (v := .agg #[.bool (decide ((r : Int).fmod (s) < 0)), x24.2.v]) rfl (run_load2 rfl rfl (Z.bx 0 rfl)) ?_
        (try simp only [Act.put, List.setIfInBounds_toArray, List.set_cons_zero, List.set_cons_succ])
        refine seq_store Z 4 rfl rfl rfl rfl rfl ?_; clear Z; intro W Z
        (try simp only [Act.put, List.setIfInBounds_toArray, List.set_cons_zero, List.set_cons_succ])
        exact K _ Z
      · show wpList _ _ _ [_, _, _, _] _ _
        refine seq_is (v := .agg #[.bool (decide ((r : Int).fmod (s) < 0)), x24.2.v]) rfl (run_load2 rfl rfl (Z.bx 0 rfl)) ?_
        (try simp only [Act.put, List.setIfInBounds_toArray, List.set_cons_zero, List.set_cons_succ])
        refine seq_is (v := .agg #[.bool (decide (s < 0)), ps.v]) rfl (run_load2 rfl rfl (Z.bx 4 rfl)) ?_
        (try simp only [Act.put, List.setIfInBounds_toArray, List.set_cons_zero, List.set_cons_succ])
        refine seq_store Z 5 rfl rfl rfl rfl rfl ?_; clear Z; intro W Z
        (try simp only [Act.put, List.setIfInBounds_toArray, List.set_cons_zero, List.set_cons_succ])
        refine seq_store Z 4 rfl rfl rfl rfl rfl ?_; clear Z; intro W Z
        (try simp only [Act.put, List.setIfInBounds_toArray, List.set_cons_zero, List.set_cons_succ])
        exact K _ Z
    · show Code.wp _ _ _ _ _
      refine wp_dag (pre := [_, _, _, _, _, _]) (sps := [.is (.agg #[.bool (decide (u < 0)), pu.v]), .is (.agg #[.bool (decide (x < 0)), px.v]), .is (.agg #[.bool (decide ((r : Int).fdiv (s) < 0)), x24.1.v]), .is (.agg #[.bool (decide (u < 0)), pu.v]), spI w (((r : Int).fdiv (s)) * (u)), spI w ((x) - (((r : Int).fdiv (s)) * (u)))]) Z (by kernel_rfl) _ rfl (by kernel_rfl) (by kernel_rfl) rfl ⟨?_, ?_, ?_, ?_, ?_, ?_, trivial⟩ ?_
      · intro a e27 W Q Z; exact step_is (fun _ h => op_plain rfl rfl h) (run_load2 rfl (ev e27) (Z.bx 2 rfl))
      · intro a e29 W Q Z; exact step_is (fun _ h => op_plain rfl rfl h) (run_load2 rfl (ev e29) (Z.bx 3 rfl))
      · intro a e31 W Q Z; exact step_is (fun _ h => op_plain rfl rfl h) (run_load2 rfl (ev e31) (Z.bx 1 rfl))
      · intro a e33 W Q Z; exact step_is (fun _ h => op_plain rfl rfl h) (run_load2 rfl (ev e33) (Z.bx 2 rfl))
      · intro a x35 e36 x37 e38 W Q Z; exact step_call (fun _ h => op_plain rfl rfl h) rfl Try.func23 rfl rfl (args2 (ev e36) (ev e38)) (Z.callI (zint_Mul.sem (Z.own 0 rfl (Bd.fm (Bd.abs (fdiv_bd hbr)) (by decide))) (Z.own 5 rfl (Bd.fm (Bd.abs hbu) (by decide))) (Bd.fm (Bd.mul (Bd.abs (fdiv_bd hbr)) (Bd.abs hbu)) (by decide)) ))
      · intro a x40 e41 x42 e43 W Q Z; exact step_call (fun _ h => op_plain rfl rfl h) rfl Try.func21 rfl rfl (args2 (ev e41) (ev e43)) (Z.callI (zint_Sub.sem (Z.own 5 rfl (Bd.fm (Bd.abs hbx) (by decide))) (Z.own 0 rfl (Bd.fm (Bd.abs (Bd.mul (fdiv_bd hbr) hbu)) (by decide))) (Bd.fm (Bd.abs (Bd.neg (Bd.mul (fdiv_bd hbr) hbu))) (by decide)) (Bd.fm (Bd.add (Bd.abs hbx) (Bd.abs (Bd.neg (Bd.mul (fdiv_bd hbr) hbu)))) (by decide)) (Bd.fm (Bd.sub (Bd.abs (Bd.neg (Bd.mul (fdiv_bd hbr) hbu))) (Bd.abs hbx)) (by decide)) (Bd.fm (Bd.sub (Bd.abs hbx) (Bd.abs (Bd.neg (Bd.mul (fdiv_bd hbr) hbu)))) (by decide)) ))
      clear Z; intro x28 x30 x32 x34 x39 x44 W Z
      (try simp only [Act.put, List.setIfInBounds_toArray, List.set_cons_zero, List.set_cons_succ])
      refine seq_store Z 3 rfl rfl rfl rfl rfl ?_; clear Z; intro W Z
      (try simp only [Act.put, List.setIfInBounds_toArray, List.set_cons_zero, List.set_cons_succ])
      refine seq_store Z 2 rfl rfl rfl rfl rfl ?_; clear Z; intro W Z
      (try simp only [Act.put, List.setIfInBounds_toArray, List.set_cons_zero, List.set_cons_succ])
      exact ⟨(s, (r : Int).fmod (s), u, (x) - (((r : Int).fdiv (s)) * (u)), ps, x24.2, pu, x44), (fm_rng hs0).1, _, _, _, _, _, _, _, _, _, _, _, _, _, _, _, _, _, _, _, _, _, rfl, (((Z.forget 0).forget 0).retype (has_cons (Z.has 5 rfl) (has_cons (Z.has 3 rfl) (has_cons (Z.has 7 rfl) (has_cons (Z.has 0 rfl) (has_cons (Z.has 8 rfl) (has_cons (Z.has 9 rfl) (Has.nil _ _)))))))), hI.step hs0⟩
  · intro hc23
    refine wp_exit ?_
    show Code.wp _ _ _ _ _
    refine wp_seq ?_
    refine wp_seq ?_
    have hS := sgn_zero hc23
    obtain ⟨hO1, hO2⟩ := hI.out hS
    have hG0 := bezG_pos (a := z1) h0
    obtain ⟨hP1, hP2⟩ := bez_step (a := z1) h0
    refine wp_region_list ?_
    refine seq_is (v := .agg #[.bool (decide (r < 0)), pr.v]) rfl (run_load2 rfl rfl (Z.bx 3 rfl)) ?_
    (try simp only [Act.put, List.setIfInBounds_toArray, List.set_cons_zero, List.set_cons_succ])
    refine seq_call Z rfl rfl Try.func36 rfl rfl (args1 rfl) (Z.callV (zint_Sign.sem (Z.own 0 rfl (Bd.fm (Bd.abs hbr) (by decide)))  )) ?_; clear Z; intro x45 W Z
    (try simp only [Act.put, List.setIfInBounds_toArray, List.set_cons_zero, List.set_cons_succ])
    refine seq_is (v := .bool (decide (((r).sign) < (0)))) rfl (run_lss rfl rfl rfl) ?_
    (try simp only [Act.put, List.setIfInBounds_toArray, List.set_cons_zero, List.set_cons_succ])
    show Code.wp _ _ _ _ _
    refine wp_cond_split (t := decide (((r).sign) < (0))) rfl ?_ ?_
    · intro hc46
      refine wp_dag (pre := [_, _, _, _]) (sps := [.is (.agg #[.bool (decide (r < 0)), pr.v]), spI w (-(r)), .is (.agg #[.bool (decide (x < 0)), px.v]), spI w (-(x))]) Z (by kernel_rfl) _ rfl (by kernel_rfl) (by kernel_rfl) rfl ⟨?_, ?_, ?_, ?_, trivial⟩ ?_
      · intro a e47 W Q Z; exact step_is (fun _ h => op_plain rfl rfl h) (run_load2 rfl (ev e47) (Z.bx 3 rfl))
      · intro a x49 e50 W Q Z; exact step_call (fun _ h => op_plain rfl rfl h) rfl Try.func25 rfl rfl (args1 (ev e50)) (Z.callI (zint_Neg.sem (Z.own 0 rfl (Bd.fm (Bd.abs hbr) (by decide)))  ))
      · intro a e52 W Q Z; exact step_is (fun _ h => op_plain rfl rfl h) (run_load2 rfl (ev e52) (Z.bx 1 rfl))
      · intro a x54 e55 W Q Z; exact step_call (fun _ h => op_plain rfl rfl h) rfl Try.func25 rfl rfl (args1 (ev e55)) (Z.callI (zint_Neg.sem (Z.own 2 rfl (Bd.fm (Bd.abs hbx) (by decide)))  ))
      clear Z; intro x48 x51 x53 x56 W Z
      (try simp only [Act.put, List.setIfInBounds_toArray, List.set_cons_zero, List.set_cons_succ])
      refine seq_store Z 3 rfl rfl rfl rfl rfl ?_; clear Z; intro W Z
      (try simp only [Act.put, List.setIfInBounds_toArray, List.set_cons_zero, List.set_cons_succ])
      refine seq_store Z 1 rfl rfl rfl rfl rfl ?_; clear Z; intro W Z
      (try simp only [Act.put, List.setIfInBounds_toArray, List.set_cons_zero, List.set_cons_succ])
      show Code.wp _ _ _ _ _
      refine wp_seq ?_
      have hX : (-x : Int) = if r < 0 then -x else x := by rw [if_pos (sign_neg hc46)]
      have hG : (-r : Int) = ((r.natAbs : Nat) : Int) := by have := sign_neg hc46; omega
      have hG1 := hG.trans hO2
      have hF := bez_fin h0 hI hS hG hX
      refine wp_dag2 (pre := [_, _, _, _, _, _, _, _, _, _]) (sps := [.is (.agg #[.bool (b2), .slice A2 n2 c2]), spI w ((((z2)).natAbs : Nat)), .is (.agg #[.bool (decide (-(r) < 0)), x51.v]), spIIi w (((((z2)).natAbs : Nat) : Int).fdiv (-(r))) (((((z2)).natAbs : Nat) : Int).fmod (-(r))) (.int .i64 (0)), spIIi w (((((z2)).natAbs : Nat) : Int).fdiv (-(r))) (((((z2)).natAbs : Nat) : Int).fmod (-(r))) (.int .i64 (0)), spI w (((((z2)).natAbs : Nat) : Int).fdiv (-(r))), spI w (((((z2)).natAbs : Nat) : Int).fmod (-(r))), .is (.int .i64 (0)), .box 25 #[.bool false, .slice none 0 0], .box 25 #[.bool false, .slice none 0 0]]) Z (by kernel_rfl) _ rfl (by kernel_rfl) (by kernel_rfl) (by kernel_rfl) rfl (fun _ _ d _ _ h => by cases d <;> exact h) ⟨?_, ?_, ?_, ?_, ?_, ?_, ?_, ?_, ?_, ?_, trivial⟩ ?_
      · intro a e57 W Q Z; exact step_is (fun _ h => op_plain rfl rfl h) (run_load2 rfl (ev e57) (Z.bx 7 rfl))
      · intro a x59 e60 W Q Z; exact step_call (fun _ h => op_plain rfl rfl h) rfl Try.func27 rfl rfl (args1 (ev e60)) (Z.callI (zint_Abs.sem (Z.num 7 rfl)  ))
      · intro a e62 W Q Z; exact step_is (fun _ h => op_plain rfl rfl h) (run_load2 rfl (ev e62) (Z.bx 3 rfl))
      · intro a x64 e65 x66 e67 W Q Z; exact step_call (fun _ h => op_plain rfl rfl h) rfl Try.func51 rfl rfl (args2 (ev e65) (ev e67)) (Z.callIIi (zint_Floor.sem (Z.own 0 rfl (Bd.fm (Bd.abs (Bd.abs hb2)) (by decide))) (Z.own 2 rfl (Bd.fm (Bd.abs (Bd.neg hbr)) (by decide)))  (Bd.mono (Bd.abs hb2) (by decide)) (Bd.mono (Bd.neg hbr) (by decide)) (show _ ≠ (0 : Int) by rw [hG1]; omega)))
      · intro a x69 e70 W Q Z; exact step_val x69 (fun _ h => op_plain rfl rfl h) (run_move rfl (ev e70)) (has_two (Z.has 0 rfl) (Z.has 1 rfl))
      · intro a x72 e73 W Q Z; exact step_val x72.1 (fun _ h => op_plain rfl rfl h) (run_extract rfl (ev e73) rfl) (has_one (Z.has 0 rfl))
      · intro a x75 e76 W Q Z; exact step_val x75.2 (fun _ h => op_plain rfl rfl h) (run_extract rfl (ev e76) rfl) (has_one (Z.has 1 rfl))
      · intro a x78 e79 W Q Z; exact step_is (fun _ h => op_plain rfl rfl h) (run_extract rfl (ev e79) rfl)
      · intro a W Q Z; exact step_box (fun _ h => op_plain rfl rfl h) (by decide) (run_alloc2 rfl)
      · intro a W Q Z; exact step_box (fun _ h => op_plain rfl rfl h) (by decide) (run_alloc2 rfl)
      clear Z; intro x58 x61 x63 x68 x71 x74 x77 x80 g81 g82 W Z
      (try simp only [Act.put, List.setIfInBounds_toArray, List.set_cons_zero, List.set_cons_succ])
      refine seq_store Z 1 rfl rfl rfl rfl rfl ?_; clear Z; intro W Z
      (try simp only [Act.put, List.setIfInBounds_toArray, List.set_cons_zero, List.set_cons_succ])
      refine seq_store Z 0 rfl rfl rfl rfl rfl ?_; clear Z; intro W Z
      (try simp only [Act.put, List.setIfInBounds_toArray, List.set_cons_zero, List.set_cons_succ])
      refine seq_is (v := .int .i64 (0)) rfl (run_assign rfl rfl) ?_
      (try simp only [Act.put, List.setIfInBounds_toArray, List.set_cons_zero, List.set_cons_succ])
      show Code.wp _ _ _ _ _
      refine wp_seq ?_
      refine wp_region_list ?_
      refine seq_is (v := .agg #[.bool (decide (-(x) < 0)), x56.v]) rfl (run_load2 rfl rfl (Z.bx 3 rfl)) ?_
      (try simp only [Act.put, List.setIfInBounds_toArray, List.set_cons_zero, List.set_cons_succ])
      refine seq_is (v := .agg #[.bool (decide (((((z2)).natAbs : Nat) : Int).fdiv (-(r)) < 0)), x74.v]) rfl (run_load2 rfl rfl (Z.bx 1 rfl)) ?_
      (try simp only [Act.put, List.setIfInBounds_toArray, List.set_cons_zero, List.set_cons_succ])
      refine seq_call Z rfl rfl Try.func51 rfl rfl (args2 rfl rfl) (Z.callIIi (zint_Floor.sem (Z.own 7 rfl (Bd.fm (Bd.abs (Bd.neg hbx)) (by decide))) (Z.own 1 rfl (Bd.fm (Bd.abs (fdiv_bd (Bd.abs hb2))) (by decide)))  (Bd.mono (Bd.neg hbx) (by decide)) (Bd.mono (fdiv_bd (Bd.abs hb2)) (by decide)) (show _ ≠ (0 : Int) by rw [hG1]; omega))) ?_; clear Z; intro x83 W Z
      (try simp only [Act.put, List.setIfInBounds_toArray, List.set_cons_zero, List.set_cons_succ])
      refine seq_is (v := .tuple #[.agg #[.bool (decide ((-(x) : Int).fdiv (((((z2)).natAbs : Nat) : Int).fdiv (-(r))) < 0)), x83.1.v], .agg #[.bool (decide ((-(x) : Int).fmod (((((z2)).natAbs : Nat) : Int).fdiv (-(r))) < 0)), x83.2.v], .int .i64 (0)]) rfl (run_move rfl rfl) ?_
      (try simp only [Act.put, List.setIfInBounds_toArray, List.set_cons_zero, List.set_cons_succ])
      refine seq_is (v := .agg #[.bool (decide ((-(x) : Int).fdiv (((((z2)).natAbs : Nat) : Int).fdiv (-(r))) < 0)), x83.1.v]) rfl (run_extract rfl rfl rfl) ?_
      (try simp only [Act.put, List.setIfInBounds_toArray, List.set_cons_zero, List.set_cons_succ])
      refine seq_is (v := .agg #[.bool (decide ((-(x) : Int).fmod (((((z2)).natAbs : Nat) : Int).fdiv (-(r))) < 0)), x83.2.v]) rfl (run_extract rfl rfl rfl) ?_
      (try simp only [Act.put, List.setIfInBounds_toArray, List.set_cons_zero, List.set_cons_succ])
      refine seq_is (v := .int .i64 (0)) rfl (run_extract rfl rfl rfl) ?_
      (try simp only [Act.put, List.setIfInBounds_toArray, List.set_cons_zero, List.set_cons_succ])
      refine seq_store Z 3 rfl rfl rfl rfl rfl ?_; clear Z; intro W Z
      (try simp only [Act.put, List.setIfInBounds_toArray, List.set_cons_zero, List.set_cons_succ])
      show Code.wp _ _ _ _ _
      refine wp_seq ?_
      refine wp_dag2 (pre := [_, _, _, _, _, _, _, _, _, _, _, _, _]) (sps := [.is (.agg #[.bool (decide (-(r) < 0)), x51.v]), .is (.agg #[.bool (decide ((-(x) : Int).fmod (((((z2)).natAbs : Nat) : Int).fdiv (-(r))) < 0)), x83.2.v]), .is (.agg #[.bool (b1), .slice A1 n1 c1]), spI w (((-(x) : Int).fmod (((((z2)).natAbs : Nat) : Int).fdiv (-(r)))) * (z1)), spI w ((-(r)) - (((-(x) : Int).fmod (((((z2)).natAbs : Nat) : Int).fdiv (-(r)))) * (z1))), .is (.agg #[.bool (b2), .slice A2 n2 c2]), spIIi w (((-(r)) - (((-(x) : Int).fmod (((((z2)).natAbs : Nat) : Int).fdiv (-(r)))) * (z1)) : Int).fdiv (z2)) (((-(r)) - (((-(x) : Int).fmod (((((z2)).natAbs : Nat) : Int).fdiv (-(r)))) * (z1)) : Int).fmod (z2)) (.int .i64 (0)), spIIi w (((-(r)) - (((-(x) : Int).fmod (((((z2)).natAbs : Nat) : Int).fdiv (-(r)))) * (z1)) : Int).fdiv (z2)) (((-(r)) - (((-(x) : Int).fmod (((((z2)).natAbs : Nat) : Int).fdiv (-(r)))) * (z1)) : Int).fmod (z2)) (.int .i64 (0)), spI w (((-(r)) - (((-(x) : Int).fmod (((((z2)).natAbs : Nat) : Int).fdiv (-(r)))) * (z1)) : Int).fdiv (z2)), spI w (((-(r)) - (((-(x) : Int).fmod (((((z2)).natAbs : Nat) : Int).fdiv (-(r)))) * (z1)) : Int).fmod (z2)), .is (.int .i64 (0)), .box 25 #[.bool false, .slice none 0 0], .box 25 #[.bool false, .slice none 0 0]]) Z (by kernel_rfl) _ rfl (by kernel_rfl) (by kernel_rfl) (by kernel_rfl) rfl (fun _ _ d _ _ h => by cases d <;> exact h) ⟨?_, ?_, ?_, ?_, ?_, ?_, ?_, ?_, ?_, ?_, ?_, ?_, ?_, trivial⟩ ?_
      · intro a e84 W Q Z; exact step_is (fun _ h => op_plain rfl rfl h) (run_load2 rfl (ev e84) (Z.bx 5 rfl))
      · intro a e86 W Q Z; exact step_is (fun _ h => op_plain rfl rfl h) (run_load2 rfl (ev e86) (Z.bx 3 rfl))
      · intro a e88 W Q Z; exact step_is (fun _ h => op_plain rfl rfl h) (run_load2 rfl (ev e88) (Z.bx 10 rfl))
      · intro a x90 e91 x92 e93 W Q Z; exact step_call (fun _ h => op_plain rfl rfl h) rfl Try.func23 rfl rfl (args2 (ev e91) (ev e93)) (Z.callI (zint_Mul.sem (Z.own 1 rfl (Bd.fm (Bd.abs (fmod_bd (k := 0) (show _ ≠ (0 : Int) by rw [hG1]; omega) (fdiv_bd (Bd.abs hb2)))) (by decide))) (Z.num 15 rfl) (Bd.fm (Bd.mul (Bd.abs (fmod_bd (k := 0) (show _ ≠ (0 : Int) by rw [hG1]; omega) (fdiv_bd (Bd.abs hb2)))) (Bd.abs hb1)) (by decide)) ))
      · intro a x95 e96 x97 e98 W Q Z; exact step_call (fun _ h => op_plain rfl rfl h) rfl Try.func21 rfl rfl (args2 (ev e96) (ev e98)) (Z.callI (zint_Sub.sem (Z.own 11 rfl (Bd.fm (Bd.abs (Bd.neg hbr)) (by decide))) (Z.own 0 rfl (Bd.fm (Bd.abs (Bd.mul (fmod_bd (k := 0) (show _ ≠ (0 : Int) by rw [hG1]; omega) (fdiv_bd (Bd.abs hb2))) hb1)) (by decide))) (Bd.fm (Bd.abs (Bd.neg (Bd.mul (fmod_bd (k := 0) (show _ ≠ (0 : Int) by rw [hG1]; omega) (fdiv_bd (Bd.abs hb2))) hb1))) (by decide)) (Bd.fm (Bd.add (Bd.abs (Bd.neg hbr)) (Bd.abs (Bd.neg (Bd.mul (fmod_bd (k := 0) (show _ ≠ (0 : Int) by rw [hG1]; omega) (fdiv_bd (Bd.abs hb2))) hb1)))) (by decide)) (Bd.fm (Bd.sub (Bd.abs (Bd.neg (Bd.mul (fmod_bd (k := 0) (show _ ≠ (0 : Int) by rw [hG1]; omega) (fdiv_bd (Bd.abs hb2))) hb1))) (Bd.abs (Bd.neg hbr))) (by decide)) (Bd.fm (Bd.sub (Bd.abs (Bd.neg hbr)) (Bd.abs (Bd.neg (Bd.mul (fmod_bd (k := 0) (show _ ≠ (0 : Int) by rw [hG1]; omega) (fdiv_bd (Bd.abs hb2))) hb1)))) (by decide)) ))
      · intro a e100 W Q Z; exact step_is (fun _ h => op_plain rfl rfl h) (run_load2 rfl (ev e100) (Z.bx 9 rfl))
      · intro a x102 e103 x104 e105 W Q Z; exact step_call (fun _ h => op_plain rfl rfl h) rfl Try.func51 rfl rfl (args2 (ev e103) (ev e105)) (Z.callIIi (zint_Floor.sem (Z.own 0 rfl (Bd.fm (Bd.abs (Bd.sub (Bd.neg hbr) (Bd.mul (fmod_bd (k := 0) (show _ ≠ (0 : Int) by rw [hG1]; omega) (fdiv_bd (Bd.abs hb2))) hb1))) (by decide))) (Z.num 17 rfl)  (Bd.mono (Bd.sub (Bd.neg hbr) (Bd.mul (fmod_bd (k := 0) (show _ ≠ (0 : Int) by rw [hG1]; omega) (fdiv_bd (Bd.abs hb2))) hb1)) (by decide)) (Bd.mono hb2 (by decide)) h0))
      · intro a x107 e108 W Q Z; exact step_val x107 (fun _ h => op_plain rfl rfl h) (run_move rfl (ev e108)) (has_two (Z.has 0 rfl) (Z.has 1 rfl))
      · intro a x110 e111 W Q Z; exact step_val x110.1 (fun _ h => op_plain rfl rfl h) (run_extract rfl (ev e111) rfl) (has_one (Z.has 0 rfl))
      · intro a x113 e114 W Q Z; exact step_val x113.2 (fun _ h => op_plain rfl rfl h) (run_extract rfl (ev e114) rfl) (has_one (Z.has 1 rfl))
      · intro a x116 e117 W Q Z; exact step_is (fun _ h => op_plain rfl rfl h) (run_extract rfl (ev e117) rfl)
      · intro a W Q Z; exact step_box (fun _ h => op_plain rfl rfl h) (by decide) (run_alloc2 rfl)
      · intro a W Q Z; exact step_box (fun _ h => op_plain rfl rfl h) (by decide) (run_alloc2 rfl)
      clear Z; intro x85 x87 x89 x94 x99 x101 x106 x109 x112 x115 x118 g119 g120 W Z
      (try simp only [Act.put, List.setIfInBounds_toArray, List.set_cons_zero, List.set_cons_succ])
      refine seq_store Z 1 rfl rfl rfl rfl rfl ?_; clear Z; intro W Z
      (try simp only [Act.put, List.setIfInBounds_toArray, List.set_cons_zero, List.set_cons_succ])
      refine seq_store Z 0 rfl rfl rfl rfl rfl ?_; clear Z; intro W Z
      (try simp only [Act.put, List.setIfInBounds_toArray, List.set_cons_zero, List.set_cons_succ])
      refine seq_is (v := .int .i64 (0)) rfl (run_assign rfl rfl) ?_
      (try simp only [Act.put, List.setIfInBounds_toArray, List.set_cons_zero, List.set_cons_succ])
      show Code.wp _ _ _ _ _
      refine wp_seq ?_
      refine wp_orders_k (act' := { tmps := #[.agg #[.bool (b1), .slice A1 n1 c1], .agg #[.bool (b2), .slice A2 n2 c2], .pointer (some ⟨g1, 0, none⟩), .pointer (some ⟨g2, 0, none⟩), .pointer (some ⟨g3, 0, none⟩), .pointer (some ⟨g4, 0, none⟩), .pointer (some ⟨g5, 0, none⟩), .pointer (some ⟨g17, 0, none⟩), .pointer (some ⟨g18, 0, none⟩), .pointer (some ⟨g20, 0, none⟩), .pointer (some ⟨g21, 0, none⟩), j11_5, j12_5, j13_5, .pointer (some ⟨g81, 0, none⟩), .pointer (some ⟨g82, 0, none⟩), .int .i64 (0), .pointer (some ⟨g119, 0, none⟩), .pointer (some ⟨g120, 0, none⟩), .int .i64 (0), .agg #[.bool (b2), .slice A2 n2 c2], .int .i64 ((z2).sign), .bool (decide (((z2).sign) = (0))), undef, undef, undef, undef, undef, undef, .agg #[.bool (b1), .slice A1 n1 c1], .agg #[.bool (decide ((z1) < 0)), x11.v], .agg #[.bool (b2), .slice A2 n2 c2], .agg #[.bool (decide ((z2) < 0)), x16.v], .agg #[.bool (decide ((1 : Int) < 0)), x19.v], .agg #[.bool (false), .slice none 0 0], .agg #[.bool (decide (s < 0)), ps.v], .int .i64 ((s).sign), .bool (decide (((s).sign) ≠ (0))), j38_5, j39_5, j40_5, j41_5, j42_5, j43_5, j44_5, j45_5, j46_5, j47_5, j48_5, j49_5, j50_5, j51_5, j52_5, .agg #[.bool (decide (r < 0)), pr.v], .int .i64 ((r).sign), .bool (decide (((r).sign) < (0))), .agg #[.bool (decide (r < 0)), pr.v], .agg #[.bool (decide (-(r) < 0)), x51.v], .agg #[.bool (decide (x < 0)), px.v], .agg #[.bool (decide (-(x) < 0)), x56.v], .tuple #[.agg #[.bool (decide (((((z2)).natAbs : Nat) : Int).fdiv (-(r)) < 0)), x71.1.v], .agg #[.bool (decide (((((z2)).natAbs : Nat) : Int).fmod (-(r)) < 0)), x71.2.v], .int .i64 (0)], .agg #[.bool (b2), .slice A2 n2 c2], .agg #[.bool (decide ((((z2)).natAbs : Nat) < 0)), x61.v], .agg #[.bool (decide (-(r) < 0)), x51.v], .tuple #[.agg #[.bool (decide (((((z2)).natAbs : Nat) : Int).fdiv (-(r)) < 0)), x68.1.v], .agg #[.bool (decide (((((z2)).natAbs : Nat) : Int).fmod (-(r)) < 0)), x68.2.v], .int .i64 (0)], .agg #[.bool (decide (((((z2)).natAbs : Nat) : Int).fdiv (-(r)) < 0)), x74.v], .agg #[.bool (decide (((((z2)).natAbs : Nat) : Int).fmod (-(r)) < 0)), x77.v], .int .i64 (0), .tuple #[.agg #[.bool (decide ((-(x) : Int).fdiv (((((z2)).natAbs : Nat) : Int).fdiv (-(r))) < 0)), x83.1.v], .agg #[.bool (decide ((-(x) : Int).fmod (((((z2)).natAbs : Nat) : Int).fdiv (-(r))) < 0)), x83.2.v], .int .i64 (0)], .agg #[.bool (decide (-(x) < 0)), x56.v], .agg #[.bool (decide (((((z2)).natAbs : Nat) : Int).fdiv (-(r)) < 0)), x74.v], .tuple #[.agg #[.bool (decide ((-(x) : Int).fdiv (((((z2)).natAbs : Nat) : Int).fdiv (-(r))) < 0)), x83.1.v], .agg #[.bool (decide ((-(x) : Int).fmod (((((z2)).natAbs : Nat) : Int).fdiv (-(r))) < 0)), x83.2.v], .int .i64 (0)], .agg #[.bool (decide ((-(x) : Int).fdiv (((((z2)).natAbs : Nat) : Int).fdiv (-(r))) < 0)), x83.1.v], .agg #[.bool (decide ((-(x) : Int).fmod (((((z2)).natAbs : Nat) : Int).fdiv (-(r))) < 0)), x83.2.v], .int .i64 (0), .tuple #[.agg #[.bool (decide (((-(r)) - (((-(x) : Int).fmod (((((z2)).natAbs : Nat) : Int).fdiv (-(r)))) * (z1)) : Int).fdiv (z2) < 0)), x109.1.v], .agg #[.bool (decide (((-(r)) - (((-(x) : Int).fmod (((((z2)).natAbs : Nat) : Int).fdiv (-(r)))) * (z1)) : Int).fmod (z2) < 0)), x109.2.v], .int .i64 (0)], .agg #[.bool (decide (-(r) < 0)), x51.v], .agg #[.bool (decide ((-(x) : Int).fmod (((((z2)).natAbs : Nat) : Int).fdiv (-(r))) < 0)), x83.2.v], .agg #[.bool (b1), .slice A1 n1 c1], .agg #[.bool (decide (((-(x) : Int).fmod (((((z2)).natAbs : Nat) : Int).fdiv (-(r)))) * (z1) < 0)), x94.v], .agg #[.bool (decide ((-(r)) - (((-(x) : Int).fmod (((((z2)).natAbs : Nat) : Int).fdiv (-(r)))) * (z1)) < 0)), x99.v], .agg #[.bool (b2), .slice A2 n2 c2], .tuple #[.agg #[.bool (decide (((-(r)) - (((-(x) : Int).fmod (((((z2)).natAbs : Nat) : Int).fdiv (-(r)))) * (z1)) : Int).fdiv (z2) < 0)), x106.1.v], .agg #[.bool (decide (((-(r)) - (((-(x) : Int).fmod (((((z2)).natAbs : Nat) : Int).fdiv (-(r)))) * (z1)) : Int).fmod (z2) < 0)), x106.2.v], .int .i64 (0)], .agg #[.bool (decide (((-(r)) - (((-(x) : Int).fmod (((((z2)).natAbs : Nat) : Int).fdiv (-(r)))) * (z1)) : Int).fdiv (z2) < 0)), x112.v], .agg #[.bool (decide (((-(r)) - (((-(x) : Int).fmod (((((z2)).natAbs : Nat) : Int).fdiv (-(r)))) * (z1)) : Int).fmod (z2) < 0)), x115.v], .int .i64 (0), .agg #[.bool (decide (-(r) < 0)), x51.v], .agg #[.bool (decide ((-(x) : Int).fmod (((((z2)).natAbs : Nat) : Int).fdiv (-(r))) < 0)), x83.2.v], .agg #[.bool (decide (((-(r)) - (((-(x) : Int).fmod (((((z2)).natAbs : Nat) : Int).fdiv (-(r)))) * (z1)) : Int).fdiv (z2) < 0)), x112.v]], defers := [] }) (ts' := [(x115.v, tyO w (mg (((-(r)) - (((-(x) : Int).fmod (((((z2)).natAbs : Nat) : Int).fdiv (-(r)))) * (z1)) : Int).fmod (z2)))), (x112.v, tyO w (mg (((-(r)) - (((-(x) : Int).fmod (((((z2)).natAbs : Nat) : Int).fdiv (-(r)))) * (z1)) : Int).fdiv (z2)))), (x109.1.v, tyO w (mg (((-(r)) - (((-(x) : Int).fmod (((((z2)).natAbs : Nat) : Int).fdiv (-(r)))) * (z1)) : Int).fdiv (z2)))), (x109.2.v, tyO w (mg (((-(r)) - (((-(x) : Int).fmod (((((z2)).natAbs : Nat) : Int).fdiv (-(r)))) * (z1)) : Int).fmod (z2)))), (x106.1.v, tyO w (mg (((-(r)) - (((-(x) : Int).fmod (((((z2)).natAbs : Nat) : Int).fdiv (-(r)))) * (z1)) : Int).fdiv (z2)))), (x106.2.v, tyO w (mg (((-(r)) - (((-(x) : Int).fmod (((((z2)).natAbs : Nat) : Int).fdiv (-(r)))) * (z1)) : Int).fmod (z2)))), (x99.v, tyO w (mg ((-(r)) - (((-(x) : Int).fmod (((((z2)).natAbs : Nat) : Int).fdiv (-(r)))) * (z1))))), (x94.v, tyO w (mg (((-(x) : Int).fmod (((((z2)).natAbs : Nat) : Int).fdiv (-(r)))) * (z1)))), (x83.1.v, tyO w (mg ((-(x) : Int).fdiv (((((z2)).natAbs : Nat) : Int).fdiv (-(r)))))), (x83.2.v, tyO w (mg ((-(x) : Int).fmod (((((z2)).natAbs : Nat) : Int).fdiv (-(r)))))), (x77.v, tyO w (mg (((((z2)).natAbs : Nat) : Int).fmod (-(r))))), (x74.v, tyO w (mg (((((z2)).natAbs : Nat) : Int).fdiv (-(r))))), (x71.1.v, tyO w (mg (((((z2)).natAbs : Nat) : Int).fdiv (-(r))))), (x71.2.v, tyO w (mg (((((z2)).natAbs : Nat) : Int).fmod (-(r))))), (x68.1.v, tyO w (mg (((((z2)).natAbs : Nat) : Int).fdiv (-(r))))), (x68.2.v, tyO w (mg (((((z2)).natAbs : Nat) : Int).fmod (-(r))))), (x61.v, tyO w (mg ((((z2)).natAbs : Nat)))), (x56.v, tyO w (mg (-(x)))), (x51.v, tyO w (mg (-(r)))), (pr.v, tyO w (mg r)), (ps.v, tyO w (mg s)), (px.v, tyO w (mg x)), (pu.v, tyO w (mg u)), (.slice A1 n1 c1, tyN b1 z1), (.slice A2 n2 c2, tyN b2 z2)]) (bs' := [(g120, 25, #[.bool (decide (((-(r)) - (((-(x) : Int).fmod (((((z2)).natAbs : Nat) : Int).fdiv (-(r)))) * (z1)) : Int).fmod (z2) < 0)), x115.v]), (g119, 25, #[.bool (decide (((-(r)) - (((-(x) : Int).fmod (((((z2)).natAbs : Nat) : Int).fdiv (-(r)))) * (z1)) : Int).fdiv (z2) < 0)), x112.v]), (g82, 25, #[.bool (decide (((((z2)).natAbs : Nat) : Int).fmod (-(r)) < 0)), x77.v]), (g81, 25, #[.bool (decide (((((z2)).natAbs : Nat) : Int).fdiv (-(r)) < 0)), x74.v]), (g21, 25, #[.bool (decide (u < 0)), pu.v]), (g20, 25, #[.bool (decide ((-(x) : Int).fmod (((((z2)).natAbs : Nat) : Int).fdiv (-(r))) < 0)), x83.2.v]), (g18, 25, #[.bool (decide (s < 0)), ps.v]), (g17, 25, #[.bool (decide (-(r) < 0)), x51.v]), (g5, 25, #[.bool (decide (((-(r)) - (((-(x) : Int).fmod (((((z2)).natAbs : Nat) : Int).fdiv (-(r)))) * (z1)) : Int).fdiv (z2) < 0)), x112.v]), (g4, 25, #[.bool (decide ((-(x) : Int).fmod (((((z2)).natAbs : Nat) : Int).fdiv (-(r))) < 0)), x83.2.v]), (g3, 25, #[.bool (decide (-(r) < 0)), x51.v]), (g2, 25, #[.bool (b2), .slice A2 n2 c2]), (g1, 25, #[.bool (b1), .slice A1 n1 c1])]) Z (by kernel_rfl) [[0, 1, 2, 3, 4, 5], [0, 1, 3, 2, 4, 5], [0, 1, 3, 4, 2, 5], [0, 2, 1, 3, 4, 5], [0, 2, 3, 1, 4, 5], [0, 3, 1, 2, 4, 5], [0, 3, 1, 4, 2, 5], [0, 3, 2, 1, 4, 5], [1, 0, 2, 3, 4, 5], [1, 0, 3, 2, 4, 5], [1, 0, 3, 4, 2, 5], [1, 2, 0, 3, 4, 5], [2, 0, 1, 3, 4, 5], [2, 0, 3, 1, 4, 5], [2, 1, 0, 3, 4, 5]] (by kernel_rfl) (fun K W Z o ho => ?_) (fun W Z => ?_)
      · simp only [List.mem_cons, List.not_mem_nil, or_false] at ho; rcases ho with rfl | rfl | rfl | rfl | rfl | rfl | rfl | rfl | rfl | rfl | rfl | rfl | rfl | rfl | rfl
        · show wpList _ _ _ [_, _, _, _, _, _] _ _
          refine seq_is (v := .agg #[.bool (decide (-(r) < 0)), x51.v]) rfl (run_load2 rfl rfl (Z.bx 7 rfl)) ?_
          (try simp only [Act.put, List.setIfInBounds_toArray, List.set_cons_zero, List.set_cons_succ])
          refine seq_is (v := .agg #[.bool (decide ((-(x) : Int).fmod (((((z2)).natAbs : Nat) : Int).fdiv (-(r))) < 0)), x83.2.v]) rfl (run_load2 rfl rfl (Z.bx 5 rfl)) ?_
          (try simp only [Act.put, List.setIfInBounds_toArray, List.set_cons_zero, List.set_cons_succ])
          refine seq_is (v := .agg #[.bool (decide (((-(r)) - (((-(x) : Int).fmod (((((z2)).natAbs : Nat) : Int).fdiv (-(r)))) * (z1)) : Int).fdiv (z2) < 0)), x112.v]) rfl (run_load2 rfl rfl (Z.bx 1 rfl)) ?_
          (try simp only [Act.put, List.setIfInBounds_toArray, List.set_cons_zero, List.set_cons_succ])
          refine seq_store Z 10 rfl rfl rfl rfl rfl ?_; clear Z; intro W Z
          (try simp only [Act.put, List.setIfInBounds_toArray, List.set_cons_zero, List.set_cons_succ])
          refine seq_store Z 9 rfl rfl rfl rfl rfl ?_; clear Z; intro W Z
          (try simp only [Act.put, List.setIfInBounds_toArray, List.set_cons_zero, List.set_cons_succ])
          refine seq_store Z 8 rfl rfl rfl rfl rfl ?_; clear Z; intro W Z
          (try simp only [Act.put, List.setIfInBounds_toArray, List.set_cons_zero, List.set_cons_succ])
          exact K _ Z
        · show wpList _ _ _ [_, _, _, _, _, _] _ _
          refine seq_is (v := .agg #[.bool (decide (-(r) < 0)), x51.v]) rfl (run_load2 rfl rfl (Z.bx 7 rfl)) ?_
          (try simp only [Act.put, List.setIfInBounds_toArray, List.set_cons_zero, List.set_cons_succ])
          refine seq_is (v := .agg #[.bool (decide ((-(x) : Int).fmod (((((z2)).natAbs : Nat) : Int).fdiv (-(r))) < 0)), x83.2.v]) rfl (run_load2 rfl rfl (Z.bx 5 rfl)) ?_
          (try simp only [Act.put, List.setIfInBounds_toArray, List.set_cons_zero, List.set_cons_succ])
          refine seq_store Z 10 rfl rfl rfl rfl rfl ?_; clear Z; intro W Z
          (try simp only [Act.put, List.setIfInBounds_toArray, List.set_cons_zero, List.set_cons_succ])
          refine seq_is (v := .agg #[.bool (decide (((-(r)) - (((-(x) : Int).fmod (((((z2)).natAbs : Nat) : Int).fdiv (-(r)))) * (z1)) : Int).fdiv (z2) < 0)), x112.v]) rfl (run_load2 rfl rfl (Z.bx 1 rfl)) ?_
          (try simp only [Act.put, List.setIfInBounds_toArray, List.set_cons_zero, List.set_cons_succ])
          refine seq_store Z 9 rfl rfl rfl rfl rfl ?_; clear Z; intro W Z
          (try simp only [Act.put, List.setIfInBounds_toArray, List.set_cons_zero, List.set_cons_succ])
          refine seq_store Z 8 rfl rfl rfl rfl rfl ?_; clear Z; intro W Z
          (try simp only [Act.put, List.setIfInBounds_toArray, List.set_cons_zero, List.set_cons_succ])
          exact K _ Z
        · show wpList _ _ _ [_, _, _, _, _, _] _ _
          refine seq_is (v := .agg #[.bool (decide (-(r) < 0)), x51.v]) rfl (run_load2 rfl rfl (Z.bx 7 rfl)) ?_
          (try simp only [Act.put, List.setIfInBounds_toArray, List.set_cons_zero, List.set_cons_succ])
          refine seq_is (v := .agg #[.bool (decide ((-(x) : Int).fmod (((((z2)).natAbs : Nat) : Int).fdiv (-(r))) < 0)), x83.2.v]) rfl (run_load2 rfl rfl (Z.bx 5 rfl)) ?_
          (try simp only [Act.put, List.setIfInBounds_toArray, List.set_cons_zero, List.set_cons_succ])
          refine seq_store Z 10 rfl rfl rfl rfl rfl ?_; clear Z; intro W Z
          (try simp only [Act.put, List.setIfInBounds_toArray, List.set_cons_zero, List.set_cons_succ])
          refine seq_store Z 9 rfl rfl rfl rfl rfl ?_; clear Z; intro W Z
          (try simp only [Act.put, List.setIfInBounds_toArray, List.set_cons_zero, List.set_cons_succ])
          refine seq_is (v := .agg #[.bool (decide (((-(r)) - (((-(x) : Int).fmod (((((z2)).natAbs : Nat) : Int).fdiv (-(r)))) * (z1)) : Int).fdiv (z2) < 0)), x112.v]) rfl (run_load2 rfl rfl (Z.bx 1 rfl)) ?_
          (try simp only [Act.put, List.setIfInBounds_toArray, List.set_cons_zero, List.set_cons_succ])
          refine seq_store Z 8 rfl rfl rfl rfl rfl ?_; clear Z; intro W Z
          (try simp only [Act.put, List.setIfInBounds_toArray, List.set_cons_zero, List.set_cons_succ])
          exact K _ Z
        · show wpList _ _ _ [_, _, _, _, _, _] _ _
          refine seq_is (v := .agg #[.bool (decide (-(r) < 0)), x51.v]) rfl (run_load2 rfl rfl (Z.bx 7 rfl)) ?_
          (try simp only [Act.put, List.setIfInBounds_toArray, List.set_cons_zero, List.set_cons_succ])
          refine seq_is (v := .agg #[.bool (decide (((-(r)) - (((-(x) : Int).fmod (((((z2)).natAbs : Nat) : Int).fdiv (-(r)))) * (z1)) : Int).fdiv (z2) < 0)), x112.v]) rfl (run_load2 rfl rfl (Z.bx 1 rfl)) ?_
          (try simp only [Act.put, List.setIfInBounds_toArray, List.set_cons_zero, List.set_cons_succ])
          refine seq_is (v := .agg #[.bool (decide ((-(x) : Int).fmod (((((z2)).natAbs : Nat) : Int).fdiv (-(r))) < 0)), x83.2.v]) rfl (run_load2 rfl rfl (Z.bx 5 rfl)) ?_
          (try simp only [Act.put, List.setIfInBounds_toArray, List.set_cons_zero, List.set_cons_succ])
          refine seq_store Z 10 rfl rfl rfl rfl rfl ?_; clear Z; intro W Z
          (try simp only [Act.put, List.setIfInBounds_toArray, List.set_cons_zero, List.set_cons_succ])
          refine seq_store Z 9 rfl rfl rfl rfl rfl ?_; clear Z; intro W Z
          (try simp only [Act.put, List.setIfInBounds_toArray, List.set_cons_zero, List.set_cons_succ])
          refine seq_store Z 8 rfl rfl rfl rfl rfl ?_; clear Z; intro W Z
          (try simp only [Act.put, List.setIfInBounds_toArray, List.set_cons_zero, List.set_cons_succ])
          exact K _ Z
        · show wpList _ _ _ [_, _, _, _, _, _] _ _
          refine seq_is (v := .agg #[.bool (decide (-(r) < 0)), x51.v]) rfl (run_load2 rfl rfl (Z.bx 7 rfl)) ?_
          (try simp only [Act.put, List.setIfInBounds_toArray, List.set_cons_zero, List.set_cons_succ])
          refine seq_is (v := .agg #[.bool (decide (((-(r)) - (((-(x) : Int).fmod (((((z2)).natAbs : Nat) : Int).fdiv (-(r)))) * (z1)) : Int).fdiv (z2) < 0)), x112.v]) rfl (run_load2 rfl rfl (Z.bx 1 rfl)) ?_
          (try simp only [Act.put, List.setIfInBounds_toArray, List.set_cons_zero, List.set_cons_succ])
          refine seq_store Z 10 rfl rfl rfl rfl rfl ?_; clear Z; intro W Z
          (try simp only [Act.put, List.setIfInBounds_toArray, List.set_cons_zero, List.set_cons_succ])
          refine seq_is (v := .agg #[.bool (decide ((-(x) : Int).fmod (((((z2)).natAbs : Nat) : Int).fdiv (-(r))) < 0)), x83.2.v]) rfl (run_load2 rfl rfl (Z.bx 5 rfl)) ?_
          (try simp only [Act.put, List.setIfInBounds_toArray, List.set_cons_zero, List.set_cons_succ])
          refine seq_store Z 9 rfl rfl rfl rfl rfl ?_; clear Z; intro W Z
          (try simp only [Act.put, List.setIfInBounds_toArray, List.set_cons_zero, List.set_cons_succ])
          refine seq_store Z 8 rfl rfl rfl rfl rfl ?_; clear Z; intro W Z
          (try simp only [Act.put, List.setIfInBounds_toArray, List.set_cons_zero, List.set_cons_succ])
          exact K _ Z
        · show wpList _ _ _ [_, _, _, _, _, _] _ _
          refine seq_is (v := .agg #[.bool (decide (-(r) < 0)), x51.v]) rfl (run_load2 rfl rfl (Z.bx 7 rfl)) ?_
          (try simp only [Act.put, List.setIfInBounds_toArray, List.set_cons_zero, List.set_cons_succ])
          refine seq_store Z 10 rfl rfl rfl rfl rfl ?_; clear Z; intro W Z
          (try simp only [Act.put, List.setIfInBounds_toArray, List.set_cons_zero, List.set_cons_succ])
          refine seq_is (v := .agg #[.bool (decide ((-(x) : Int).fmod (((((z2)).natAbs : Nat) : Int).fdiv (-(r))) < 0)), x83.2.v]) rfl (run_load2 rfl rfl (Z.bx 5 rfl)) ?_
          (try simp only [Act.put, List.setIfInBounds_toArray, List.set_cons_zero, List.set_cons_succ])
          refine seq_is (v := .agg #[.bool (decide (((-(r)) - (((-(x) : Int).fmod (((((z2)).natAbs : Nat) : Int).fdiv (-(r)))) * (z1)) : Int).fdiv (z2) < 0)), x112.v]) rfl (run_load2 rfl rfl (Z.bx 1 rfl)) ?_
          (try simp only [Act.put, List.setIfInBounds_toArray, List.set_cons_zero, List.set_cons_succ])
          refine seq_store Z 9 rfl rfl rfl rfl rfl ?_; clear Z; intro W Z
          (try simp only [Act.put, List.setIfInBounds_toArray, List.set_cons_zero, List.set_cons_succ])
          refine seq_store Z 8 rfl rfl rfl rfl rfl ?_; clear Z; intro W Z
          (try simp only [Act.put, List.setIfInBounds_toArray, List.set_cons_zero, List.set_cons_succ])
          exact K _ Z
        · show wpList _ _ _ [_, _, _, _, _, _] _ _
          refine seq_is (v := .agg #[.bool (decide (-(r) < 0)), x51.v]) rfl (run_load2 rfl rfl (Z.bx 7 rfl)) ?_
          (try simp only [Act.put, List.setIfInBounds_toArray, List.set_cons_zero, List.set_cons_succ])
          refine seq_store Z 10 rfl rfl rfl rfl rfl ?_; clear Z; intro W Z
          (try simp only [Act.put, List.setIfInBounds_toArray, List.set_cons_zero, List.set_cons_succ])
          refine seq_is (v := .agg #[.bool (decide ((-(x) : Int).fmod (((((z2)).natAbs : Nat) : Int).fdiv (-(r))) < 0)), x83.2.v]) rfl (run_load2 rfl rfl (Z.bx 5 rfl)) ?_
          (try simp only [Act.put, List.setIfInBounds_toArray, List.set_cons_zero, List.set_cons_succ])
          refine seq_store Z 9 rfl rfl rfl rfl rfl ?_; clear Z; intro W Z
          (try simp only [Act.put, List.setIfInBounds_toArray, List.set_cons_zero, List.set_cons_succ])
          refine seq_is (v := .agg #[.bool (decide (((-(r)) - (((-(x) : Int).fmod (((((z2)).natAbs : Nat) : Int).fdiv (-(r)))) * (z1)) : Int).fdiv (z2) < 0)), x112.v]) rfl (run_load2 rfl rfl (Z.bx 1 rfl)) ?_
          (try simp only [Act.put, List.setIfInBounds_toArray, List.set_cons_zero, List.set_cons_succ])
          refine seq_store Z 8 rfl rfl rfl rfl rfl ?_; clear Z; intro W Z
          (try simp only [Act.put, List.setIfInBounds_toArray, List.set_cons_zero, List.set_cons_succ])
          exact K _ Z
        · show wpList _ _ _ [_, _, _, _, _, _] _ _
          refine seq_is (v := .agg #[.bool (decide (-(r) < 0)), x51.v]) rfl (run_load2 rfl rfl (Z.bx 7 rfl)) ?_
          (try simp only [Act.put, List.setIfInBounds_toArray, List.set_cons_zero, List.set_cons_succ])
          refine seq_store Z 10 rfl rfl rfl rfl rfl ?_; clear Z; intro W Z
          (try simp only [Act.put, List.setIfInBounds_toArray, List.set_cons_zero, List.set_cons_succ])
          refine seq_is (v := .agg #[.bool (decide (((-(r)) - (((-(x) : Int).fmod (((((z2)).natAbs : Nat) : Int).fdiv (-(r)))) * (z1)) : Int).fdiv (z2) < 0)), x112.v]) rfl (run_load2 rfl rfl (Z.bx 1 rfl)) ?_
          (try simp only [Act.put, List.setIfInBounds_toArray, List.set_cons_zero, List.set_cons_succ])
          refine seq_is (v := .agg #[.bool (decide ((-(x) : Int).fmod (((((z2)).natAbs : Nat) : Int).fdiv (-(r))) < 0)), x83.2.v]) rfl (run_load2 rfl rfl (Z.bx 5 rfl)) ?_
          (try simp only [Act.put, List.setIfInBounds_toArray, List.set_cons_zero, List.set_cons_succ])
          refine seq_store Z 9 rfl rfl rfl rfl rfl ?_; clear Z; intro W Z
          (try simp only [Act.put, List.setIfInBounds_toArray, List.set_cons_zero, List.set_cons_succ])
          refine seq_store Z 8 rfl rfl rfl rfl rfl ?_; clear Z; intro W Z
          (try simp only [Act.put, List.setIfInBounds_toArray, List.set_cons_zero, List.set_cons_succ])
          exact K _ Z
        · show wpList _ _ _ [_, _, _, _, _, _] _ _
          refine seq_is (v := .agg #[.bool (decide ((-(x) : Int).fmod (((((z2)).natAbs : Nat) : Int).fdiv (-(r))) < 0)), x83.2.v]) rfl (run_load2 rfl rfl (Z.bx 5 rfl)) ?_
          (try simp only [Act.put, List.setIfInBounds_toArray, List.set_cons_zero, List.set_cons_succ])
          refine seq_is (v := .agg #[.bool (decide (-(r) < 0)), x51.v]) rfl (run_load2 rfl rfl (Z.bx 7 rfl)) ?_
          (try simp only [Act.put, List.setIfInBounds_toArray, List.set_cons_zero, List.set_cons_succ])
          refine seq_is (v := .agg #[.bool (decide (((-(r)) - (((-(x) : Int).fmod (((((z2)).natAbs : Nat) : Int).fdiv (-(r)))) * (z1)) : Int).fdiv (z2) < 0)), x112.v]) rfl (run_load2 rfl rfl (Z.bx 1 rfl)) ?_
          (try simp only [Act.put, List.setIfInBounds_toArray, List.set_cons_zero, List.set_cons_succ])
          refine seq_store Z 10 rfl rfl rfl rfl rfl ?_; clear Z; intro W Z
          (try simp only [Act.put, List.setIfInBounds_toArray, List.set_cons_zero, List.set_cons_succ])
          refine seq_store Z 9 rfl rfl rfl rfl rfl ?_; clear Z; intro W Z
          (try simp only [Act.put, List.setIfInBounds_toArray, List.set_cons_zero, List.set_cons_succ])
          refine seq_store Z 8 rfl rfl rfl rfl rfl ?_; clear Z; intro W Z
          (try simp only [Act.put, List.setIfInBounds_toArray, List.set_cons_zero, List.set_cons_succ])
          exact K _ Z
        · show wpList _ _ _ [_, _, _, _, _, _] _ _
          refine seq_is (v := .agg #[.bool (decide ((-(x) : Int).fmod (((((z2)).natAbs : Nat) : Int).fdiv (-(r))) < 0)), x83.2.v]) rfl (run_load2 rfl rfl (Z.bx 5 rfl)) ?_
          (try simp only [Act.put, List.setIfInBounds_toArray, List.set_cons_zero, List.set_cons_succ])
          refine seq_is (v := .agg #[.bool (decide (-(r) < 0)), x51.v]) rfl (run_load2 rfl rfl (Z.bx 7 rfl)) ?_
          (try simp only [Act.put, List.setIfInBounds_toArray, List.set_cons_zero, List.set_cons_succ])
          refine seq_store Z 10 rfl rfl rfl rfl rfl ?_; clear Z; intro W Z
          (try simp only [Act.put, List.setIfInBounds_toArray, List.set_cons_zero, List.set_cons_succ])
          refine seq_is (v := .agg #[.bool (decide (((-(r)) - (((-(x) : Int).fmod (((((z2)).natAbs : Nat) : Int).fdiv (-(r)))) * (z1)) : Int).fdiv (z2) < 0)), x112.v]) rfl (run_load2 rfl rfl (Z.bx 1 rfl)) ?_
          (try simp only [Act.put, List.setIfInBounds_toArray, List.set_cons_zero, List.set_cons_succ])
          refine seq_store Z 9 rfl rfl rfl rfl rfl ?_; clear Z; intro W Z
          (try simp only [Act.put, List.setIfInBounds_toArray, List.set_cons_zero, List.set_cons_succ])
          refine seq_store Z 8 rfl rfl rfl rfl rfl ?_; clear Z; intro W Z
          (try simp only [Act.put, List.setIfInBounds_toArray, List.set_cons_zero, List.set_cons_succ])
          exact K _ Z
        · show wpList _ _ _ [_, _, _, _, _, _] _ _
          refine seq_is (v := .agg #[.bool (decide ((-(x) : Int).fmod (((((z2)).natAbs : Nat) : Int).fdiv (-(r))) < 0)), x83.2.v]) rfl (run_load2 rfl rfl (Z.bx 5 rfl)) ?_
          (try simp only [Act.put, List.setIfInBounds_toArray, List.set_cons_zero, List.set_cons_succ])
          refine seq_is (v := .agg #[.bool (decide (-(r) < 0)), x51.v]) rfl (run_load2 rfl rfl (Z.bx 7 rfl)) ?_
          (try simp only [Act.put, List.setIfInBounds_toArray, List.set_cons_zero, List.set_cons_succ])
          refine seq_store Z 10 rfl rfl rfl rfl rfl ?_; clear Z; intro W Z
          (try simp only [Act.put, List.setIfInBounds_toArray, List.set_cons_zero, List.set_cons_succ])
          refine seq_store Z 9 rfl rfl rfl rfl rfl ?_; clear Z; intro W Z
          (try simp only [Act.put, List.setIfInBounds_toArray, List.set_cons_zero, List.set_cons_succ])
          refine seq_is (v := .agg #[.bool (decide (((-(r)) - (((-(x) : Int).fmod (((((z2)).natAbs : Nat) : Int).fdiv (-(r)))) * (z1)) : Int).fdiv (z2) < 0)), x112.v]) rfl (run_load2 rfl rfl (Z.bx 1 rfl)) ?_
          (try simp only [Act.put, List.setIfInBounds_toArray, List.set_cons_zero, List.set_cons_succ])
          refine seq_store Z 8 rfl rfl rfl rfl rfl ?_; clear Z; intro W Z
          (try simp only [Act.put, List.setIfInBounds_toArray, List.set_cons_zero, List.set_cons_succ])
          exact K _ Z
        · show wpList _ _ _ [_, _, _, _, _, _] _ _
          refine seq_is (v := .agg #[.bool (decide ((-(x) : Int).fmod (((((z2)).natAbs : Nat) : Int).fdiv (-(r))) < 0)), x83.2.v]) rfl (run_load2 rfl rfl (Z.bx 5 rfl)) ?_
          (try simp only [Act.put, List.setIfInBounds_toArray, List.set_cons_zero, List.set_cons_succ])
          refine seq_is (v := .agg #[.bool (decide (((-(r)) - (((-(x) : Int).fmod (((((z2)).natAbs : Nat) : Int).fdiv (-(r)))) * (z1)) : Int).fdiv (z2) < 0)), x112.v]) rfl (run_load2 rfl rfl (Z.bx 1 rfl)) ?_
          (try simp only [Act.put, List.setIfInBounds_toArray, List.set_cons_zero, List.set_cons_succ])
          refine seq_is (v := .agg #[.bool (decide (-(r) < 0)), x51.v]) rfl (run_load2 rfl rfl (Z.bx 7 rfl)) ?_
          (try simp only [Act.put, List.setIfInBounds_toArray, List.set_cons_zero, List.set_cons_succ])
          refine seq_store Z 10 rfl rfl rfl rfl rfl ?_; clear Z; intro W Z
          (try simp only [Act.put, List.setIfInBounds_toArray, List.set_cons_zero, List.set_cons_succ])
          refine seq_store Z 9 rfl rfl rfl rfl rfl ?_; clear Z; intro W Z
          (try simp only [Act.put, List.setIfInBounds_toArray, List.set_cons_zero, List.set_cons_succ])
          refine seq_store Z 8 rfl rfl rfl rfl rfl ?_; clear Z; intro W Z
          (try simp only [Act.put, List.setIfInBounds_toArray, List.set_cons_zero, List.set_cons_succ])
          exact K _ Z
        · show wpList _ _ _ [_, _, _, _, _, _] _ _
          refine seq_is (v := .agg #[.bool (decide (((-(r)) - (((-(x) : Int).fmod (((((z2)).natAbs : Nat) : Int).fdiv (-(r)))) * (z1)) : Int).fdiv (z2) < 0)), x112.v]) rfl (run_load2 rfl rfl (Z.bx 1 rfl)) ?_
          (try simp only [Act.put, List.setIfInBounds_toArray, List.set_cons_zero, List.set_cons_succ])
          refine seq_is (v := .agg #[.bool (decide (-(r) < 0)), x51.v]) rfl (run_load2 rfl rfl (Z.bx 7 rfl)) ?_
          (try simp only [Act.put, List.setIfInBounds_toArray, List.set_cons_zero, List.set_cons_succ])
          refine seq_is (v := .agg #[.bool (decide ((-(x) : Int).fmod (((((z2)).natAbs : Nat) : Int).fdiv (-(r))) < 0)), x83.2.v]) rfl (run_load2 rfl rfl (Z.bx 5 rfl)) ?_
          (try simp only [Act.put, List.setIfInBounds_toArray, List.set_cons_zero, List.set_cons_succ])
          refine seq_store Z 10 rfl rfl rfl rfl rfl ?_; clear Z; intro W Z
          (try simp only [Act.put, List.setIfInBounds_toArray, List.set_cons_zero, List.set_cons_succ])
          refine seq_store Z 9 rfl rfl rfl rfl rfl ?_; clear Z; intro W Z
          (try simp only [Act.put, List.setIfInBounds_toArray, List.set_cons_zero, List.set_cons_succ])
          refine seq_store Z 8 rfl rfl rfl rfl rfl ?_; clear Z; intro W Z
          (try simp only [Act.put, List.setIfInBounds_toArray, List.set_cons_zero, List.set_cons_succ])
          exact K _ Z
        · show wpList _ _ _ [_, _, _, _, _, _] _ _
          refine seq_is (v := .agg #[.bool (decide (((-(r)) - (((-(x) : Int).fmod (((((z2)).natAbs : Nat) : Int).fdiv (-(r)))) * (z1)) : Int).fdiv (z2) < 0)), x112.v]) rfl (run_load2 rfl rfl (Z.bx 1 rfl)) ?_
          (try simp only [Act.put, List.setIfInBounds_toArray, List.set_cons_zero, List.set_cons_succ])
          refine seq_is (v := .agg #[.bool (decide (-(r) < 0)), x51.v]) rfl (run_load2 rfl rfl (Z.bx 7 rfl)) ?_
          (try simp only [Act.put, List.setIfInBounds_toArray, List.set_cons_zero, List.set_cons_succ])
          refine seq_store Z 10 rfl rfl rfl rfl rfl ?_; clear Z; intro W Z
          (try simp only [Act.put, List.setIfInBounds_toArray, List.set_cons_zero, List.set_cons_succ])
          refine seq_is (v := .agg #[.bool (decide ((-(x) : Int).fmod (((((z2)).natAbs : Nat) : Int).fdiv (-(r))) < 0)), x83.2.v]) rfl (run_load2 rfl rfl (Z.bx 5 rfl)) ?_
          (try simp only [Act.put, List.setIfInBounds_toArray, List.set_cons_zero, List.set_cons_succ])
          refine seq_store Z 9 rfl rfl rfl rfl rfl ?_; clear Z; intro W Z
          (try simp only [Act.put, List.setIfInBounds_toArray, List.set_cons_zero, List.set_cons_succ])
          refine seq_store Z 8 rfl rfl rfl rfl rfl ?_; clear Z; intro W Z
          (try simp only [Act.put, List.setIfInBounds_toArray, List.set_cons_zero, List.set_cons_succ])
          exact K _ Z
        · show wpList _ _ _ [_, _, _, _, _, _] _ _
          refine seq_is (v := .agg #[.bool (decide (((-(r)) - (((-(x) : Int).fmod (((((z2)).natAbs : Nat) : Int).fdiv (-(r)))) * (z1)) : Int).fdiv (z2) < 0)), x112.v]) rfl (run_load2 rfl rfl (Z.bx 1 rfl)) ?_
          (try simp only [Act.put, List.setIfInBounds_toArray, List.set_cons_zero, List.set_cons_succ])
          refine seq_is (v := .agg #[.bool (decide ((-(x) : Int).fmod (((((z2)).natAbs : Nat) : Int).fdiv (-(r))) < 0)), x83.2.v]) rfl (run_load2 rfl rfl (Z.bx 5 rfl)) ?_
          (try simp only [Act.put, List.setIfInBounds_toArray, List.set_cons_zero, List.set_cons_succ])
          refine seq_is (v := .agg #[.bool (decide (-(r) < 0)), x51.v]) rfl (run_load2 rfl rfl (Z.bx 7 rfl)) ?_
          (try simp only [Act.put, List.setIfInBounds_toArray, List.set_cons_zero, List.set_cons_succ])
          refine seq_store Z 10 rfl rfl rfl rfl rfl ?_; clear Z; intro W Z
          (try simp only [Act.put, List.setIfInBounds_toArray, List.set_cons_zero, List.set_cons_succ])
          refine seq_store Z 9 rfl rfl rfl rfl rfl ?_; clear Z; intro W Z
          (try simp only [Act.put, List.setIfInBounds_toArray, List.set_cons_zero, List.set_cons_succ])
          refine seq_store Z 8 rfl rfl rfl rfl rfl ?_; clear Z; intro W Z
          (try simp only [Act.put, List.setIfInBounds_toArray, List.set_cons_zero, List.set_cons_succ])
          exact K _ Z
      · show Code.wp _ _ _ _ _
        refine wp_ret ?_
        exact Z.endsIII (d := 0) (u' := undef) 10 18 9 9 8 1 rfl rfl rfl rfl rfl rfl rfl rfl rfl rfl rfl (by exact hF.1) (by exact hF.2.1) (by exact hF.2.2)
    · intro hc46
      refine wp_skip ?_
      show Code.wp _ _ _ _ _
      refine wp_seq ?_
      have hX : (x : Int) = if r < 0 then -x else x := by rw [if_neg (sign_nn hc46)]
      have hG : (r : Int) = ((r.natAbs : Nat) : Int) := by have := sign_nn hc46; omega
      have hG1 := hG.trans hO2
      have hF := bez_fin h0 hI hS hG hX
      refine wp_dag2 (pre := [_, _, _, _, _, _, _, _, _, _]) (sps := [.is (.agg #[.bool (b2), .slice A2 n2 c2]), spI w ((((z2)).natAbs : Nat)), .is (.agg #[.bool (decide (r < 0)), pr.v]), spIIi w (((((z2)).natAbs : Nat) : Int).fdiv (r)) (((((z2)).natAbs : Nat) : Int).fmod (r)) (.int .i64 (0)), spIIi w (((((z2)).natAbs : Nat) : Int).fdiv (r)) (((((z2)).natAbs : Nat) : Int).fmod (r)) (.int .i64 (0)), spI w (((((z2)).natAbs : Nat) : Int).fdiv (r)), spI w (((((z2)).natAbs : Nat) : Int).fmod (r)), .is (.int .i64 (0)), .box 25 #[.bool false, .slice none 0 0], .box 25 #[.bool false, .slice none 0 0]]) Z (by kernel_rfl) _ rfl (by kernel_rfl) (by kernel_rfl) (by kernel_rfl) rfl (fun _ _ d _ _ h => by cases d <;> exact h) ⟨?_, ?_, ?_, ?_, ?_, ?_, ?_, ?_, ?_, ?_, trivial⟩ ?_
      · intro a e121 W Q Z; exact step_is (fun _ h => op_plain rfl rfl h) (run_load2 rfl (ev e121) (Z.bx 7 rfl))
      · intro a x123 e124 W Q Z; exact step_call (fun _ h => op_plain rfl rfl h) rfl Try.func27 rfl rfl (args1 (ev e124)) (Z.callI (zint_Abs.sem (Z.num 5 rfl)  ))
      · intro a e126 W Q Z; exact step_is (fun _ h => op_plain rfl rfl h) (run_load2 rfl (ev e126) (Z.bx 3 rfl))
      · intro a x128 e129 x130 e131 W Q Z; exact step_call (fun _ h => op_plain rfl rfl h) rfl Try.func51 rfl rfl (args2 (ev e129) (ev e131)) (Z.callIIi (zint_Floor.sem (Z.own 0 rfl (Bd.fm (Bd.abs (Bd.abs hb2)) (by decide))) (Z.own 1 rfl (Bd.fm (Bd.abs hbr) (by decide)))  (Bd.mono (Bd.abs hb2) (by decide)) (Bd.mono hbr (by decide)) (show _ ≠ (0 : Int) by rw [hG1]; omega)))
      · intro a x133 e134 W Q Z; exact step_val x133 (fun _ h => op_plain rfl rfl h) (run_move rfl (ev e134)) (has_two (Z.has 0 rfl) (Z.has 1 rfl))
      · intro a x136 e137 W Q Z; exact step_val x136.1 (fun _ h => op_plain rfl rfl h) (run_extract rfl (ev e137) rfl) (has_one (Z.has 0 rfl))
      · intro a x139 e140 W Q Z; exact step_val x139.2 (fun _ h => op_plain rfl rfl h) (run_extract rfl (ev e140) rfl) (has_one (Z.has 1 rfl))
      · intro a x142 e143 W Q Z; exact step_is (fun _ h => op_plain rfl rfl h) (run_extract rfl (ev e143) rfl)
      · intro a W Q Z; exact step_box (fun _ h => op_plain rfl rfl h) (by decide) (run_alloc2 rfl)
      · intro a W Q Z; exact step_box (fun _ h => op_plain rfl rfl h) (by decide) (run_alloc2 rfl)
      clear Z; intro x122 x125 x127 x132 x135 x138 x141 x144 g145 g146 W Z
      (try simp only [Act.put, List.setIfInBounds_toArray, List.set_cons_zero, List.set_cons_succ])
      refine seq_store Z 1 rfl rfl rfl rfl rfl ?_; clear Z; intro W Z
      (try simp only [Act.put, List.setIfInBounds_toArray, List.set_cons_zero, List.set_cons_succ])
      refine seq_store Z 0 rfl rfl rfl rfl rfl ?_; clear Z; intro W Z
      (try simp only [Act.put, List.setIfInBounds_toArray, List.set_cons_zero, List.set_cons_succ])
      refine seq_is (v := .int .i64 (0)) rfl (run_assign rfl rfl) ?_
      (try simp only [Act.put, List.setIfInBounds_toArray, List.set_cons_zero, List.set_cons_succ])
      show Code.wp _ _ _ _ _
      refine wp_seq ?_
      refine wp_region_list ?_
      refine seq_is (v := .agg #[.bool (decide (x < 0)), px.v]) rfl (run_load2 rfl rfl (Z.bx 3 rfl)) ?_
      (try simp only [Act.put, List.setIfInBounds_toArray, List.set_cons_zero, List.set_cons_succ])
      refine seq_is (v := .agg #[.bool (decide (((((z2)).natAbs : Nat) : Int).fdiv (r) < 0)), x138.v]) rfl (run_load2 rfl rfl (Z.bx 1 rfl)) ?_
      (try simp only [Act.put, List.setIfInBounds_toArray, List.set_cons_zero, List.set_cons_succ])
      refine seq_call Z rfl rfl Try.func51 rfl rfl (args2 rfl rfl) (Z.callIIi (zint_Floor.sem (Z.own 9 rfl (Bd.fm (Bd.abs hbx) (by decide))) (Z.own 1 rfl (Bd.fm (Bd.abs (fdiv_bd (Bd.abs hb2))) (by decide)))  (Bd.mono hbx (by decide)) (Bd.mono (fdiv_bd (Bd.abs hb2)) (by decide)) (show _ ≠ (0 : Int) by rw [hG1]; omega))) ?_; clear Z; intro x147 W Z
      (try simp only [Act.put, List.setIfInBounds_toArray, List.set_cons_zero, List.set_cons_succ])
      refine seq_is (v := .tuple #[.agg #[.bool (decide ((x : Int).fdiv (((((z2)).natAbs : Nat) : Int).fdiv (r)) < 0)), x147.1.v], .agg #[.bool (decide ((x : Int).fmod (((((z2)).natAbs : Nat) : Int).fdiv (r)) < 0)), x147.2.v], .int .i64 (0)]) rfl (run_move rfl rfl) ?_
      (try simp only [Act.put, List.setIfInBounds_toArray, List.set_cons_zero, List.set_cons_succ])
      refine seq_is (v := .agg #[.bool (decide ((x : Int).fdiv (((((z2)).natAbs : Nat) : Int).fdiv (r)) < 0)), x147.1.v]) rfl (run_extract rfl rfl rfl) ?_
      (try simp only [Act.put, List.setIfInBounds_toArray, List.set_cons_zero, List.set_cons_succ])
      refine seq_is (v := .agg #[.bool (decide ((x : Int).fmod (((((z2)).natAbs : Nat) : Int).fdiv (r)) < 0)), x147.2.v]) rfl (run_extract rfl rfl rfl) ?_
      (try simp only [Act.put, List.setIfInBounds_toArray, List.set_cons_zero, List.set_cons_succ])
      refine seq_is (v := .int .i64 (0)) rfl (run_extract rfl rfl rfl) ?_
      (try simp only [Act.put, List.setIfInBounds_toArray, List.set_cons_zero, List.set_cons_succ])
      refine seq_store Z 3 rfl rfl rfl rfl rfl ?_; clear Z; intro W Z
      (try simp only [Act.put, List.setIfInBounds_toArray, List.set_cons_zero, List.set_cons_succ])
      show Code.wp _ _ _ _ _
      refine wp_seq ?_
      refine wp_dag2 (pre := [_, _, _, _, _, _, _, _, _, _, _, _, _]) (sps := [.is (.agg #[.bool (decide (r < 0)), pr.v]), .is (.agg #[.bool (decide ((x : Int).fmod (((((z2)).natAbs : Nat) : Int).fdiv (r)) < 0)), x147.2.v]), .is (.agg #[.bool (b1), .slice A1 n1 c1]), spI w (((x : Int).fmod (((((z2)).natAbs : Nat) : Int).fdiv (r))) * (z1)), spI w ((r) - (((x : Int).fmod (((((z2)).natAbs : Nat) : Int).fdiv (r))) * (z1))), .is (.agg #[.bool (b2), .slice A2 n2 c2]), spIIi w (((r) - (((x : Int).fmod (((((z2)).natAbs : Nat) : Int).fdiv (r))) * (z1)) : Int).fdiv (z2)) (((r) - (((x : Int).fmod (((((z2)).natAbs : Nat) : Int).fdiv (r))) * (z1)) : Int).fmod (z2)) (.int .i64 (0)), spIIi w (((r) - (((x : Int).fmod (((((z2)).natAbs : Nat) : Int).fdiv (r))) * (z1)) : Int).fdiv (z2)) (((r) - (((x : Int).fmod (((((z2)).natAbs : Nat) : Int).fdiv (r))) * (z1)) : Int).fmod (z2)) (.int .i64 (0)), spI w (((r) - (((x : Int).fmod (((((z2)).natAbs : Nat) : Int).fdiv (r))) * (z1)) : Int).fdiv (z2)), spI w (((r) - (((x : Int).fmod (((((z2)).natAbs : Nat) : Int).fdiv (r))) * (z1)) : Int).fmod (z2)), .is (.int .i64 (0)), .box 25 #[.bool false, .slice none 0 0], .box 25 #[.bool false, .slice none 0 0]]) Z (by kernel_rfl) _ rfl (by kernel_rfl) (by kernel_rfl) (by kernel_rfl) rfl (fun _ _ d _ _ h => by cases d <;> exact h) ⟨?_, ?_, ?_, ?_, ?_, ?_, ?_, ?_, ?_, ?_, ?_, ?_, ?_, trivial⟩ ?_
      · intro a e148 W Q Z; exact step_is (fun _ h => op_plain rfl rfl h) (run_load2 rfl (ev e148) (Z.bx 5 rfl))
      · intro a e150 W Q Z; exact step_is (fun _ h => op_plain rfl rfl h) (run_load2 rfl (ev e150) (Z.bx 3 rfl))
      · intro a e152 W Q Z; exact step_is (fun _ h => op_plain rfl rfl h) (run_load2 rfl (ev e152) (Z.bx 10 rfl))
      · intro a x154 e155 x156 e157 W Q Z; exact step_call (fun _ h => op_plain rfl rfl h) rfl Try.func23 rfl rfl (args2 (ev e155) (ev e157)) (Z.callI (zint_Mul.sem (Z.own 1 rfl (Bd.fm (Bd.abs (fmod_bd (k := 0) (show _ ≠ (0 : Int) by rw [hG1]; omega) (fdiv_bd (Bd.abs hb2)))) (by decide))) (Z.num 13 rfl) (Bd.fm (Bd.mul (Bd.abs (fmod_bd (k := 0) (show _ ≠ (0 : Int) by rw [hG1]; omega) (fdiv_bd (Bd.abs hb2)))) (Bd.abs hb1)) (by decide)) ))
      · intro a x159 e160 x161 e162 W Q Z; exact step_call (fun _ h => op_plain rfl rfl h) rfl Try.func21 rfl rfl (args2 (ev e160) (ev e162)) (Z.callI (zint_Sub.sem (Z.own 10 rfl (Bd.fm (Bd.abs hbr) (by decide))) (Z.own 0 rfl (Bd.fm (Bd.abs (Bd.mul (fmod_bd (k := 0) (show _ ≠ (0 : Int) by rw [hG1]; omega) (fdiv_bd (Bd.abs hb2))) hb1)) (by decide))) (Bd.fm (Bd.abs (Bd.neg (Bd.mul (fmod_bd (k := 0) (show _ ≠ (0 : Int) by rw [hG1]; omega) (fdiv_bd (Bd.abs hb2))) hb1))) (by decide)) (Bd.fm (Bd.add (Bd.abs hbr) (Bd.abs (Bd.neg (Bd.mul (fmod_bd (k := 0) (show _ ≠ (0 : Int) by rw [hG1]; omega) (fdiv_bd (Bd.abs hb2))) hb1)))) (by decide)) (Bd.fm (Bd.sub (Bd.abs (Bd.neg (Bd.mul (fmod_bd (k := 0) (show _ ≠ (0 : Int) by rw [hG1]; omega) (fdiv_bd (Bd.abs hb2))) hb1))) (Bd.abs hbr)) (by decide)) (Bd.fm (Bd.sub (Bd.abs hbr) (Bd.abs (Bd.neg (Bd.mul (fmod_bd (k := 0) (show _ ≠ (0 : Int) by rw [hG1]; omega) (fdiv_bd (Bd.abs hb2))) hb1)))) (by decide)) ))
      · intro a e164 W Q Z; exact step_is (fun _ h => op_plain rfl rfl h) (run_load2 rfl (ev e164) (Z.bx 9 rfl))
      · intro a x166 e167 x168 e169 W Q Z; exact step_call (fun _ h => op_plain rfl rfl h) rfl Try.func51 rfl rfl (args2 (ev e167) (ev e169)) (Z.callIIi (zint_Floor.sem (Z.own 0 rfl (Bd.fm (Bd.abs (Bd.sub hbr (Bd.mul (fmod_bd (k := 0) (show _ ≠ (0 : Int) by rw [hG1]; omega) (fdiv_bd (Bd.abs hb2))) hb1))) (by decide))) (Z.num 15 rfl)  (Bd.mono (Bd.sub hbr (Bd.mul (fmod_bd (k := 0) (show _ ≠ (0 : Int) by rw [hG1]; omega) (fdiv_bd (Bd.abs hb2))) hb1)) (by decide)) (Bd.mono hb2 (by decide)) h0))
      · intro a x171 e172 W Q Z; exact step_val x171 (fun _ h => op_plain rfl rfl h) (run_move rfl (ev e172)) (has_two (Z.has 0 rfl) (Z.has 1 rfl))
      · intro a x174 e175 W Q Z; exact step_val x174.1 (fun _ h => op_plain rfl rfl h) (run_extract rfl (ev e175) rfl) (has_one (Z.has 0 rfl))
      · intro a x177 e178 W Q Z; exact step_val x177.2 (fun _ h => op_plain rfl rfl h) (run_extract rfl (ev e178) rfl) (has_one (Z.has 1 rfl))
      · intro a x180 e181 W Q Z; exact step_is (fun _ h => op_plain rfl rfl h) (run_extract rfl (ev e181) rfl)
      · intro a W Q Z; exact step_box (fun _ h => op_plain rfl rfl h) (by decide) (run_alloc2 rfl)
      · intro a W Q Z; exact step_box (fun _ h => op_plain rfl rfl h) (by decide) (run_alloc2 rfl)
      clear Z; intro x149 x151 x153 x158 x163 x165 x170 x173 x176 x179 x182 g183 g184 W Z
      (try simp only [Act.put, List.setIfInBounds_toArray, List.set_cons_zero, List.set_cons_succ])
      refine seq_store Z 1 rfl rfl rfl rfl rfl ?_; clear Z; intro W Z
      (try simp only [Act.put, List.setIfInBounds_toArray, List.set_cons_zero, List.set_cons_succ])
      refine seq_store Z 0 rfl rfl rfl rfl rfl ?_; clear Z; intro W Z
      (try simp only [Act.put, List.setIfInBounds_toArray, List.set_cons_zero, List.set_cons_succ])
      refine seq_is (v := .int .i64 (0)) rfl (run_assign rfl rfl) ?_
      (try simp only [Act.put, List.setIfInBounds_toArray, List.set_cons_zero, List.set_cons_succ])
      show Code.wp _ _ _ _ _
      refine wp_seq ?_
      refine wp_orders_k (act' := { tmps := #[.agg #[.bool (b1), .slice A1 n1 c1], .agg #[.bool (b2), .slice A2 n2 c2], .pointer (some ⟨g1, 0, none⟩), .pointer (some ⟨g2, 0, none⟩), .pointer (some ⟨g3, 0, none⟩), .pointer (some ⟨g4, 0, none⟩), .pointer (some ⟨g5, 0, none⟩), .pointer (some ⟨g17, 0, none⟩), .pointer (some ⟨g18, 0, none⟩), .pointer (some ⟨g20, 0, none⟩), .pointer (some ⟨g21, 0, none⟩), j11_5, j12_5, j13_5, .pointer (some ⟨g145, 0, none⟩), .pointer (some ⟨g146, 0, none⟩), .int .i64 (0), .pointer (some ⟨g183, 0, none⟩), .pointer (some ⟨g184, 0, none⟩), .int .i64 (0), .agg #[.bool (b2), .slice A2 n2 c2], .int .i64 ((z2).sign), .bool (decide (((z2).sign) = (0))), undef, undef, undef, undef, undef, undef, .agg #[.bool (b1), .slice A1 n1 c1], .agg #[.bool (decide ((z1) < 0)), x11.v], .agg #[.bool (b2), .slice A2 n2 c2], .agg #[.bool (decide ((z2) < 0)), x16.v], .agg #[.bool (decide ((1 : Int) < 0)), x19.v], .agg #[.bool (false), .slice none 0 0], .agg #[.bool (decide (s < 0)), ps.v], .int .i64 ((s).sign), .bool (decide (((s).sign) ≠ (0))), j38_5, j39_5, j40_5, j41_5, j42_5, j43_5, j44_5, j45_5, j46_5, j47_5, j48_5, j49_5, j50_5, j51_5, j52_5, .agg #[.bool (decide (r < 0)), pr.v], .int .i64 ((r).sign), .bool (decide (((r).sign) < (0))), undef, undef, undef, undef, .tuple #[.agg #[.bool (decide (((((z2)).natAbs : Nat) : Int).fdiv (r) < 0)), x135.1.v], .agg #[.bool (decide (((((z2)).natAbs : Nat) : Int).fmod (r) < 0)), x135.2.v], .int .i64 (0)], .agg #[.bool (b2), .slice A2 n2 c2], .agg #[.bool (decide ((((z2)).natAbs : Nat) < 0)), x125.v], .agg #[.bool (decide (r < 0)), pr.v], .tuple #[.agg #[.bool (decide (((((z2)).natAbs : Nat) : Int).fdiv (r) < 0)), x132.1.v], .agg #[.bool (decide (((((z2)).natAbs : Nat) : Int).fmod (r) < 0)), x132.2.v], .int .i64 (0)], .agg #[.bool (decide (((((z2)).natAbs : Nat) : Int).fdiv (r) < 0)), x138.v], .agg #[.bool (decide (((((z2)).natAbs : Nat) : Int).fmod (r) < 0)), x141.v], .int .i64 (0), .tuple #[.agg #[.bool (decide ((x : Int).fdiv (((((z2)).natAbs : Nat) : Int).fdiv (r)) < 0)), x147.1.v], .agg #[.bool (decide ((x : Int).fmod (((((z2)).natAbs : Nat) : Int).fdiv (r)) < 0)), x147.2.v], .int .i64 (0)], .agg #[.bool (decide (x < 0)), px.v], .agg #[.bool (decide (((((z2)).natAbs : Nat) : Int).fdiv (r) < 0)), x138.v], .tuple #[.agg #[.bool (decide ((x : Int).fdiv (((((z2)).natAbs : Nat) : Int).fdiv (r)) < 0)), x147.1.v], .agg #[.bool (decide ((x : Int).fmod (((((z2)).natAbs : Nat) : Int).fdiv (r)) < 0)), x147.2.v], .int .i64 (0)], .agg #[.bool (decide ((x : Int).fdiv (((((z2)).natAbs : Nat) : Int).fdiv (r)) < 0)), x147.1.v], .agg #[.bool (decide ((x : Int).fmod (((((z2)).natAbs : Nat) : Int).fdiv (r)) < 0)), x147.2.v], .int .i64 (0), .tuple #[.agg #[.bool (decide (((r) - (((x : Int).fmod (((((z2)).natAbs : Nat) : Int).fdiv (r))) * (z1)) : Int).fdiv (z2) < 0)), x173.1.v], .agg #[.bool (decide (((r) - (((x : Int).fmod (((((z2)).natAbs : Nat) : Int).fdiv (r))) * (z1)) : Int).fmod (z2) < 0)), x173.2.v], .int .i64 (0)], .agg #[.bool (decide (r < 0)), pr.v], .agg #[.bool (decide ((x : Int).fmod (((((z2)).natAbs : Nat) : Int).fdiv (r)) < 0)), x147.2.v], .agg #[.bool (b1), .slice A1 n1 c1], .agg #[.bool (decide (((x : Int).fmod (((((z2)).natAbs : Nat) : Int).fdiv (r))) * (z1) < 0)), x158.v], .agg #[.bool (decide ((r) - (((x : Int).fmod (((((z2)).natAbs : Nat) : Int).fdiv (r))) * (z1)) < 0)), x163.v], .agg #[.bool (b2), .slice A2 n2 c2], .tuple #[.agg #[.bool (decide (((r) - (((x : Int).fmod (((((z2)).natAbs : Nat) : Int).fdiv (r))) * (z1)) : Int).fdiv (z2) < 0)), x170.1.v], .agg #[.bool (decide (((r) - (((x : Int).fmod (((((z2)).natAbs : Nat) : Int).fdiv (r))) * (z1)) : Int).fmod (z2) < 0)), x170.2.v], .int .i64 (0)], .agg #[.bool (decide (((r) - (((x : Int).fmod (((((z2)).natAbs : Nat) : Int).fdiv (r))) * (z1)) : Int).fdiv (z2) < 0)), x176.v], .agg #[.bool (decide (((r) - (((x : Int).fmod (((((z2)).natAbs : Nat) : Int).fdiv (r))) * (z1)) : Int).fmod (z2) < 0)), x179.v], .int .i64 (0), .agg #[.bool (decide (r < 0)), pr.v], .agg #[.bool (decide ((x : Int).fmod (((((z2)).natAbs : Nat) : Int).fdiv (r)) < 0)), x147.2.v], .agg #[.bool (decide (((r) - (((x : Int).fmod (((((z2)).natAbs : Nat) : Int).fdiv (r))) * (z1)) : Int).fdiv (z2) < 0)), x176.v]], defers := [] }) (ts' := [(x179.v, tyO w (mg (((r) - (((x : Int).fmod (((((z2)).natAbs : Nat) : Int).fdiv (r))) * (z1)) : Int).fmod (z2)))), (x176.v, tyO w (mg (((r) - (((x : Int).fmod (((((z2)).natAbs : Nat) : Int).fdiv (r))) * (z1)) : Int).fdiv (z2)))), (x173.1.v, tyO w (mg (((r) - (((x : Int).fmod (((((z2)).natAbs : Nat) : Int).fdiv (r))) * (z1)) : Int).fdiv (z2)))), (x173.2.v, tyO w (mg (((r) - (((x : Int).fmod (((((z2)).natAbs : Nat) : Int).fdiv (r))) * (z1)) : Int).fmod (z2)))), (x170.1.v, tyO w (mg (((r) - (((x : Int).fmod (((((z2)).natAbs : Nat) : Int).fdiv (r))) * (z1)) : Int).fdiv (z2)))), (x170.2.v, tyO w (mg (((r) - (((x : Int).fmod (((((z2)).natAbs : Nat) : Int).fdiv (r))) * (z1)) : Int).fmod (z2)))), (x163.v, tyO w (mg ((r) - (((x : Int).fmod (((((z2)).natAbs : Nat) : Int).fdiv (r))) * (z1))))), (x158.v, tyO w (mg (((x : Int).fmod (((((z2)).natAbs : Nat) : Int).fdiv (r))) * (z1)))), (x147.1.v, tyO w (mg ((x : Int).fdiv (((((z2)).natAbs : Nat) : Int).fdiv (r))))), (x147.2.v, tyO w (mg ((x : Int).fmod (((((z2)).natAbs : Nat) : Int).fdiv (r))))), (x141.v, tyO w (mg (((((z2)).natAbs : Nat) : Int).fmod (r)))), (x138.v, tyO w (mg (((((z2)).natAbs : Nat) : Int).fdiv (r)))), (x135.1.v, tyO w (mg (((((z2)).natAbs : Nat) : Int).fdiv (r)))), (x135.2.v, tyO w (mg (((((z2)).natAbs : Nat) : Int).fmod (r)))), (x132.1.v, tyO w (mg (((((z2)).natAbs : Nat) : Int).fdiv (r)))), (x132.2.v, tyO w (mg (((((z2)).natAbs : Nat) : Int).fmod (r)))), (x125.v, tyO w (mg ((((z2)).natAbs : Nat)))), (pr.v, tyO w (mg r)), (ps.v, tyO w (mg s)), (px.v, tyO w (mg x)), (pu.v, tyO w (mg u)), (.slice A1 n1 c1, tyN b1 z1), (.slice A2 n2 c2, tyN b2 z2)]) (bs' := [(g184, 25, #[.bool (decide (((r) - (((x : Int).fmod (((((z2)).natAbs : Nat) : Int).fdiv (r))) * (z1)) : Int).fmod (z2) < 0)), x179.v]), (g183, 25, #[.bool (decide (((r) - (((x : Int).fmod (((((z2)).natAbs : Nat) : Int).fdiv (r))) * (z1)) : Int).fdiv (z2) < 0)), x176.v]), (g146, 25, #[.bool (decide (((((z2)).natAbs : Nat) : Int).fmod (r) < 0)), x141.v]), (g145, 25, #[.bool (decide (((((z2)).natAbs : Nat) : Int).fdiv (r) < 0)), x138.v]), (g21, 25, #[.bool (decide (u < 0)), pu.v]), (g20, 25, #[.bool (decide ((x : Int).fmod (((((z2)).natAbs : Nat) : Int).fdiv (r)) < 0)), x147.2.v]), (g18, 25, #[.bool (decide (s < 0)), ps.v]), (g17, 25, #[.bool (decide (r < 0)), pr.v]), (g5, 25, #[.bool (decide (((r) - (((x : Int).fmod (((((z2)).natAbs : Nat) : Int).fdiv (r))) * (z1)) : Int).fdiv (z2) < 0)), x176.v]), (g4, 25, #[.bool (decide ((x : Int).fmod (((((z2)).natAbs : Nat) : Int).fdiv (r)) < 0)), x147.2.v]), (g3, 25, #[.bool (decide (r < 0)), pr.v]), (g2, 25, #[.bool (b2), .slice A2 n2 c2]), (g1, 25, #[.bool (b1), .slice A1 n1 c1])]) Z (by kernel_rfl) [[0, 1, 2, 3, 4, 5], [0, 1, 3, 2, 4, 5], [0, 1, 3, 4, 2, 5], [0, 2, 1, 3, 4, 5], [0, 2, 3, 1, 4, 5], [0, 3, 1, 2, 4, 5], [0, 3, 1, 4, 2, 5], [0, 3, 2, 1, 4, 5], [1, 0, 2, 3, 4, 5], [1, 0, 3, 2, 4, 5], [1, 0, 3, 4, 2, 5], [1, 2, 0, 3, 4, 5], [2, 0, 1, 3, 4, 5], [2, 0, 3, 1, 4, 5], [2, 1, 0, 3, 4, 5]] (by kernel_rfl) (fun K W Z o ho => ?_) (fun W Z => ?_)
      · simp only [List.mem_cons, List.not_mem_nil, or_false] at ho; rcases ho with rfl | rfl | rfl | rfl | rfl | rfl | rfl | rfl | rfl | rfl | rfl | rfl | rfl | rfl | rfl
        · show wpList _ _ _ [_, _, _, _, _, _] _ _
          refine seq_is (v := .agg #[.bool (decide (r < 0)), pr.v]) rfl (run_load2 rfl rfl (Z.bx 7 rfl)) ?_
          (try simp only [Act.put, List.setIfInBounds_toArray, List.set_cons_zero, List.set_cons_succ])
          refine seq_is (v := .agg #[.bool (decide ((x : Int).fmod (((((z2)).natAbs : Nat) : Int).fdiv (r)) < 0)), x147.2.v]) rfl (run_load2 rfl rfl (Z.bx 5 rfl)) ?_
          (try simp only [Act.put, List.setIfInBounds_toArray, List.set_cons_zero, List.set_cons_succ])
          refine seq_is (v := .agg #[.bool (decide (((r) - (((x : Int).fmod (((((z2)).natAbs : Nat) : Int).fdiv (r))) * (z1)) : Int).fdiv (z2) < 0)), x176.v]) rfl (run_load2 rfl rfl (Z.bx 1 rfl)) ?_
          (try simp only [Act.put, List.setIfInBounds_toArray, List.set_cons_zero, List.set_cons_succ])
          refine seq_store Z 10 rfl rfl rfl rfl rfl ?_; clear Z; intro W Z
          (try simp only [Act.put, List.setIfInBounds_toArray, List.set_cons_zero, List.set_cons_succ])
          refine seq_store Z 9 rfl rfl rfl rfl rfl ?_; clear Z; intro W Z
          (try simp only [Act.put, List.setIfInBounds_toArray, List.set_cons_zero, List.set_cons_succ])
          refine seq_store Z 8 rfl rfl rfl rfl rfl ?_; clear Z; intro W Z
          (try simp only [Act.put, List.setIfInBounds_toArray, List.set_cons_zero, List.set_cons_succ])
          exact K _ Z
        · show wpList _ _ _ [_, _, _, _, _, _] _ _
          refine seq_is (v := .agg #[.bool (decide (r < 0)), pr.v]) rfl (run_load2 rfl rfl (Z.bx 7 rfl)) ?_
          (try simp only [Act.put, List.setIfInBounds_toArray, List.set_cons_zero, List.set_cons_succ])
          refine seq_is (v := .agg #[.bool (decide ((x : Int).fmod (((((z2)).natAbs : Nat) : Int).fdiv (r)) < 0)), x147.2.v]) rfl (run_load2 rfl rfl (Z.bx 5 rfl)) ?_
          (try simp only [Act.put, List.setIfInBounds_toArray, List.set_cons_zero, List.set_cons_succ])
          refine seq_store Z 10 rfl rfl rfl rfl rfl ?_; clear Z; intro W Z
          (try simp only [Act.put, List.setIfInBounds_toArray, List.set_cons_zero, List.set_cons_succ])
          refine seq_is (v := .agg #[.bool (decide (((r) - (((x : Int).fmod (((((z2)).natAbs : Nat) : Int).fdiv (r))) * (z1)) : Int).fdiv (z2) < 0)), x176.v]) rfl (run_load2 rfl rfl (Z.bx 1 rfl)) ?_
          (try simp only [Act.put, List.setIfInBounds_toArray, List.set_cons_zero, List.set_cons_succ])
          refine seq_store Z 9 rfl rfl rfl rfl rfl ?_; clear Z; intro W Z
          (try simp only [Act.put, List.setIfInBounds_toArray, List.set_cons_zero, List.set_cons_succ])
          refine seq_store Z 8 rfl rfl rfl rfl rfl ?_; clear Z; intro W Z
          (try simp only [Act.put, List.setIfInBounds_toArray, List.set_cons_zero, List.set_cons_succ])
          exact K _ Z
        · show wpList _ _ _ [_, _, _, _, _, _] _ _
          refine seq_is (v := .agg #[.bool (decide (r < 0)), pr.v]) rfl (run_load2 rfl rfl (Z.bx 7 rfl)) ?_
          (try simp only [Act.put, List.setIfInBounds_toArray, List.set_cons_zero, List.set_cons_succ])
          refine seq_is (v := .agg #[.bool (decide ((x : Int).fmod (((((z2)).natAbs : Nat) : Int).fdiv (r)) < 0)), x147.2.v]) rfl (run_load2 rfl rfl (Z.bx 5 rfl)) ?_
          (try simp only [Act.put, List.setIfInBounds_toArray, List.set_cons_zero, List.set_cons_succ])
          refine seq_store Z 10 rfl rfl rfl rfl rfl ?_; clear Z; intro W Z
          (try simp only [Act.put, List.setIfInBounds_toArray, List.set_cons_zero, List.set_cons_succ])
          refine seq_store Z 9 rfl rfl rfl rfl rfl ?_; clear Z; intro W Z
          (try simp only [Act.put, List.setIfInBounds_toArray, List.set_cons_zero, List.set_cons_succ])
          refine seq_is (v := .agg #[.bool (decide (((r) - (((x : Int).fmod (((((z2)).natAbs : Nat) : Int).fdiv (r))) * (z1)) : Int).fdiv (z2) < 0)), x176.v]) rfl (run_load2 rfl rfl (Z.bx 1 rfl)) ?_
          (try simp only [Act.put, List.setIfInBounds_toArray, List.set_cons_zero, List.set_cons_succ])
          refine seq_store Z 8 rfl rfl rfl rfl rfl ?_; clear Z; intro W Z
          (try simp only [Act.put, List.setIfInBounds_toArray, List.set_cons_zero, List.set_cons_succ])
          exact K _ Z
        · show wpList _ _ _ [_, _, _, _, _, _] _ _
          refine seq_is (v := .agg #[.bool (decide (r < 0)), pr.v]) rfl (run_load2 rfl rfl (Z.bx 7 rfl)) ?_
          (try simp only [Act.put, List.setIfInBounds_toArray, List.set_cons_zero, List.set_cons_succ])
          refine seq_is (v := .agg #[.bool (decide (((r) - (((x : Int).fmod (((((z2)).natAbs : Nat) : Int).fdiv (r))) * (z1)) : Int).fdiv (z2) < 0)), x176.v]) rfl (run_load2 rfl rfl (Z.bx 1 rfl)) ?_
          (try simp only [Act.put, List.setIfInBounds_toArray, List.set_cons_zero, List.set_cons_succ])
          refine seq_is (v := .agg #[.bool (decide ((x : Int).fmod (((((z2)).natAbs : Nat) : Int).fdiv (r)) < 0)), x147.2.v]) rfl (run_load2 rfl rfl (Z.bx 5 rfl)) ?_
          (try simp only [Act.put, List.setIfInBounds_toArray, List.set_cons_zero, List.set_cons_succ])
          refine seq_store Z 10 rfl rfl rfl rfl rfl ?_; clear Z; intro W Z
          (try simp only [Act.put, List.setIfInBounds_toArray, List.set_cons_zero, List.set_cons_succ])
          refine seq_store Z 9 rfl rfl rfl rfl rfl ?_; clear Z; intro W Z
          (try simp only [Act.put, List.setIfInBounds_toArray, List.set_cons_zero, List.set_cons_succ])
          refine seq_store Z 8 rfl rfl rfl rfl rfl ?_; clear Z; intro W Z
          (try simp only [Act.put, List.setIfInBounds_toArray, List.set_cons_zero, List.set_cons_succ])
          exact K _ Z
        · show wpList _ _ _ [_, _, _, _, _, _] _ _
          refine seq_is (v := .agg #[.bool (decide (r < 0)), pr.v]) rfl (run_load2 rfl rfl (Z.bx 7 rfl)) ?_
          (try simp only [Act.put, List.setIfInBounds_toArray, List.set_cons_zero, List.set_cons_succ])
          refine seq_is (v := .agg #[.bool (decide (((r) - (((x : Int).fmod (((((z2)).natAbs : Nat) : Int).fdiv (r))) * (z1)) : Int).fdiv (z2) < 0)), x176.v]) rfl (run_load2 rfl rfl (Z.bx 1 rfl)) ?_
          (try simp only [Act.put, List.setIfInBounds_toArray, List.set_cons_zero, List.set_cons_succ])
          refine seq_store Z 10 rfl rfl rfl rfl rfl ?_; clear Z; intro W Z
          (try simp only [Act.put, List.setIfInBounds_toArray, List.set_cons_zero, List.set_cons_succ])
          refine seq_is (v := .agg #[.bool (decide ((x : Int).fmod (((((z2)).natAbs : Nat) : Int).fdiv (r)) < 0)), x147.2.v]) rfl (run_load2 rfl rfl (Z.bx 5 rfl)) ?_
          (try simp only [Act.put, List.setIfInBounds_toArray, List.set_cons_zero, List.set_cons_succ])
          refine seq_store Z 9 rfl rfl rfl rfl rfl ?_; clear Z; intro W Z
          (try simp only [Act.put, List.setIfInBounds_toArray, List.set_cons_zero, List.set_cons_succ])
          refine seq_store Z 8 rfl rfl rfl rfl rfl ?_; clear Z; intro W Z
          (try simp only [Act.put, List.setIfInBounds_toArray, List.set_cons_zero, List.set_cons_succ])
          exact K _ Z
        · show wpList _ _ _ [_, _, _, _, _, _] _ _
          refine seq_is (v := .agg #[.bool (decide (r < 0)), pr.v]) rfl (run_load2 rfl rfl (Z.bx 7 rfl)) ?_
          (try simp only [Act.put, List.setIfInBounds_toArray, List.set_cons_zero, List.set_cons_succ])
          refine seq_store Z 10 rfl rfl rfl rfl rfl ?_; clear Z; intro W Z
          (try simp only [Act.put, List.setIfInBounds_toArray, List.set_cons_zero, List.set_cons_succ])
          refine seq_is (v := .agg #[.bool (decide ((x : Int).fmod (((((z2)).natAbs : Nat) : Int).fdiv (r)) < 0)), x147.2.v]) rfl (run_load2 rfl rfl (Z.bx 5 rfl)) ?_
          (try simp only [Act.put, List.setIfInBounds_toArray, List.set_cons_zero, List.set_cons_succ])
          refine seq_is (v := .agg #[.bool (decide (((r) - (((x : Int).fmod (((((z2)).natAbs : Nat) : Int).fdiv (r))) * (z1)) : Int).fdiv (z2) < 0)), x176.v]) rfl (run_load2 rfl rfl (Z.bx 1 rfl)) ?_
          (try simp only [Act.put, List.setIfInBounds_toArray, List.set_cons_zero, List.set_cons_succ])
          refine seq_store Z 9 rfl rfl rfl rfl rfl ?_; clear Z; intro W Z
          (try simp only [Act.put, List.setIfInBounds_toArray, List.set_cons_zero, List.set_cons_succ])
          refine seq_store Z 8 rfl rfl rfl rfl rfl ?_; clear Z; intro W Z
          (try simp only [Act.put, List.setIfInBounds_toArray, List.set_cons_zero, List.set_cons_succ])
          exact K _ Z
        · show wpList _ _ _ [_, _, _, _, _, _] _ _
          refine seq_is (v := .agg #[.bool (decide (r < 0)), pr.v]) rfl (run_load2 rfl rfl (Z.bx 7 rfl)) ?_
          (try simp only [Act.put, List.setIfInBounds_toArray, List.set_cons_zero, List.set_cons_succ])
          refine seq_store Z 10 rfl rfl rfl rfl rfl ?_; clear Z; intro W Z
          (try simp only [Act.put, List.setIfInBounds_toArray, List.set_cons_zero, List.set_cons_succ])
          refine seq_is (v := .agg #[.bool (decide ((x : Int).fmod (((((z2)).natAbs : Nat) : Int).fdiv (r)) < 0)), x147.2.v]) rfl (run_load2 rfl rfl (Z.bx 5 rfl)) ?_
          (try simp only [Act.put, List.setIfInBounds_toArray, List.set_cons_zero, List.set_cons_succ])
          refine seq_store Z 9 rfl rfl rfl rfl rfl ?_; clear Z; intro W Z
          (try simp only [Act.put, List.setIfInBounds_toArray, List.set_cons_zero, List.set_cons_succ])
          refine seq_is (v := .agg #[.bool (decide (((r) - (((x : Int).fmod (((((z2)).natAbs : Nat) : Int).fdiv (r))) * (z1)) : Int).fdiv (z2) < 0)), x176.v]) rfl (run_load2 rfl rfl (Z.bx 1 rfl)) ?_
          (try simp only [Act.put, List.setIfInBounds_toArray, List.set_cons_zero, List.set_cons_succ])
          refine seq_store Z 8 rfl rfl rfl rfl rfl ?_; clear Z; intro W Z
          (try simp only [Act.put, List.setIfInBounds_toArray, List.set_cons_zero, List.set_cons_succ])
          exact K _ Z
        · show wpList _ _ _ [_, _, _, _, _, _] _ _
          refine seq_is (v := .agg #[.bool (decide (r < 0)), pr.v]) rfl (run_load2 rfl rfl (Z.bx 7 rfl)) ?_
          (try simp only [Act.put, List.setIfInBounds_toArray, List.set_cons_zero, List.set_cons_succ])
          refine seq_store Z 10 rfl rfl rfl rfl rfl ?_; clear Z; intro W Z
          (try simp only [Act.put, List.setIfInBounds_toArray, List.set_cons_zero, List.set_cons_succ])
          refine seq_is (v := .agg #[.bool (decide (((r) - (((x : Int).fmod (((((z2)).natAbs : Nat) : Int).fdiv (r))) * (z1)) : Int).fdiv (z2) < 0)), x176.v]) rfl (run_load2 rfl rfl (Z.bx 1 rfl)) ?_
          (try simp only [Act.put, List.setIfInBounds_toArray, List.set_cons_zero, List.set_cons_succ])
          refine seq_is (v := .agg #[.bool (decide ((x : Int).fmod (((((z2)).natAbs : Nat) : Int).fdiv (r)) < 0)), x147.2.v]) rfl (run_load2 rfl rfl (Z.bx 5 rfl)) ?_
          (try simp only [Act.put, List.setIfInBounds_toArray, List.set_cons_zero, List.set_cons_succ])
          refine seq_store Z 9 rfl rfl rfl rfl rfl ?_; clear Z; intro W Z
          (try simp only [Act.put, List.setIfInBounds_toArray, List.set_cons_zero, List.set_cons_succ])
          refine seq_store Z 8 rfl rfl rfl rfl rfl ?_; clear Z; intro W Z
          (try simp only [Act.put, List.setIfInBounds_toArray, List.set_cons_zero, List.set_cons_succ])
          exact K _ Z
        · show wpList _ _ _ [_, _, _, _, _, _] _ _
          refine seq_is (v := .agg #[.bool (decide ((x : Int).fmod (((((z2)).natAbs : Nat) : Int).fdiv (r)) < 0)), x147.2.v]) rfl (run_load2 rfl rfl (Z.bx 5 rfl)) ?_
          (try simp only [Act.put, List.setIfInBounds_toArray, List.set_cons_zero, List.set_cons_succ])
          refine seq_is (v := .agg #[.bool (decide (r < 0)), pr.v]) rfl (run_load2 rfl rfl (Z.bx 7 rfl)) ?_
          (try simp only [Act.put, List.setIfInBounds_toArray, List.set_cons_zero, List.set_cons_succ])
          refine seq_is (v := .agg #[.bool (decide (((r) - (((x : Int).fmod (((((z2)).natAbs : Nat) : Int).fdiv (r))) * (z1)) : Int).fdiv (z2) < 0)), x176.v]) rfl (run_load2 rfl rfl (Z.bx 1 rfl)) ?_
          (try simp only [Act.put, List.setIfInBounds_toArray, List.set_cons_zero, List.set_cons_succ])
          refine seq_store Z 10 rfl rfl rfl rfl rfl ?_; clear Z; intro W Z
          (try simp only [Act.put, List.setIfInBounds_toArray, List.set_cons_zero, List.set_cons_succ])
          refine seq_store Z 9 rfl rfl rfl rfl rfl ?_; clear Z; intro W Z
          (try simp only [Act.put, List.setIfInBounds_toArray, List.set_cons_zero, List.set_cons_succ])
          refine seq_store Z 8 rfl rfl rfl rfl rfl ?_; clear Z; intro W Z
          (try simp only [Act.put, List.setIfInBounds_toArray, List.set_cons_zero, List.set_cons_succ])
          exact K _ Z
        · show wpList _ _ _ [_, _, _, _, _, _] _ _
          refine seq_is (v := .agg #[.bool (decide ((x : Int).fmod (((((z2)).natAbs : Nat) : Int).fdiv (r)) < 0)), x147.2.v]) rfl (run_load2 rfl rfl (Z.bx 5 rfl)) ?_
          (try simp only [Act.put, List.setIfInBounds_toArray, List.set_cons_zero, List.set_cons_succ])
          refine seq_is (v := .agg #[.bool (decide (r < 0)), pr.v]) rfl (run_load2 rfl rfl (Z.bx 7 rfl)) ?_
          (try simp only [Act.put, List.setIfInBounds_toArray, List.set_cons_zero, List.set_cons_succ])
          refine seq_store Z 10 rfl rfl rfl rfl rfl ?_; clear Z; intro W Z
          (try simp only [Act.put, List.setIfInBounds_toArray, List.set_cons_zero, List.set_cons_succ])
          refine seq_is (v := .agg #[.bool (decide (((r) - (((x : Int).fmod (((((z2)).natAbs : Nat) : Int).fdiv (r))) * (z1)) : Int).fdiv (z2) < 0)), x176.v]) rfl (run_load2 rfl rfl (Z.bx 1 rfl)) ?_
          (try simp only [Act.put, List.setIfInBounds_toArray, List.set_cons_zero, List.set_cons_succ])
          refine seq_store Z 9 rfl rfl rfl rfl rfl ?_; clear Z; intro W Z
          (try simp only [Act.put, List.setIfInBounds_toArray, List.set_cons_zero, List.set_cons_succ])
          refine seq_store Z 8 rfl rfl rfl rfl rfl ?_; clear Z; intro W Z
          (try simp only [Act.put, List.setIfInBounds_toArray, List.set_cons_zero, List.set_cons_succ])
          exact K _ Z
        · show wpList _ _ _ [_, _, _, _, _, _] _ _
          refine seq_is (v := .agg #[.bool (decide ((x : Int).fmod (((((z2)).natAbs : Nat) : Int).fdiv (r)) < 0)), x147.2.v]) rfl (run_load2 rfl rfl (Z.bx 5 rfl)) ?_
          (try simp only [Act.put, List.setIfInBounds_toArray, List.set_cons_zero, List.set_cons_succ])
          refine seq_is (v := .agg #[.bool (decide (r < 0)), pr.v]) rfl (run_load2 rfl rfl (Z.bx 7 rfl)) ?_
          (try simp only [Act.put, List.setIfInBounds_toArray, List.set_cons_zero, List.set_cons_succ])
          refine seq_store Z 10 rfl rfl rfl rfl rfl ?_; clear Z; intro W Z
          (try simp only [Act.put, List.setIfInBounds_toArray, List.set_cons_zero, List.set_cons_succ])
          refine seq_store Z 9 rfl rfl rfl rfl rfl ?_; clear Z; intro W Z
          (try simp only [Act.put, List.setIfInBounds_toArray, List.set_cons_zero, List.set_cons_succ])
          refine seq_is (v := .agg #[.bool (decide (((r) - (((x : Int).fmod (((((z2)).natAbs : Nat) : Int).fdiv (r))) * (z1)) : Int).fdiv (z2) < 0)), x176.v]) rfl (run_load2 rfl rfl (Z.bx 1 rfl)) ?_
          (try simp only [Act.put, List.setIfInBounds_toArray, List.set_cons_zero, List.set_cons_succ])
          refine seq_store Z 8 rfl rfl rfl rfl rfl ?_; clear Z; intro W Z
          (try simp only [Act.put, List.setIfInBounds_toArray, List.set_cons_zero, List.set_cons_succ])
          exact K _ Z
        · show wpList _ _ _ [_, _, _, _, _, _] _ _
          refine seq_is (v := .agg #[.bool (decide ((x : Int).fmod (((((z2)).natAbs : Nat) : Int).fdiv (r)) < 0)), x147.2.v]) rfl (run_load2 rfl rfl (Z.bx 5 rfl)) ?_
          (try simp only [Act.put, List.setIfInBounds_toArray, List.set_cons_zero, List.set_cons_succ])
          refine seq_is (v := .agg #[.bool (decide (((r) - (((x : Int).fmod (((((z2)).natAbs : Nat) : Int).fdiv (r))) * (z1)) : Int).fdiv (z2) < 0)), x176.v]) rfl (run_load2 rfl rfl (Z.bx 1 rfl)) ?_
          (try simp only [Act.put, List.setIfInBounds_toArray, List.set_cons_zero, List.set_cons_succ])
          refine seq_is (v := .agg #[.bool (decide (r < 0)), pr.v]) rfl (run_load2 rfl rfl (Z.bx 7 rfl)) ?_
          (try simp only [Act.put, List.setIfInBounds_toArray, List.set_cons_zero, List.set_cons_succ])
          refine seq_store Z 10 rfl rfl rfl rfl rfl ?_; clear Z; intro W Z
          (try simp only [Act.put, List.setIfInBounds_toArray, List.set_cons_zero, List.set_cons_succ])
          refine seq_store Z 9 rfl rfl rfl rfl rfl ?_; clear Z; intro W Z
          (try simp only [Act.put, List.setIfInBounds_toArray, List.set_cons_zero, List.set_cons_succ])
          refine seq_store Z 8 rfl rfl rfl rfl rfl ?_; clear Z; intro W Z
          (try simp only [Act.put, List.setIfInBounds_toArray, List.set_cons_zero, List.set_cons_succ])
          exact K _ Z
        · show wpList _ _ _ [_, _, _, _, _, _] _ _
          refine seq_is (v := .agg #[.bool (decide (((r) - (((x : Int).fmod (((((z2)).natAbs : Nat) : Int).fdiv (r))) * (z1)) : Int).fdiv (z2) < 0)), x176.v]) rfl (run_load2 rfl rfl (Z.bx 1 rfl)) ?_
          (try simp only [Act.put, List.setIfInBounds_toArray, List.set_cons_zero, List.set_cons_succ])
          refine seq_is (v := .agg #[.bool (decide (r < 0)), pr.v]) rfl (run_load2 rfl rfl (Z.bx 7 rfl)) ?_
          (try simp only [Act.put, List.setIfInBounds_toArray, List.set_cons_zero, List.set_cons_succ])
          refine seq_is (v := .agg #[.bool (decide ((x : Int).fmod (((((z2)).natAbs : Nat) : Int).fdiv (r)) < 0)), x147.2.v]) rfl (run_load2 rfl rfl (Z.bx 5 rfl)) ?_
          (try simp only [Act.put, List.setIfInBounds_toArray, List.set_cons_zero, List.set_cons_succ])
          refine seq_store Z 10 rfl rfl rfl rfl rfl ?_; clear Z; intro W Z
          (try simp only [Act.put, List.setIfInBounds_toArray, List.set_cons_zero, List.set_cons_succ])
          refine seq_store Z 9 rfl rfl rfl rfl rfl ?_; clear Z; intro W Z
          (try simp only [Act.put, List.setIfInBounds_toArray, List.set_cons_zero, List.set_cons_succ])
          refine seq_store Z 8 rfl rfl rfl rfl rfl ?_; clear Z; intro W Z
          (try simp only [Act.put, List.setIfInBounds_toArray, List.set_cons_zero, List.set_cons_succ])
          exact K _ Z
        · show wpList _ _ _ [_, _, _, _, _, _] _ _
          refine seq_is (v := .agg #[.bool (decide (((r) - (((x : Int).fmod (((((z2)).natAbs : Nat) : Int).fdiv (r))) * (z1)) : Int).fdiv (z2) < 0)), x176.v]) rfl (run_load2 rfl rfl (Z.bx 1 rfl)) ?_
          (try simp only [Act.put, List.setIfInBounds_toArray, List.set_cons_zero, List.set_cons_succ])
          refine seq_is (v := .agg #[.bool (decide (r < 0)), pr.v]) rfl (run_load2 rfl rfl (Z.bx 7 rfl)) ?_
          (try simp only [Act.put, List.setIfInBounds_toArray, List.set_cons_zero, List.set_cons_succ])
          refine seq_store Z 10 rfl rfl rfl rfl rfl ?_; clear Z; intro W Z
          (try simp only [Act.put, List.setIfInBounds_toArray, List.set_cons_zero, List.set_cons_succ])
          refine seq_is (v := .agg #[.bool (decide ((x : Int).fmod (((((z2)).natAbs : Nat) : Int).fdiv (r)) < 0)), x147.2.v]) rfl (run_load2 rfl rfl (Z.bx 5 rfl)) ?_
          (try simp only [Act.put, List.setIfInBounds_toArray, List.set_cons_zero, List.set_cons_succ])
          refine seq_store Z 9 rfl rfl rfl rfl rfl ?_; clear Z; intro W Z
          (try simp only [Act.put, List.setIfInBounds_toArray, List.set_cons_zero, List.set_cons_succ])
          refine seq_store Z 8 rfl rfl rfl rfl rfl ?_; clear Z; intro W Z
          (try simp only [Act.put, List.setIfInBounds_toArray, List.set_cons_zero, List.set_cons_succ])
          exact K _ Z
        · show wpList _ _ _ [_, _, _, _, _, _] _ _
          refine seq_is (v := .agg #[.bool (decide (((r) - (((x : Int).fmod (((((z2)).natAbs : Nat) : Int).fdiv (r))) * (z1)) : Int).fdiv (z2) < 0)), x176.v]) rfl (run_load2 rfl rfl (Z.bx 1 rfl)) ?_
          (try simp only [Act.put, List.setIfInBounds_toArray, List.set_cons_zero, List.set_cons_succ])
          refine seq_is (v := .agg #[.bool (decide ((x : Int).fmod (((((z2)).natAbs : Nat) : Int).fdiv (r)) < 0)), x147.2.v]) rfl (run_load2 rfl rfl (Z.bx 5 rfl)) ?_
          (try simp only [Act.put, List.setIfInBounds_toArray, List.set_cons_zero, List.set_cons_succ])
          refine seq_is (v := .agg #[.bool (decide (r < 0)), pr.v]) rfl (run_load2 rfl rfl (Z.bx 7 rfl)) ?_
          (try simp only [Act.put, List.setIfInBounds_toArray, List.set_cons_zero, List.set_cons_succ])
          refine seq_store Z 10 rfl rfl rfl rfl rfl ?_; clear Z; intro W Z
          (try simp only [Act.put, List.setIfInBounds_toArray, List.set_cons_zero, List.set_cons_succ])
          refine seq_store Z 9 rfl rfl rfl rfl rfl ?_; clear Z; intro W Z
          (try simp only [Act.put, List.setIfInBounds_toArray, List.set_cons_zero, List.set_cons_succ])
          refine seq_store Z 8 rfl rfl rfl rfl rfl ?_; clear Z; intro W Z
          (try simp only [Act.put, List.setIfInBounds_toArray, List.set_cons_zero, List.set_cons_succ])
          exact K _ Z
      · show Code.wp _ _ _ _ _
        refine wp_ret ?_
        exact Z.endsIII (d := 0) (u' := undef) 10 17 9 9 8 1 rfl rfl rfl rfl rfl rfl rfl rfl rfl rfl rfl (by exact hF.1) (by exact hF.2.1) (by exact hF.2.2)
theorem zint_Bezout.sem {w : World} {b1 : Bool} {v1 : Value} {z1 : Int} {b2 : Bool} {v2 : Value} {z2 : Int} (m1 : NumV w b1 v1 z1) (m2 : NumV w b2 v2 z2) (hb1 : Bd 40000000 z1) (hb2 : Bd 40000000 z2) : Calls Try.prog 59 #[.agg #[.bool b1, v1], .agg #[.bool b2, v2]] w (ResIII w (bezG z1 z2) (bezX z1 z2) (bezY z1 z2)) := by
  by_cases h0 : z2 = 0
  · exact zint_Bezout.sem0 m1 m2 hb1 hb2 h0
  · exact zint_Bezout.semN m1 m2 hb1 hb2 h0
end Go.Proofs.Ytmbmbmkmjbpcpaa.PA

