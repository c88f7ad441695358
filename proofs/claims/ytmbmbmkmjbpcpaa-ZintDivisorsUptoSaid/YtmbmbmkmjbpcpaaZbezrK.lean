/- The walk of Bezout (the document's). -/
import Derived.Outline
import Derived.Test.YtmbmbmkmjbpcpaaZJK
import Derived.Test.YtmbmbmkmjbpcpaaPAx0K
namespace Go.Proofs.Ytmbmbmkmjbpcpaa.PA
open Go Go.Proofs.Ytmbmbmkmjbpcpaa.Nums Go.RowKit Go.Proofs.YtmbmbmkmjbpcpaaW.PrintWords Go.Proofs.YtmbmbmkmjbpcpaaW.PrintLast Go.Proofs.YtmbmbmkmjbpcpaaW.PrintMore
set_option linter.unusedVariables false
set_option linter.unusedSimpArgs false
set_option maxHeartbeats 4000000 in
set_option maxRecDepth 100000 in
theorem trammelref02_Bezout.sem0 {w : World} {b1 : Bool} {v1 : Value} {z1 : Int} {b2 : Bool} {v2 : Value} {z2 : Int} (m1 : NumV w b1 v1 z1) (m2 : NumV w b2 v2 z2) (hb1 : Bd 40000000 z1) (hb2 : Bd 40000000 z2) (h0 : z2 = 0) : Calls Try.prog 60 #[.agg #[.bool b1, v1], .agg #[.bool b2, v2]] w (ResIII w (bezG z1 z2) (bezX z1 z2) (bezY z1 z2)) := by
  obtain ⟨A1, n1, c1, rfl⟩ := m1.form
  obtain ⟨A2, n2, c2, rfl⟩ := m2.form
  have Z := Zt.begin2 m1 m2
  have hsg := sign0_t h0
  have hsr := sign_rng z1
  go_enter Try.func60, Try.ntmps60
  refine wp_seq ?_
  refine wp_region_list ?_
  refine seq_box Z rfl rfl rfl ?_; clear Z; intro g1 W Z
  (try simp only [Act.put, List.setIfInBounds_toArray, List.set_cons_zero, List.set_cons_succ])
  refine seq_box Z rfl rfl rfl ?_; clear Z; intro g2 W Z
  (try simp only [Act.put, List.setIfInBounds_toArray, List.set_cons_zero, List.set_cons_succ])
  refine seq_alloc Z rfl rfl ?_; clear Z; intro g3 W Z
  (try simp only [Act.put, List.setIfInBounds_toArray, List.set_cons_zero, List.set_cons_succ])
  refine seq_alloc Z rfl rfl ?_; clear Z; intro g4 W Z
  (try simp only [Act.put, List.setIfInBounds_toArray, List.set_cons_zero, List.set_cons_succ])
  refine seq_alloc Z rfl rfl ?_; clear Z; intro g5 W Z
  (try simp only [Act.put, List.setIfInBounds_toArray, List.set_cons_zero, List.set_cons_succ])
  show Code.wp _ _ _ _ _
  refine wp_seq ?_
  refine wp_seq ?_
  refine wp_region_list ?_
  refine seq_is (v := .agg #[.bool (b2), .slice A2 n2 c2]) rfl (run_load2 rfl rfl (Z.bx 3 rfl)) ?_
  (try simp only [Act.put, List.setIfInBounds_toArray, List.set_cons_zero, List.set_cons_succ])
  refine seq_call Z rfl rfl Try.func37 rfl rfl (args1 rfl) (Z.callV (trammelref02_Sign.sem (Z.num 1 rfl) (Bd.fm (Bd.abs hb2) (by decide)) )) ?_; clear Z; intro x6 W Z
  (try simp only [Act.put, List.setIfInBounds_toArray, List.set_cons_zero, List.set_cons_succ])
  refine seq_is (v := .bool (decide (((z2).sign) = (0)))) rfl (run_eql rfl rfl rfl) ?_
  (try simp only [Act.put, List.setIfInBounds_toArray, List.set_cons_zero, List.set_cons_succ])
  show Code.wp _ _ _ _ _
  refine wp_cond_true ((show _ = Value.bool (decide (((z2).sign) = (0))) from rfl).trans (congrArg Value.bool hsg)) ?_
  refine wp_seq ?_
  refine wp_dag (pre := [_, _, _, _, _, _]) (sps := [.is (.agg #[.bool (b1), .slice A1 n1 c1]), spI w ((((z1)).natAbs : Nat)), .is (.agg #[.bool (b1), .slice A1 n1 c1]), .is (.int .i64 ((z1).sign)), spI w ((z1).sign), spI w ((0 : Int))]) Z (by kernel_rfl) _ rfl (by kernel_rfl) (by kernel_rfl) rfl ⟨?_, ?_, ?_, ?_, ?_, ?_, trivial⟩ ?_
  · intro a e7 W Q Z; exact step_is (fun _ h => op_plain rfl rfl h) (run_load2 rfl (ev e7) (Z.bx 4 rfl))
  · intro a x9 e10 W Q Z; exact step_call (fun _ h => op_plain rfl rfl h) rfl Try.func28 rfl rfl (args1 (ev e10)) (Z.callI (trammelref02_Abs.sem (Z.num 0 rfl)  ))
  · intro a e12 W Q Z; exact step_is (fun _ h => op_plain rfl rfl h) (run_load2 rfl (ev e12) (Z.bx 4 rfl))
  · intro a x14 e15 W Q Z; exact step_call (fun _ h => op_plain rfl rfl h) rfl Try.func37 rfl rfl (args1 (ev e15)) (Z.callV (trammelref02_Sign.sem (Z.num 0 rfl) (Bd.fm (Bd.abs hb1) (by decide)) ))
  · intro a x17 e18 W Q Z; exact step_call (fun _ h => op_plain rfl rfl h) rfl Try.func31 rfl rfl (args1 (ev e18)) (Z.callI (trammelref02_Of.sem (by omega) (by omega)))
  · intro a W Q Z; exact step_call (fun _ h => op_plain rfl rfl h) rfl Try.func31 rfl rfl (args1 rfl) (Z.callI (trammelref02_Of.sem (by omega) (by omega)))
  clear Z; intro x8 x11 x13 x16 x19 x20 W Z
  (try simp only [Act.put, List.setIfInBounds_toArray, List.set_cons_zero, List.set_cons_succ])
  refine seq_store Z 2 rfl rfl rfl rfl rfl ?_; clear Z; intro W Z
  (try simp only [Act.put, List.setIfInBounds_toArray, List.set_cons_zero, List.set_cons_succ])
  refine seq_store Z 1 rfl rfl rfl rfl rfl ?_; clear Z; intro W Z
  (try simp only [Act.put, List.setIfInBounds_toArray, List.set_cons_zero, List.set_cons_succ])
  refine seq_store Z 0 rfl rfl rfl rfl rfl ?_; clear Z; intro W Z
  (try simp only [Act.put, List.setIfInBounds_toArray, List.set_cons_zero, List.set_cons_succ])
  show Code.wp _ _ _ _ _
  refine wp_ret ?_
  exact Z.endsIII (d := 0) (u' := undef) 2 2 1 1 0 0 rfl rfl rfl rfl rfl rfl rfl rfl rfl rfl rfl (by exact (bez_none h0).1) (by exact (bez_none h0).2.1) (by exact (bez_none h0).2.2)
set_option maxHeartbeats 4000000 in
set_option maxRecDepth 100000 in
theorem trammelref02_Bezout.semN {w : World} {b1 : Bool} {v1 : Value} {z1 : Int} {b2 : Bool} {v2 : Value} {z2 : Int} (m1 : NumV w b1 v1 z1) (m2 : NumV w b2 v2 z2) (hb1 : Bd 40000000 z1) (hb2 : Bd 40000000 z2) (h0 : z2 ≠ 0) : Calls Try.prog 60 #[.agg #[.bool b1, v1], .agg #[.bool b2, v2]] w (ResIII w (bezG z1 z2) (bezX z1 z2) (bezY z1 z2)) := by
  obtain ⟨A1, n1, c1, rfl⟩ := m1.form
  obtain ⟨A2, n2, c2, rfl⟩ := m2.form
  have Z := Zt.begin2 m1 m2
  have hsg := sign0_f h0
  go_enter Try.func60, Try.ntmps60
  refine wp_seq ?_
  refine wp_region_list ?_
  refine seq_box Z rfl rfl rfl ?_; clear Z; intro g1 W Z
  (try simp only [Act.put, List.setIfInBounds_toArray, List.set_cons_zero, List.set_cons_succ])
  refine seq_box Z rfl rfl rfl ?_; clear Z; intro g2 W Z
  (try simp only [Act.put, List.setIfInBounds_toArray, List.set_cons_zero, List.set_cons_succ])
  refine seq_alloc Z rfl rfl ?_; clear Z; intro g3 W Z
  (try simp only [Act.put, List.setIfInBounds_toArray, List.set_cons_zero, List.set_cons_succ])
  refine seq_alloc Z rfl rfl ?_; clear Z; intro g4 W Z
  (try simp only [Act.put, List.setIfInBounds_toArray, List.set_cons_zero, List.set_cons_succ])
  refine seq_alloc Z rfl rfl ?_; clear Z; intro g5 W Z
  (try simp only [Act.put, List.setIfInBounds_toArray, List.set_cons_zero, List.set_cons_succ])
  show Code.wp _ _ _ _ _
  refine wp_seq ?_
  refine wp_seq ?_
  refine wp_region_list ?_
  refine seq_is (v := .agg #[.bool (b2), .slice A2 n2 c2]) rfl (run_load2 rfl rfl (Z.bx 3 rfl)) ?_
  (try simp only [Act.put, List.setIfInBounds_toArray, List.set_cons_zero, List.set_cons_succ])
  refine seq_call Z rfl rfl Try.func37 rfl rfl (args1 rfl) (Z.callV (trammelref02_Sign.sem (Z.num 1 rfl) (Bd.fm (Bd.abs hb2) (by decide)) )) ?_; clear Z; intro x6 W Z
  (try simp only [Act.put, List.setIfInBounds_toArray, List.set_cons_zero, List.set_cons_succ])
  refine seq_is (v := .bool (decide (((z2).sign) = (0)))) rfl (run_eql rfl rfl rfl) ?_
  (try simp only [Act.put, List.setIfInBounds_toArray, List.set_cons_zero, List.set_cons_succ])
  show Code.wp _ _ _ _ _
  refine wp_cond_false ((show _ = Value.bool (decide (((z2).sign) = (0))) from rfl).trans (congrArg Value.bool hsg)) ?_
  refine wp_skip ?_
  show Code.wp _ _ _ _ _
  refine wp_seq ?_
  refine wp_region_list ?_
  refine seq_is (v := .agg #[.bool (b1), .slice A1 n1 c1]) rfl (run_load2 rfl rfl (Z.bx 4 rfl)) ?_
  (try simp only [Act.put, List.setIfInBounds_toArray, List.set_cons_zero, List.set_cons_succ])
  refine seq_is (v := .agg #[.bool (b2), .slice A2 n2 c2]) rfl (run_load2 rfl rfl (Z.bx 3 rfl)) ?_
  (try simp only [Act.put, List.setIfInBounds_toArray, List.set_cons_zero, List.set_cons_succ])
  refine seq_call Z rfl rfl Try.func58 rfl rfl (args2 rfl rfl) (Z.callI (trammelref02_Gcd.sem (Z.num 0 rfl) (Z.num 1 rfl) (Bd.fm (Bd.gcd (Bd.abs hb1) (Bd.abs hb2)) (by decide)) )) ?_; clear Z; intro x7 W Z
  (try simp only [Act.put, List.setIfInBounds_toArray, List.set_cons_zero, List.set_cons_succ])
  refine seq_alloc Z rfl rfl ?_; clear Z; intro g8 W Z
  (try simp only [Act.put, List.setIfInBounds_toArray, List.set_cons_zero, List.set_cons_succ])
  refine seq_store Z 0 rfl rfl rfl rfl rfl ?_; clear Z; intro W Z
  (try simp only [Act.put, List.setIfInBounds_toArray, List.set_cons_zero, List.set_cons_succ])
  show Code.wp _ _ _ _ _
  refine wp_seq ?_
  refine wp_dag (pre := [_, _, _, _, _, _]) (sps := [.is (.agg #[.bool (b1), .slice A1 n1 c1]), spI w ((z1)), .is (.agg #[.bool (b2), .slice A2 n2 c2]), spI w ((z2)), .box 25 #[.bool false, .slice none 0 0], .box 25 #[.bool false, .slice none 0 0]]) Z (by kernel_rfl) _ rfl (by kernel_rfl) (by kernel_rfl) rfl ⟨?_, ?_, ?_, ?_, ?_, ?_, trivial⟩ ?_
  · intro a e9 W Q Z; exact step_is (fun _ h => op_plain rfl rfl h) (run_load2 rfl (ev e9) (Z.bx 5 rfl))
  · intro a x11 e12 W Q Z; exact step_call (fun _ h => op_plain rfl rfl h) rfl Try.func33 rfl rfl (args1 (ev e12)) (Z.callI (trammelref02_Norm.sem (Z.num 1 rfl)  ))
  · intro a e14 W Q Z; exact step_is (fun _ h => op_plain rfl rfl h) (run_load2 rfl (ev e14) (Z.bx 4 rfl))
  · intro a x16 e17 W Q Z; exact step_call (fun _ h => op_plain rfl rfl h) rfl Try.func33 rfl rfl (args1 (ev e17)) (Z.callI (trammelref02_Norm.sem (Z.num 2 rfl)  ))
  · intro a W Q Z; exact step_box (fun _ h => op_plain rfl rfl h) (by decide) (run_alloc2 rfl)
  · intro a W Q Z; exact step_box (fun _ h => op_plain rfl rfl h) (by decide) (run_alloc2 rfl)
  clear Z; intro x10 x13 x15 x18 g19 g20 W Z
  (try simp only [Act.put, List.setIfInBounds_toArray, List.set_cons_zero, List.set_cons_succ])
  refine seq_store Z 1 rfl rfl rfl rfl rfl ?_; clear Z; intro W Z
  (try simp only [Act.put, List.setIfInBounds_toArray, List.set_cons_zero, List.set_cons_succ])
  refine seq_store Z 0 rfl rfl rfl rfl rfl ?_; clear Z; intro W Z
  (try simp only [Act.put, List.setIfInBounds_toArray, List.set_cons_zero, List.set_cons_succ])
  show Code.wp _ _ _ _ _
  refine wp_seq ?_
  refine wp_region_list ?_
  refine seq_call Z rfl rfl Try.func31 rfl rfl (args1 rfl) (Z.callI (trammelref02_Of.sem (by omega) (by omega))) ?_; clear Z; intro x21 W Z
  (try simp only [Act.put, List.setIfInBounds_toArray, List.set_cons_zero, List.set_cons_succ])
  refine seq_call Z rfl rfl Try.func31 rfl rfl (args1 rfl) (Z.callI (trammelref02_Of.sem (by omega) (by omega))) ?_; clear Z; intro x22 W Z
  (try simp only [Act.put, List.setIfInBounds_toArray, List.set_cons_zero, List.set_cons_succ])
  refine seq_alloc Z rfl rfl ?_; clear Z; intro g23 W Z
  (try simp only [Act.put, List.setIfInBounds_toArray, List.set_cons_zero, List.set_cons_succ])
  refine seq_alloc Z rfl rfl ?_; clear Z; intro g24 W Z
  (try simp only [Act.put, List.setIfInBounds_toArray, List.set_cons_zero, List.set_cons_succ])
  refine seq_store Z 1 rfl rfl rfl rfl rfl ?_; clear Z; intro W Z
  (try simp only [Act.put, List.setIfInBounds_toArray, List.set_cons_zero, List.set_cons_succ])
  refine seq_store Z 0 rfl rfl rfl rfl rfl ?_; clear Z; intro W Z
  (try simp only [Act.put, List.setIfInBounds_toArray, List.set_cons_zero, List.set_cons_succ])
  show Code.wp _ _ _ _ _
  refine wp_seq ?_
  refine wp_block ?_
  refine wp_loop_s (α := Int × Int × Int × Int × Sl × Sl × Sl × Sl) (fun (r, s, x, u, pr, ps, px, pu) a W => ∃ (j12_6 j13_6 j34_6 j35_6 j36_6 j37_6 j38_6 j39_6 j40_6 j41_6 j42_6 j43_6 j44_6 j45_6 j46_6 j47_6 j48_6 j49_6 j50_6 : Value), a = { tmps := #[.agg #[.bool (b1), .slice A1 n1 c1], .agg #[.bool (b2), .slice A2 n2 c2], .pointer (some ⟨g1, 0, none⟩), .pointer (some ⟨g2, 0, none⟩), .pointer (some ⟨g3, 0, none⟩), .pointer (some ⟨g4, 0, none⟩), .pointer (some ⟨g5, 0, none⟩), .pointer (some ⟨g8, 0, none⟩), .pointer (some ⟨g19, 0, none⟩), .pointer (some ⟨g20, 0, none⟩), .pointer (some ⟨g23, 0, none⟩), .pointer (some ⟨g24, 0, none⟩), j12_6, j13_6, undef, undef, .agg #[.bool (b2), .slice A2 n2 c2], .int .i64 ((z2).sign), .bool (decide (((z2).sign) = (0))), undef, undef, undef, undef, undef, undef, .agg #[.bool (b1), .slice A1 n1 c1], .agg #[.bool (b2), .slice A2 n2 c2], .agg #[.bool (decide (gcdI ((((z1)).natAbs : Nat)) ((((z2)).natAbs : Nat)) < 0)), x7.v], .agg #[.bool (b1), .slice A1 n1 c1], .agg #[.bool (decide ((z1) < 0)), x13.v], .agg #[.bool (b2), .slice A2 n2 c2], .agg #[.bool (decide ((z2) < 0)), x18.v], .agg #[.bool (decide ((1 : Int) < 0)), x21.v], .agg #[.bool (decide ((0 : Int) < 0)), x22.v], j34_6, j35_6, j36_6, j37_6, j38_6, j39_6, j40_6, j41_6, j42_6, j43_6, j44_6, j45_6, j46_6, j47_6, j48_6, j49_6, j50_6, undef, undef, undef, undef, undef, undef, undef, undef, undef, undef, undef, undef, undef, undef, undef, undef, undef, undef, undef, undef, undef, undef, undef, undef, undef, undef, undef, undef, undef, undef, undef], defers := [] } ∧ Zt w W [(pr.v, tyO w (mg r)), (ps.v, tyO w (mg s)), (px.v, tyO w (mg x)), (pu.v, tyO w (mg u)), (x7.v, tyO w (mg (gcdI ((((z1)).natAbs : Nat)) ((((z2)).natAbs : Nat))))), (.slice A1 n1 c1, tyN b1 z1), (.slice A2 n2 c2, tyN b2 z2)] [(g24, 25, #[.bool (decide (u < 0)), pu.v]), (g23, 25, #[.bool (decide (x < 0)), px.v]), (g20, 25, #[.bool (decide (s < 0)), ps.v]), (g19, 25, #[.bool (decide (r < 0)), pr.v]), (g8, 25, #[.bool (decide (gcdI ((((z1)).natAbs : Nat)) ((((z2)).natAbs : Nat)) < 0)), x7.v]), (g5, 25, #[.bool (false), .slice none 0 0]), (g4, 25, #[.bool (false), .slice none 0 0]), (g3, 25, #[.bool (false), .slice none 0 0]), (g2, 25, #[.bool (b2), .slice A2 n2 c2]), (g1, 25, #[.bool (b1), .slice A1 n1 c1])] ∧ (BzI z1 z2 r s x u)) (fun (r, s, x, u, pr, ps, px, pu) => s.natAbs) (z1, z2, 1, 0, x13, x18, x21, x22) ⟨_, _, _, _, _, _, _, _, _, _, _, _, _, _, _, _, _, _, _, rfl, (Z.retype (has_cons (Z.has 3 rfl) (has_cons (Z.has 2 rfl) (has_cons (Z.has 1 rfl) (has_cons (Z.has 0 rfl) (has_cons (Z.has 4 rfl) (has_cons (Z.has 5 rfl) (has_cons (Z.has 6 rfl) (Has.nil _ _))))))))), BzI.start h0⟩ ?_
  clear Z; rintro ⟨r, s, x, u, pr, ps, px, pu⟩ a W ⟨j12_6, j13_6, j34_6, j35_6, j36_6, j37_6, j38_6, j39_6, j40_6, j41_6, j42_6, j43_6, j44_6, j45_6, j46_6, j47_6, j48_6, j49_6, j50_6, rfl, Z, hI⟩
  have hbr := hI.bdr hb1 hb2
  have hbs := hI.bds hb2
  have hbx := hI.bdx hb2
  have hbu := hI.bdu hb2
  refine wp_seq ?_
  refine wp_seq ?_
  refine wp_region_list ?_
  refine seq_is (v := .agg #[.bool (decide (s < 0)), ps.v]) rfl (run_load2 rfl rfl (Z.bx 2 rfl)) ?_
  (try simp only [Act.put, List.setIfInBounds_toArray, List.set_cons_zero, List.set_cons_succ])
  refine seq_call Z rfl rfl Try.func37 rfl rfl (args1 rfl) (Z.callV (trammelref02_Sign.sem (Z.own 1 rfl (Bd.fm (Bd.abs hbs) (by decide))) (Bd.fm (Bd.abs hbs) (by decide)) )) ?_; clear Z; intro x25 W Z
  (try simp only [Act.put, List.setIfInBounds_toArray, List.set_cons_zero, List.set_cons_succ])
  refine seq_is (v := .bool (decide (((s).sign) ≠ (0)))) rfl (run_neq rfl rfl rfl) ?_
  (try simp only [Act.put, List.setIfInBounds_toArray, List.set_cons_zero, List.set_cons_succ])
  show Code.wp _ _ _ _ _
  refine wp_cond_split (t := decide (((s).sign) ≠ (0))) rfl ?_ ?_
  · intro hc26
    have hs0 := sgn_non hc26
    refine wp_skip ?_
    show Code.wp _ _ _ _ _
    refine wp_block ?_
    refine wp_seq ?_
    refine wp_region_list ?_
    refine seq_is (v := .agg #[.bool (decide (r < 0)), pr.v]) rfl (run_load2 rfl rfl (Z.bx 3 rfl)) ?_
    (try simp only [Act.put, List.setIfInBounds_toArray, List.set_cons_zero, List.set_cons_succ])
    refine seq_is (v := .agg #[.bool (decide (s < 0)), ps.v]) rfl (run_load2 rfl rfl (Z.bx 2 rfl)) ?_
    (try simp only [Act.put, List.setIfInBounds_toArray, List.set_cons_zero, List.set_cons_succ])
    refine seq_call Z rfl rfl Try.func55 rfl rfl (args2 rfl rfl) (Z.callII (trammelref02_Floor.sem (Z.own 0 rfl (Bd.fm (Bd.abs hbr) (by decide))) (Z.own 1 rfl (Bd.fm (Bd.abs hbs) (by decide)))  (Bd.mono hbr (by decide)) (Bd.mono hbs (by decide)) hs0)) ?_; clear Z; intro x27 W Z
    (try simp only [Act.put, List.setIfInBounds_toArray, List.set_cons_zero, List.set_cons_succ])
    refine seq_is (v := .tuple #[.agg #[.bool (decide ((r : Int).fdiv (s) < 0)), x27.1.v], .agg #[.bool (decide ((r : Int).fmod (s) < 0)), x27.2.v]]) rfl (run_move rfl rfl) ?_
    (try simp only [Act.put, List.setIfInBounds_toArray, List.set_cons_zero, List.set_cons_succ])
    refine seq_is (v := .agg #[.bool (decide ((r : Int).fdiv (s) < 0)), x27.1.v]) rfl (run_extract rfl rfl rfl) ?_
    (try simp only [Act.put, List.setIfInBounds_toArray, List.set_cons_zero, List.set_cons_succ])
    refine seq_is (v := .agg #[.bool (decide ((r : Int).fmod (s) < 0)), x27.2.v]) rfl (run_extract rfl rfl rfl) ?_
    (try simp only [Act.put, List.setIfInBounds_toArray, List.set_cons_zero, List.set_cons_succ])
    refine seq_alloc Z rfl rfl ?_; clear Z; intro g28 W Z
    (try simp only [Act.put, List.setIfInBounds_toArray, List.set_cons_zero, List.set_cons_succ])
    refine seq_alloc Z rfl rfl ?_; clear Z; intro g29 W Z
    (try simp only [Act.put, List.setIfInBounds_toArray, List.set_cons_zero, List.set_cons_succ])
    refine seq_store Z 1 rfl rfl rfl rfl rfl ?_; clear Z; intro W Z
    (try simp only [Act.put, List.setIfInBounds_toArray, List.set_cons_zero, List.set_cons_succ])
    refine seq_store Z 0 rfl rfl rfl rfl rfl ?_; clear Z; intro W Z
    (try simp only [Act.put, List.setIfInBounds_toArray, List.set_cons_zero, List.set_cons_succ])
    show Code.wp _ _ _ _ _
    refine wp_seq ?_
    refine wp_dag (pre := [_, _, _, _, _, _]) (sps := [.is (.agg #[.bool (decide (u < 0)), pu.v]), .is (.agg #[.bool (decide (x < 0)), px.v]), .is (.agg #[.bool (decide ((r : Int).fdiv (s) < 0)), x27.1.v]), .is (.agg #[.bool (decide (u < 0)), pu.v]), spI w (((r : Int).fdiv (s)) * (u)), spI w ((x) - (((r : Int).fdiv (s)) * (u)))]) Z (by kernel_rfl) _ rfl (by kernel_rfl) (by kernel_rfl) rfl ⟨?_, ?_, ?_, ?_, ?_, ?_, trivial⟩ ?_
    · intro a e30 W Q Z; exact step_is (fun _ h => op_plain rfl rfl h) (run_load2 rfl (ev e30) (Z.bx 2 rfl))
    · intro a e32 W Q Z; exact step_is (fun _ h => op_plain rfl rfl h) (run_load2 rfl (ev e32) (Z.bx 3 rfl))
    · intro a e34 W Q Z; exact step_is (fun _ h => op_plain rfl rfl h) (run_load2 rfl (ev e34) (Z.bx 1 rfl))
    · intro a e36 W Q Z; exact step_is (fun _ h => op_plain rfl rfl h) (run_load2 rfl (ev e36) (Z.bx 2 rfl))
    · intro a x38 e39 x40 e41 W Q Z; exact step_call (fun _ h => op_plain rfl rfl h) rfl Try.func24 rfl rfl (args2 (ev e39) (ev e41)) (Z.callI (trammelref02_Mul.sem (Z.own 0 rfl (Bd.fm (Bd.abs (fdiv_bd hbr)) (by decide))) (Z.own 5 rfl (Bd.fm (Bd.abs hbu) (by decide))) (Bd.fm (Bd.mul (Bd.abs (fdiv_bd hbr)) (Bd.abs hbu)) (by decide)) ))
    · intro a x43 e44 x45 e46 W Q Z; exact step_call (fun _ h => op_plain rfl rfl h) rfl Try.func22 rfl rfl (args2 (ev e44) (ev e46)) (Z.callI (trammelref02_Sub.sem (Z.own 5 rfl (Bd.fm (Bd.abs hbx) (by decide))) (Z.own 0 rfl (Bd.fm (Bd.abs (Bd.mul (fdiv_bd hbr) hbu)) (by decide))) (Bd.fm (Bd.abs (Bd.neg (Bd.mul (fdiv_bd hbr) hbu))) (by decide)) (Bd.fm (Bd.add (Bd.abs hbx) (Bd.abs (Bd.neg (Bd.mul (fdiv_bd hbr) hbu)))) (by decide)) (Bd.fm (Bd.sub (Bd.abs hbx) (Bd.abs (Bd.neg (Bd.mul (fdiv_bd hbr) hbu)))) (by decide)) (Bd.fm (Bd.sub (Bd.abs (Bd.neg (Bd.mul (fdiv_bd hbr) hbu))) (Bd.abs hbx)) (by decide)) ))
    clear Z; intro x31 x33 x35 x37 x42 x47 W Z
    (try simp only [Act.put, List.setIfInBounds_toArray, List.set_cons_zero, List.set_cons_succ])
    refine seq_store Z 3 rfl rfl rfl rfl rfl ?_; clear Z; intro W Z
    (try simp only [Act.put, List.setIfInBounds_toArray, List.set_cons_zero, List.set_cons_succ])
    refine seq_store Z 2 rfl rfl rfl rfl rfl ?_; clear Z; intro W Z
    (try simp only [Act.put, List.setIfInBounds_toArray, List.set_cons_zero, List.set_cons_succ])
    show Code.wp _ _ _ _ _
    refine wp_orders_k (act' := { tmps := #[.agg #[.bool (b1), .slice A1 n1 c1], .agg #[.bool (b2), .slice A2 n2 c2], .pointer (some ⟨g1, 0, none⟩), .pointer (some ⟨g2, 0, none⟩), .pointer (some ⟨g3, 0, none⟩), .pointer (some ⟨g4, 0, none⟩), .pointer (some ⟨g5, 0, none⟩), .pointer (some ⟨g8, 0, none⟩), .pointer (some ⟨g19, 0, none⟩), .pointer (some ⟨g20, 0, none⟩), .pointer (some ⟨g23, 0, none⟩), .pointer (some ⟨g24, 0, none⟩), .pointer (some ⟨g28, 0, none⟩), .pointer (some ⟨g29, 0, none⟩), undef, undef, .agg #[.bool (b2), .slice A2 n2 c2], .int .i64 ((z2).sign), .bool (decide (((z2).sign) = (0))), undef, undef, undef, undef, undef, undef, .agg #[.bool (b1), .slice A1 n1 c1], .agg #[.bool (b2), .slice A2 n2 c2], .agg #[.bool (decide (gcdI ((((z1)).natAbs : Nat)) ((((z2)).natAbs : Nat)) < 0)), x7.v], .agg #[.bool (b1), .slice A1 n1 c1], .agg #[.bool (decide ((z1) < 0)), x13.v], .agg #[.bool (b2), .slice A2 n2 c2], .agg #[.bool (decide ((z2) < 0)), x18.v], .agg #[.bool (decide ((1 : Int) < 0)), x21.v], .agg #[.bool (decide ((0 : Int) < 0)), x22.v], .agg #[.bool (decide (s < 0)), ps.v], .int .i64 ((s).sign), .bool (decide (((s).sign) ≠ (0))), .tuple #[.agg #[.bool (decide ((r : Int).fdiv (s) < 0)), x27.1.v], .agg #[.bool (decide ((r : Int).fmod (s) < 0)), x27.2.v]], .agg #[.bool (decide (r < 0)), pr.v], .agg #[.bool (decide (s < 0)), ps.v], .tuple #[.agg #[.bool (decide ((r : Int).fdiv (s) < 0)), x27.1.v], .agg #[.bool (decide ((r : Int).fmod (s) < 0)), x27.2.v]], .agg #[.bool (decide ((r : Int).fdiv (s) < 0)), x27.1.v], .agg #[.bool (decide ((r : Int).fmod (s) < 0)), x27.2.v], .agg #[.bool (decide (u < 0)), pu.v], .agg #[.bool (decide (x < 0)), px.v], .agg #[.bool (decide ((r : Int).fdiv (s) < 0)), x27.1.v], .agg #[.bool (decide (u < 0)), pu.v], .agg #[.bool (decide (((r : Int).fdiv (s)) * (u) < 0)), x42.v], .agg #[.bool (decide ((x) - (((r : Int).fdiv (s)) * (u)) < 0)), x47.v], .agg #[.bool (decide (s < 0)), ps.v], .agg #[.bool (decide ((r : Int).fmod (s) < 0)), x27.2.v], undef, undef, undef, undef, undef, undef, undef, undef, undef, undef, undef, undef, undef, undef, undef, undef, undef, undef, undef, undef, undef, undef, undef, undef, undef, undef, undef, undef, undef, undef, undef], defers := [] }) (ts' := [(x47.v, tyO w (mg ((x) - (((r : Int).fdiv (s)) * (u))))), (x42.v, tyO w (mg (((r : Int).fdiv (s)) * (u)))), (x27.1.v, tyO w (mg ((r : Int).fdiv (s)))), (x27.2.v, tyO w (mg ((r : Int).fmod (s)))), (pr.v, tyO w (mg r)), (ps.v, tyO w (mg s)), (px.v, tyO w (mg x)), (pu.v, tyO w (mg u)), (x7.v, tyO w (mg (gcdI ((((z1)).natAbs : Nat)) ((((z2)).natAbs : Nat))))), (.slice A1 n1 c1, tyN b1 z1), (.slice A2 n2 c2, tyN b2 z2)]) (bs' := [(g29, 25, #[.bool (decide ((r : Int).fmod (s) < 0)), x27.2.v]), (g28, 25, #[.bool (decide ((r : Int).fdiv (s) < 0)), x27.1.v]), (g24, 25, #[.bool (decide ((x) - (((r : Int).fdiv (s)) * (u)) < 0)), x47.v]), (g23, 25, #[.bool (decide (u < 0)), pu.v]), (g20, 25, #[.bool (decide ((r : Int).fmod (s) < 0)), x27.2.v]), (g19, 25, #[.bool (decide (s < 0)), ps.v]), (g8, 25, #[.bool (decide (gcdI ((((z1)).natAbs : Nat)) ((((z2)).natAbs : Nat)) < 0)), x7.v]), (g5, 25, #[.bool (false), .slice none 0 0]), (g4, 25, #[.bool (false), .slice none 0 0]), (g3, 25, #[.bool (false), .slice none 0 0]), (g2, 25, #[.bool (b2), .slice A2 n2 c2]), (g1, 25, #[.bool (b1), .slice A1 n1 c1])]) Z (by kernel_rfl) [[0, 1, 2, 3], [0, 2, 1, 3], [1, 0, 2, 3]] (by kernel_rfl) (fun K W Z o ho => ?_) (fun W Z => ?_)
    · simp only [List.mem_cons, List.not_mem_nil, or_false] at ho; rcases ho with rfl | rfl | rfl
      · show wpList _ _ _ [_, _, _, _] _ _
        refine seq_is (v := .agg #[.bool (decide (s < 0)), ps.v]) rfl (run_load2 rfl rfl (Z.bx 4 rfl)) ?_
        (try simp only [Act.put, List.setIfInBounds_toArray, List.set_cons_zero, List.set_cons_succ])
        refine seq_is (v := .agg #[.bool (decide ((r : Int).fmod (s) < 0)), x27.2.v]) rfl (run_load2 rfl rfl (Z.bx 0 rfl)) ?_
        (try simp only [Act.put, List.setIfInBounds_toArray, List.set_cons_zero, List.set_cons_succ])
        refine seq_store Z 5 rfl rfl rfl rfl rfl ?_; clear Z; intro W Z
        (try simp only [Act.put, List.setIfInBounds_toArray, List.set_cons_zero, List.set_cons_succ])
        refine seq_store Z 4 rfl rfl rfl rfl rfl ?_; clear Z; intro W Z
        (try simp only [Act.put, List.setIfInBounds_toArray, List.set_cons_zero, List.set_cons_succ])
        exact K _ Z
      · show wpList _ _ _ [_, _, _, _] _ _
        refine seq_is (v := .agg #[.bool (decide (s < 0)), ps.v]) rfl (run_load2 rfl rfl (Z.bx 4 rfl)) ?_
        (try simp only [Act.put, List.setIfInBounds_toArray, List.set_cons_zero, List.set_cons_succ])
        refine seq_store Z 5 rfl rfl rfl rfl rfl ?_; clear Z; intro W Z
        (try simp only [Act.put, List.setIfInBounds_toArray, List.set_cons_zero, List.set_cons_succ])
        refine seq_is (v := .agg #[.bool (decide ((r : Int).fmod (s) < 0)), x27.2.v]) rfl (run_load2 rfl rfl (Z.bx 0 rfl)) ?_
        (try simp only [Act.put, List.setIfInBounds_toArray, List.set_cons_zero, List.set_cons_succ])
        refine seq_store Z 4 rfl rfl rfl rfl rfl ?_; clear Z; intro W Z
        (try simp only [Act.put, List.setIfInBounds_toArray, List.set_cons_zero, List.set_cons_succ])
        exact K _ Z
      · show wpList _ _ _ [_, _, _, _] _ _
        refine seq_is (v := .agg #[.bool (decide ((r : Int).fmod (s) < 0)), x27.2.v]) rfl (run_load2 rfl rfl (Z.bx 0 rfl)) ?_
        (try simp only [Act.put, List.setIfInBounds_toArray, List.set_cons_zero, List.set_cons_succ])
        refine seq_is (v := .agg #[.bool (decide (s < 0)), ps.v]) rfl (run_load2 rfl rfl (Z.bx 4 rfl)) ?_
        (try simp only [Act.put, List.setIfInBounds_toArray, List.set_cons_zero, List.set_cons_succ])
        refine seq_store Z 5 rfl rfl rfl rfl rfl ?_; clear Z; intro W Z
        (try simp only [Act.put, List.setIfInBounds_toArray, List.set_cons_zero, List.set_cons_succ])
        refine seq_store Z 4 rfl rfl rfl rfl rfl ?_; clear Z; intro W Z
        (try simp only [Act.put, List.setIfInBounds_toArray, List.set_cons_zero, List.set_cons_succ])
        exact K _ Z
    · exact ⟨(s, (r : Int).fmod (s), u, (x) - (((r : Int).fdiv (s)) * (u)), ps, x27.2, pu, x47), (fm_rng hs0).1, _, _, _, _, _, _, _, _, _, _, _, _, _, _, _, _, _, _, _, rfl, (((Z.forget 0).forget 0).retype (has_cons (Z.has 5 rfl) (has_cons (Z.has 3 rfl) (has_cons (Z.has 7 rfl) (has_cons (Z.has 0 rfl) (has_cons (Z.has 8 rfl) (has_cons (Z.has 9 rfl) (has_cons (Z.has 10 rfl) (Has.nil _ _))))))))), hI.step hs0⟩
  · intro hc26
    refine wp_exit ?_
    show Code.wp _ _ _ _ _
    refine wp_seq ?_
    refine wp_seq ?_
    have hS := sgn_zero hc26
    obtain ⟨hO1, hO2⟩ := hI.out hS
    have hG0 := bezG_pos (a := z1) h0
    obtain ⟨hP1, hP2⟩ := bez_step (a := z1) h0
    refine wp_region_list ?_
    refine seq_is (v := .agg #[.bool (decide (r < 0)), pr.v]) rfl (run_load2 rfl rfl (Z.bx 3 rfl)) ?_
    (try simp only [Act.put, List.setIfInBounds_toArray, List.set_cons_zero, List.set_cons_succ])
    refine seq_call Z rfl rfl Try.func37 rfl rfl (args1 rfl) (Z.callV (trammelref02_Sign.sem (Z.own 0 rfl (Bd.fm (Bd.abs hbr) (by decide))) (Bd.fm (Bd.abs hbr) (by decide)) )) ?_; clear Z; intro x48 W Z
    (try simp only [Act.put, List.setIfInBounds_toArray, List.set_cons_zero, List.set_cons_succ])
    refine seq_is (v := .bool (decide (((r).sign) < (0)))) rfl (run_lss rfl rfl rfl) ?_
    (try simp only [Act.put, List.setIfInBounds_toArray, List.set_cons_zero, List.set_cons_succ])
    show Code.wp _ _ _ _ _
    refine wp_cond_split (t := decide (((r).sign) < (0))) rfl ?_ ?_
    · intro hc49
      refine wp_region_list ?_
      refine seq_is (v := .agg #[.bool (decide (x < 0)), px.v]) rfl (run_load2 rfl rfl (Z.bx 1 rfl)) ?_
      (try simp only [Act.put, List.setIfInBounds_toArray, List.set_cons_zero, List.set_cons_succ])
      refine seq_call Z rfl rfl Try.func26 rfl rfl (args1 rfl) (Z.callI (trammelref02_Neg.sem (Z.own 2 rfl (Bd.fm (Bd.abs hbx) (by decide)))  )) ?_; clear Z; intro x50 W Z
      (try simp only [Act.put, List.setIfInBounds_toArray, List.set_cons_zero, List.set_cons_succ])
      refine seq_store Z 1 rfl rfl rfl rfl rfl ?_; clear Z; intro W Z
      (try simp only [Act.put, List.setIfInBounds_toArray, List.set_cons_zero, List.set_cons_succ])
      show Code.wp _ _ _ _ _
      refine wp_seq ?_
      have hX : (-x : Int) = if r < 0 then -x else x := by rw [if_pos (sign_neg hc49)]
      have hG : (gcdI ((z1.natAbs : Nat)) ((z2.natAbs : Nat)) : Int) = ((r.natAbs : Nat) : Int) := (gcdI_abs z1 z2).trans hO2.symm
      have hG1 := hG.trans hO2
      have hF := bez_fin h0 hI hS hG hX
      refine wp_dag2 (pre := [_, _, _, _, _, _, _, _, _]) (sps := [.is (.agg #[.bool (b2), .slice A2 n2 c2]), spI w ((((z2)).natAbs : Nat)), .is (.agg #[.bool (decide (gcdI ((((z1)).natAbs : Nat)) ((((z2)).natAbs : Nat)) < 0)), x7.v]), spII w (((((z2)).natAbs : Nat) : Int).fdiv (gcdI ((((z1)).natAbs : Nat)) ((((z2)).natAbs : Nat)))) (((((z2)).natAbs : Nat) : Int).fmod (gcdI ((((z1)).natAbs : Nat)) ((((z2)).natAbs : Nat)))), spII w (((((z2)).natAbs : Nat) : Int).fdiv (gcdI ((((z1)).natAbs : Nat)) ((((z2)).natAbs : Nat)))) (((((z2)).natAbs : Nat) : Int).fmod (gcdI ((((z1)).natAbs : Nat)) ((((z2)).natAbs : Nat)))), spI w (((((z2)).natAbs : Nat) : Int).fdiv (gcdI ((((z1)).natAbs : Nat)) ((((z2)).natAbs : Nat)))), spI w (((((z2)).natAbs : Nat) : Int).fmod (gcdI ((((z1)).natAbs : Nat)) ((((z2)).natAbs : Nat)))), .box 25 #[.bool false, .slice none 0 0], .box 25 #[.bool false, .slice none 0 0]]) Z (by kernel_rfl) _ rfl (by kernel_rfl) (by kernel_rfl) (by kernel_rfl) rfl (fun _ _ d _ _ h => by cases d <;> exact h) ⟨?_, ?_, ?_, ?_, ?_, ?_, ?_, ?_, ?_, trivial⟩ ?_
      · intro a e51 W Q Z; exact step_is (fun _ h => op_plain rfl rfl h) (run_load2 rfl (ev e51) (Z.bx 8 rfl))
      · intro a x53 e54 W Q Z; exact step_call (fun _ h => op_plain rfl rfl h) rfl Try.func28 rfl rfl (args1 (ev e54)) (Z.callI (trammelref02_Abs.sem (Z.num 7 rfl)  ))
      · intro a e56 W Q Z; exact step_is (fun _ h => op_plain rfl rfl h) (run_load2 rfl (ev e56) (Z.bx 4 rfl))
      · intro a x58 e59 x60 e61 W Q Z; exact step_call (fun _ h => op_plain rfl rfl h) rfl Try.func55 rfl rfl (args2 (ev e59) (ev e61)) (Z.callII (trammelref02_Floor.sem (Z.own 0 rfl (Bd.fm (Bd.abs (Bd.abs hb2)) (by decide))) (Z.own 6 rfl (Bd.fm (Bd.abs (Bd.gcd (Bd.abs hb1) (Bd.abs hb2))) (by decide)))  (Bd.mono (Bd.abs hb2) (by decide)) (Bd.mono (Bd.gcd (Bd.abs hb1) (Bd.abs hb2)) (by decide)) (show _ ≠ (0 : Int) by rw [hG1]; omega)))
      · intro a x63 e64 W Q Z; exact step_val x63 (fun _ h => op_plain rfl rfl h) (run_move rfl (ev e64)) (has_two (Z.has 0 rfl) (Z.has 1 rfl))
      · intro a x66 e67 W Q Z; exact step_val x66.1 (fun _ h => op_plain rfl rfl h) (run_extract rfl (ev e67) rfl) (has_one (Z.has 0 rfl))
      · intro a x69 e70 W Q Z; exact step_val x69.2 (fun _ h => op_plain rfl rfl h) (run_extract rfl (ev e70) rfl) (has_one (Z.has 1 rfl))
      · intro a W Q Z; exact step_box (fun _ h => op_plain rfl rfl h) (by decide) (run_alloc2 rfl)
      · intro a W Q Z; exact step_box (fun _ h => op_plain rfl rfl h) (by decide) (run_alloc2 rfl)
      clear Z; intro x52 x55 x57 x62 x65 x68 x71 g72 g73 W Z
      (try simp only [Act.put, List.setIfInBounds_toArray, List.set_cons_zero, List.set_cons_succ])
      refine seq_store Z 1 rfl rfl rfl rfl rfl ?_; clear Z; intro W Z
      (try simp only [Act.put, List.setIfInBounds_toArray, List.set_cons_zero, List.set_cons_succ])
      refine seq_store Z 0 rfl rfl rfl rfl rfl ?_; clear Z; intro W Z
      (try simp only [Act.put, List.setIfInBounds_toArray, List.set_cons_zero, List.set_cons_succ])
      show Code.wp _ _ _ _ _
      refine wp_seq ?_
      refine wp_region_list ?_
      refine seq_is (v := .agg #[.bool (decide (-(x) < 0)), x50.v]) rfl (run_load2 rfl rfl (Z.bx 3 rfl)) ?_
      (try simp only [Act.put, List.setIfInBounds_toArray, List.set_cons_zero, List.set_cons_succ])
      refine seq_is (v := .agg #[.bool (decide (((((z2)).natAbs : Nat) : Int).fdiv (gcdI ((((z1)).natAbs : Nat)) ((((z2)).natAbs : Nat))) < 0)), x68.v]) rfl (run_load2 rfl rfl (Z.bx 1 rfl)) ?_
      (try simp only [Act.put, List.setIfInBounds_toArray, List.set_cons_zero, List.set_cons_succ])
      refine seq_call Z rfl rfl Try.func55 rfl rfl (args2 rfl rfl) (Z.callII (trammelref02_Floor.sem (Z.own 7 rfl (Bd.fm (Bd.abs (Bd.neg hbx)) (by decide))) (Z.own 1 rfl (Bd.fm (Bd.abs (fdiv_bd (Bd.abs hb2))) (by decide)))  (Bd.mono (Bd.neg hbx) (by decide)) (Bd.mono (fdiv_bd (Bd.abs hb2)) (by decide)) (show _ ≠ (0 : Int) by rw [hG1]; omega))) ?_; clear Z; intro x74 W Z
      (try simp only [Act.put, List.setIfInBounds_toArray, List.set_cons_zero, List.set_cons_succ])
      refine seq_is (v := .tuple #[.agg #[.bool (decide ((-(x) : Int).fdiv (((((z2)).natAbs : Nat) : Int).fdiv (gcdI ((((z1)).natAbs : Nat)) ((((z2)).natAbs : Nat)))) < 0)), x74.1.v], .agg #[.bool (decide ((-(x) : Int).fmod (((((z2)).natAbs : Nat) : Int).fdiv (gcdI ((((z1)).natAbs : Nat)) ((((z2)).natAbs : Nat)))) < 0)), x74.2.v]]) rfl (run_move rfl rfl) ?_
      (try simp only [Act.put, List.setIfInBounds_toArray, List.set_cons_zero, List.set_cons_succ])
      refine seq_is (v := .agg #[.bool (decide ((-(x) : Int).fdiv (((((z2)).natAbs : Nat) : Int).fdiv (gcdI ((((z1)).natAbs : Nat)) ((((z2)).natAbs : Nat)))) < 0)), x74.1.v]) rfl (run_extract rfl rfl rfl) ?_
      (try simp only [Act.put, List.setIfInBounds_toArray, List.set_cons_zero, List.set_cons_succ])
      refine seq_is (v := .agg #[.bool (decide ((-(x) : Int).fmod (((((z2)).natAbs : Nat) : Int).fdiv (gcdI ((((z1)).natAbs : Nat)) ((((z2)).natAbs : Nat)))) < 0)), x74.2.v]) rfl (run_extract rfl rfl rfl) ?_
      (try simp only [Act.put, List.setIfInBounds_toArray, List.set_cons_zero, List.set_cons_succ])
      refine seq_store Z 3 rfl rfl rfl rfl rfl ?_; clear Z; intro W Z
      (try simp only [Act.put, List.setIfInBounds_toArray, List.set_cons_zero, List.set_cons_succ])
      show Code.wp _ _ _ _ _
      refine wp_seq ?_
      refine wp_dag2 (pre := [_, _, _, _, _, _, _, _, _, _]) (sps := [.is (.agg #[.bool (decide (gcdI ((((z1)).natAbs : Nat)) ((((z2)).natAbs : Nat)) < 0)), x7.v]), .is (.agg #[.bool (decide ((-(x) : Int).fmod (((((z2)).natAbs : Nat) : Int).fdiv (gcdI ((((z1)).natAbs : Nat)) ((((z2)).natAbs : Nat)))) < 0)), x74.2.v]), .is (.agg #[.bool (b1), .slice A1 n1 c1]), spI w (((-(x) : Int).fmod (((((z2)).natAbs : Nat) : Int).fdiv (gcdI ((((z1)).natAbs : Nat)) ((((z2)).natAbs : Nat))))) * (z1)), spI w ((gcdI ((((z1)).natAbs : Nat)) ((((z2)).natAbs : Nat))) - (((-(x) : Int).fmod (((((z2)).natAbs : Nat) : Int).fdiv (gcdI ((((z1)).natAbs : Nat)) ((((z2)).natAbs : Nat))))) * (z1))), .is (.agg #[.bool (b2), .slice A2 n2 c2]), spII w (((gcdI ((((z1)).natAbs : Nat)) ((((z2)).natAbs : Nat))) - (((-(x) : Int).fmod (((((z2)).natAbs : Nat) : Int).fdiv (gcdI ((((z1)).natAbs : Nat)) ((((z2)).natAbs : Nat))))) * (z1)) : Int).fdiv (z2)) (((gcdI ((((z1)).natAbs : Nat)) ((((z2)).natAbs : Nat))) - (((-(x) : Int).fmod (((((z2)).natAbs : Nat) : Int).fdiv (gcdI ((((z1)).natAbs : Nat)) ((((z2)).natAbs : Nat))))) * (z1)) : Int).fmod (z2)), spII w (((gcdI ((((z1)).natAbs : Nat)) ((((z2)).natAbs : Nat))) - (((-(x) : Int).fmod (((((z2)).natAbs : Nat) : Int).fdiv (gcdI ((((z1)).natAbs : Nat)) ((((z2)).natAbs : Nat))))) * (z1)) : Int).fdiv (z2)) (((gcdI ((((z1)).natAbs : Nat)) ((((z2)).natAbs : Nat))) - (((-(x) : Int).fmod (((((z2)).natAbs : Nat) : Int).fdiv (gcdI ((((z1)).natAbs : Nat)) ((((z2)).natAbs : Nat))))) * (z1)) : Int).fmod (z2)), spI w (((gcdI ((((z1)).natAbs : Nat)) ((((z2)).natAbs : Nat))) - (((-(x) : Int).fmod (((((z2)).natAbs : Nat) : Int).fdiv (gcdI ((((z1)).natAbs : Nat)) ((((z2)).natAbs : Nat))))) * (z1)) : Int).fdiv (z2)), spI w (((gcdI ((((z1)).natAbs : Nat)) ((((z2)).natAbs : Nat))) - (((-(x) : Int).fmod (((((z2)).natAbs : Nat) : Int).fdiv (gcdI ((((z1)).natAbs : Nat)) ((((z2)).natAbs : Nat))))) * (z1)) : Int).fmod (z2))]) Z (by kernel_rfl) _ rfl (by kernel_rfl) (by kernel_rfl) (by kernel_rfl) rfl (fun _ _ d _ _ h => by cases d <;> exact h) ⟨?_, ?_, ?_, ?_, ?_, ?_, ?_, ?_, ?_, ?_, trivial⟩ ?_
      · intro a e75 W Q Z; exact step_is (fun _ h => op_plain rfl rfl h) (run_load2 rfl (ev e75) (Z.bx 6 rfl))
      · intro a e77 W Q Z; exact step_is (fun _ h => op_plain rfl rfl h) (run_load2 rfl (ev e77) (Z.bx 3 rfl))
      · intro a e79 W Q Z; exact step_is (fun _ h => op_plain rfl rfl h) (run_load2 rfl (ev e79) (Z.bx 11 rfl))
      · intro a x81 e82 x83 e84 W Q Z; exact step_call (fun _ h => op_plain rfl rfl h) rfl Try.func24 rfl rfl (args2 (ev e82) (ev e84)) (Z.callI (trammelref02_Mul.sem (Z.own 1 rfl (Bd.fm (Bd.abs (fmod_bd (k := 0) (show _ ≠ (0 : Int) by rw [hG1]; omega) (fdiv_bd (Bd.abs hb2)))) (by decide))) (Z.num 15 rfl) (Bd.fm (Bd.mul (Bd.abs (fmod_bd (k := 0) (show _ ≠ (0 : Int) by rw [hG1]; omega) (fdiv_bd (Bd.abs hb2)))) (Bd.abs hb1)) (by decide)) ))
      · intro a x86 e87 x88 e89 W Q Z; exact step_call (fun _ h => op_plain rfl rfl h) rfl Try.func22 rfl rfl (args2 (ev e87) (ev e89)) (Z.callI (trammelref02_Sub.sem (Z.own 15 rfl (Bd.fm (Bd.abs (Bd.gcd (Bd.abs hb1) (Bd.abs hb2))) (by decide))) (Z.own 0 rfl (Bd.fm (Bd.abs (Bd.mul (fmod_bd (k := 0) (show _ ≠ (0 : Int) by rw [hG1]; omega) (fdiv_bd (Bd.abs hb2))) hb1)) (by decide))) (Bd.fm (Bd.abs (Bd.neg (Bd.mul (fmod_bd (k := 0) (show _ ≠ (0 : Int) by rw [hG1]; omega) (fdiv_bd (Bd.abs hb2))) hb1))) (by decide)) (Bd.fm (Bd.add (Bd.abs (Bd.gcd (Bd.abs hb1) (Bd.abs hb2))) (Bd.abs (Bd.neg (Bd.mul (fmod_bd (k := 0) (show _ ≠ (0 : Int) by rw [hG1]; omega) (fdiv_bd (Bd.abs hb2))) hb1)))) (by decide)) (Bd.fm (Bd.sub (Bd.abs (Bd.gcd (Bd.abs hb1) (Bd.abs hb2))) (Bd.abs (Bd.neg (Bd.mul (fmod_bd (k := 0) (show _ ≠ (0 : Int) by rw [hG1]; omega) (fdiv_bd (Bd.abs hb2))) hb1)))) (by decide)) (Bd.fm (Bd.sub (Bd.abs (Bd.neg (Bd.mul (fmod_bd (k := 0) (show _ ≠ (0 : Int) by rw [hG1]; omega) (fdiv_bd (Bd.abs hb2))) hb1))) (Bd.abs (Bd.gcd (Bd.abs hb1) (Bd.abs hb2)))) (by decide)) ))
      · intro a e91 W Q Z; exact step_is (fun _ h => op_plain rfl rfl h) (run_load2 rfl (ev e91) (Z.bx 10 rfl))
      · intro a x93 e94 x95 e96 W Q Z; exact step_call (fun _ h => op_plain rfl rfl h) rfl Try.func55 rfl rfl (args2 (ev e94) (ev e96)) (Z.callII (trammelref02_Floor.sem (Z.own 0 rfl (Bd.fm (Bd.abs (Bd.sub (Bd.gcd (Bd.abs hb1) (Bd.abs hb2)) (Bd.mul (fmod_bd (k := 0) (show _ ≠ (0 : Int) by rw [hG1]; omega) (fdiv_bd (Bd.abs hb2))) hb1))) (by decide))) (Z.num 17 rfl)  (Bd.mono (Bd.sub (Bd.gcd (Bd.abs hb1) (Bd.abs hb2)) (Bd.mul (fmod_bd (k := 0) (show _ ≠ (0 : Int) by rw [hG1]; omega) (fdiv_bd (Bd.abs hb2))) hb1)) (by decide)) (Bd.mono hb2 (by decide)) h0))
      · intro a x98 e99 W Q Z; exact step_val x98 (fun _ h => op_plain rfl rfl h) (run_move rfl (ev e99)) (has_two (Z.has 0 rfl) (Z.has 1 rfl))
      · intro a x101 e102 W Q Z; exact step_val x101.1 (fun _ h => op_plain rfl rfl h) (run_extract rfl (ev e102) rfl) (has_one (Z.has 0 rfl))
      · intro a x104 e105 W Q Z; exact step_val x104.2 (fun _ h => op_plain rfl rfl h) (run_extract rfl (ev e105) rfl) (has_one (Z.has 1 rfl))
      clear Z; intro x76 x78 x80 x85 x90 x92 x97 x100 x103 x106 W Z
      (try simp only [Act.put, List.setIfInBounds_toArray, List.set_cons_zero, List.set_cons_succ])
      refine seq_store Z 2 rfl rfl rfl rfl rfl ?_; clear Z; intro W Z
      (try simp only [Act.put, List.setIfInBounds_toArray, List.set_cons_zero, List.set_cons_succ])
      show Code.wp _ _ _ _ _
      refine wp_seq ?_
      refine wp_orders_k (act' := { tmps := #[.agg #[.bool (b1), .slice A1 n1 c1], .agg #[.bool (b2), .slice A2 n2 c2], .pointer (some ⟨g1, 0, none⟩), .pointer (some ⟨g2, 0, none⟩), .pointer (some ⟨g3, 0, none⟩), .pointer (some ⟨g4, 0, none⟩), .pointer (some ⟨g5, 0, none⟩), .pointer (some ⟨g8, 0, none⟩), .pointer (some ⟨g19, 0, none⟩), .pointer (some ⟨g20, 0, none⟩), .pointer (some ⟨g23, 0, none⟩), .pointer (some ⟨g24, 0, none⟩), j12_6, j13_6, .pointer (some ⟨g72, 0, none⟩), .pointer (some ⟨g73, 0, none⟩), .agg #[.bool (b2), .slice A2 n2 c2], .int .i64 ((z2).sign), .bool (decide (((z2).sign) = (0))), undef, undef, undef, undef, undef, undef, .agg #[.bool (b1), .slice A1 n1 c1], .agg #[.bool (b2), .slice A2 n2 c2], .agg #[.bool (decide (gcdI ((((z1)).natAbs : Nat)) ((((z2)).natAbs : Nat)) < 0)), x7.v], .agg #[.bool (b1), .slice A1 n1 c1], .agg #[.bool (decide ((z1) < 0)), x13.v], .agg #[.bool (b2), .slice A2 n2 c2], .agg #[.bool (decide ((z2) < 0)), x18.v], .agg #[.bool (decide ((1 : Int) < 0)), x21.v], .agg #[.bool (decide ((0 : Int) < 0)), x22.v], .agg #[.bool (decide (s < 0)), ps.v], .int .i64 ((s).sign), .bool (decide (((s).sign) ≠ (0))), j37_6, j38_6, j39_6, j40_6, j41_6, j42_6, j43_6, j44_6, j45_6, j46_6, j47_6, j48_6, j49_6, j50_6, .agg #[.bool (decide (r < 0)), pr.v], .int .i64 ((r).sign), .bool (decide (((r).sign) < (0))), .agg #[.bool (decide (x < 0)), px.v], .agg #[.bool (decide (-(x) < 0)), x50.v], .tuple #[.agg #[.bool (decide (((((z2)).natAbs : Nat) : Int).fdiv (gcdI ((((z1)).natAbs : Nat)) ((((z2)).natAbs : Nat))) < 0)), x65.1.v], .agg #[.bool (decide (((((z2)).natAbs : Nat) : Int).fmod (gcdI ((((z1)).natAbs : Nat)) ((((z2)).natAbs : Nat))) < 0)), x65.2.v]], .agg #[.bool (b2), .slice A2 n2 c2], .agg #[.bool (decide ((((z2)).natAbs : Nat) < 0)), x55.v], .agg #[.bool (decide (gcdI ((((z1)).natAbs : Nat)) ((((z2)).natAbs : Nat)) < 0)), x7.v], .tuple #[.agg #[.bool (decide (((((z2)).natAbs : Nat) : Int).fdiv (gcdI ((((z1)).natAbs : Nat)) ((((z2)).natAbs : Nat))) < 0)), x62.1.v], .agg #[.bool (decide (((((z2)).natAbs : Nat) : Int).fmod (gcdI ((((z1)).natAbs : Nat)) ((((z2)).natAbs : Nat))) < 0)), x62.2.v]], .agg #[.bool (decide (((((z2)).natAbs : Nat) : Int).fdiv (gcdI ((((z1)).natAbs : Nat)) ((((z2)).natAbs : Nat))) < 0)), x68.v], .agg #[.bool (decide (((((z2)).natAbs : Nat) : Int).fmod (gcdI ((((z1)).natAbs : Nat)) ((((z2)).natAbs : Nat))) < 0)), x71.v], .tuple #[.agg #[.bool (decide ((-(x) : Int).fdiv (((((z2)).natAbs : Nat) : Int).fdiv (gcdI ((((z1)).natAbs : Nat)) ((((z2)).natAbs : Nat)))) < 0)), x74.1.v], .agg #[.bool (decide ((-(x) : Int).fmod (((((z2)).natAbs : Nat) : Int).fdiv (gcdI ((((z1)).natAbs : Nat)) ((((z2)).natAbs : Nat)))) < 0)), x74.2.v]], .agg #[.bool (decide (-(x) < 0)), x50.v], .agg #[.bool (decide (((((z2)).natAbs : Nat) : Int).fdiv (gcdI ((((z1)).natAbs : Nat)) ((((z2)).natAbs : Nat))) < 0)), x68.v], .tuple #[.agg #[.bool (decide ((-(x) : Int).fdiv (((((z2)).natAbs : Nat) : Int).fdiv (gcdI ((((z1)).natAbs : Nat)) ((((z2)).natAbs : Nat)))) < 0)), x74.1.v], .agg #[.bool (decide ((-(x) : Int).fmod (((((z2)).natAbs : Nat) : Int).fdiv (gcdI ((((z1)).natAbs : Nat)) ((((z2)).natAbs : Nat)))) < 0)), x74.2.v]], .agg #[.bool (decide ((-(x) : Int).fdiv (((((z2)).natAbs : Nat) : Int).fdiv (gcdI ((((z1)).natAbs : Nat)) ((((z2)).natAbs : Nat)))) < 0)), x74.1.v], .agg #[.bool (decide ((-(x) : Int).fmod (((((z2)).natAbs : Nat) : Int).fdiv (gcdI ((((z1)).natAbs : Nat)) ((((z2)).natAbs : Nat)))) < 0)), x74.2.v], .tuple #[.agg #[.bool (decide (((gcdI ((((z1)).natAbs : Nat)) ((((z2)).natAbs : Nat))) - (((-(x) : Int).fmod (((((z2)).natAbs : Nat) : Int).fdiv (gcdI ((((z1)).natAbs : Nat)) ((((z2)).natAbs : Nat))))) * (z1)) : Int).fdiv (z2) < 0)), x100.1.v], .agg #[.bool (decide (((gcdI ((((z1)).natAbs : Nat)) ((((z2)).natAbs : Nat))) - (((-(x) : Int).fmod (((((z2)).natAbs : Nat) : Int).fdiv (gcdI ((((z1)).natAbs : Nat)) ((((z2)).natAbs : Nat))))) * (z1)) : Int).fmod (z2) < 0)), x100.2.v]], .agg #[.bool (decide (gcdI ((((z1)).natAbs : Nat)) ((((z2)).natAbs : Nat)) < 0)), x7.v], .agg #[.bool (decide ((-(x) : Int).fmod (((((z2)).natAbs : Nat) : Int).fdiv (gcdI ((((z1)).natAbs : Nat)) ((((z2)).natAbs : Nat)))) < 0)), x74.2.v], .agg #[.bool (b1), .slice A1 n1 c1], .agg #[.bool (decide (((-(x) : Int).fmod (((((z2)).natAbs : Nat) : Int).fdiv (gcdI ((((z1)).natAbs : Nat)) ((((z2)).natAbs : Nat))))) * (z1) < 0)), x85.v], .agg #[.bool (decide ((gcdI ((((z1)).natAbs : Nat)) ((((z2)).natAbs : Nat))) - (((-(x) : Int).fmod (((((z2)).natAbs : Nat) : Int).fdiv (gcdI ((((z1)).natAbs : Nat)) ((((z2)).natAbs : Nat))))) * (z1)) < 0)), x90.v], .agg #[.bool (b2), .slice A2 n2 c2], .tuple #[.agg #[.bool (decide (((gcdI ((((z1)).natAbs : Nat)) ((((z2)).natAbs : Nat))) - (((-(x) : Int).fmod (((((z2)).natAbs : Nat) : Int).fdiv (gcdI ((((z1)).natAbs : Nat)) ((((z2)).natAbs : Nat))))) * (z1)) : Int).fdiv (z2) < 0)), x97.1.v], .agg #[.bool (decide (((gcdI ((((z1)).natAbs : Nat)) ((((z2)).natAbs : Nat))) - (((-(x) : Int).fmod (((((z2)).natAbs : Nat) : Int).fdiv (gcdI ((((z1)).natAbs : Nat)) ((((z2)).natAbs : Nat))))) * (z1)) : Int).fmod (z2) < 0)), x97.2.v]], .agg #[.bool (decide (((gcdI ((((z1)).natAbs : Nat)) ((((z2)).natAbs : Nat))) - (((-(x) : Int).fmod (((((z2)).natAbs : Nat) : Int).fdiv (gcdI ((((z1)).natAbs : Nat)) ((((z2)).natAbs : Nat))))) * (z1)) : Int).fdiv (z2) < 0)), x103.v], .agg #[.bool (decide (((gcdI ((((z1)).natAbs : Nat)) ((((z2)).natAbs : Nat))) - (((-(x) : Int).fmod (((((z2)).natAbs : Nat) : Int).fdiv (gcdI ((((z1)).natAbs : Nat)) ((((z2)).natAbs : Nat))))) * (z1)) : Int).fmod (z2) < 0)), x106.v], .agg #[.bool (decide (gcdI ((((z1)).natAbs : Nat)) ((((z2)).natAbs : Nat)) < 0)), x7.v], .agg #[.bool (decide ((-(x) : Int).fmod (((((z2)).natAbs : Nat) : Int).fdiv (gcdI ((((z1)).natAbs : Nat)) ((((z2)).natAbs : Nat)))) < 0)), x74.2.v], .agg #[.bool (decide (((gcdI ((((z1)).natAbs : Nat)) ((((z2)).natAbs : Nat))) - (((-(x) : Int).fmod (((((z2)).natAbs : Nat) : Int).fdiv (gcdI ((((z1)).natAbs : Nat)) ((((z2)).natAbs : Nat))))) * (z1)) : Int).fdiv (z2) < 0)), x103.v]], defers := [] }) (ts' := [(x106.v, tyO w (mg (((gcdI ((((z1)).natAbs : Nat)) ((((z2)).natAbs : Nat))) - (((-(x) : Int).fmod (((((z2)).natAbs : Nat) : Int).fdiv (gcdI ((((z1)).natAbs : Nat)) ((((z2)).natAbs : Nat))))) * (z1)) : Int).fmod (z2)))), (x103.v, tyO w (mg (((gcdI ((((z1)).natAbs : Nat)) ((((z2)).natAbs : Nat))) - (((-(x) : Int).fmod (((((z2)).natAbs : Nat) : Int).fdiv (gcdI ((((z1)).natAbs : Nat)) ((((z2)).natAbs : Nat))))) * (z1)) : Int).fdiv (z2)))), (x100.1.v, tyO w (mg (((gcdI ((((z1)).natAbs : Nat)) ((((z2)).natAbs : Nat))) - (((-(x) : Int).fmod (((((z2)).natAbs : Nat) : Int).fdiv (gcdI ((((z1)).natAbs : Nat)) ((((z2)).natAbs : Nat))))) * (z1)) : Int).fdiv (z2)))), (x100.2.v, tyO w (mg (((gcdI ((((z1)).natAbs : Nat)) ((((z2)).natAbs : Nat))) - (((-(x) : Int).fmod (((((z2)).natAbs : Nat) : Int).fdiv (gcdI ((((z1)).natAbs : Nat)) ((((z2)).natAbs : Nat))))) * (z1)) : Int).fmod (z2)))), (x97.1.v, tyO w (mg (((gcdI ((((z1)).natAbs : Nat)) ((((z2)).natAbs : Nat))) - (((-(x) : Int).fmod (((((z2)).natAbs : Nat) : Int).fdiv (gcdI ((((z1)).natAbs : Nat)) ((((z2)).natAbs : Nat))))) * (z1)) : Int).fdiv (z2)))), (x97.2.v, tyO w (mg (((gcdI ((((z1)).natAbs : Nat)) ((((z2)).natAbs : Nat))) - (((-(x) : Int).fmod (((((z2)).natAbs : Nat) : Int).fdiv (gcdI ((((z1)).natAbs : Nat)) ((((z2)).natAbs : Nat))))) * (z1)) : Int).fmod (z2)))), (x90.v, tyO w (mg ((gcdI ((((z1)).natAbs : Nat)) ((((z2)).natAbs : Nat))) - (((-(x) : Int).fmod (((((z2)).natAbs : Nat) : Int).fdiv (gcdI ((((z1)).natAbs : Nat)) ((((z2)).natAbs : Nat))))) * (z1))))), (x85.v, tyO w (mg (((-(x) : Int).fmod (((((z2)).natAbs : Nat) : Int).fdiv (gcdI ((((z1)).natAbs : Nat)) ((((z2)).natAbs : Nat))))) * (z1)))), (x74.1.v, tyO w (mg ((-(x) : Int).fdiv (((((z2)).natAbs : Nat) : Int).fdiv (gcdI ((((z1)).natAbs : Nat)) ((((z2)).natAbs : Nat))))))), (x74.2.v, tyO w (mg ((-(x) : Int).fmod (((((z2)).natAbs : Nat) : Int).fdiv (gcdI ((((z1)).natAbs : Nat)) ((((z2)).natAbs : Nat))))))), (x71.v, tyO w (mg (((((z2)).natAbs : Nat) : Int).fmod (gcdI ((((z1)).natAbs : Nat)) ((((z2)).natAbs : Nat)))))), (x68.v, tyO w (mg (((((z2)).natAbs : Nat) : Int).fdiv (gcdI ((((z1)).natAbs : Nat)) ((((z2)).natAbs : Nat)))))), (x65.1.v, tyO w (mg (((((z2)).natAbs : Nat) : Int).fdiv (gcdI ((((z1)).natAbs : Nat)) ((((z2)).natAbs : Nat)))))), (x65.2.v, tyO w (mg (((((z2)).natAbs : Nat) : Int).fmod (gcdI ((((z1)).natAbs : Nat)) ((((z2)).natAbs : Nat)))))), (x62.1.v, tyO w (mg (((((z2)).natAbs : Nat) : Int).fdiv (gcdI ((((z1)).natAbs : Nat)) ((((z2)).natAbs : Nat)))))), (x62.2.v, tyO w (mg (((((z2)).natAbs : Nat) : Int).fmod (gcdI ((((z1)).natAbs : Nat)) ((((z2)).natAbs : Nat)))))), (x55.v, tyO w (mg ((((z2)).natAbs : Nat)))), (x50.v, tyO w (mg (-(x)))), (pr.v, tyO w (mg r)), (ps.v, tyO w (mg s)), (px.v, tyO w (mg x)), (pu.v, tyO w (mg u)), (x7.v, tyO w (mg (gcdI ((((z1)).natAbs : Nat)) ((((z2)).natAbs : Nat))))), (.slice A1 n1 c1, tyN b1 z1), (.slice A2 n2 c2, tyN b2 z2)]) (bs' := [(g73, 25, #[.bool (decide (((((z2)).natAbs : Nat) : Int).fmod (gcdI ((((z1)).natAbs : Nat)) ((((z2)).natAbs : Nat))) < 0)), x71.v]), (g72, 25, #[.bool (decide (((((z2)).natAbs : Nat) : Int).fdiv (gcdI ((((z1)).natAbs : Nat)) ((((z2)).natAbs : Nat))) < 0)), x68.v]), (g24, 25, #[.bool (decide (((gcdI ((((z1)).natAbs : Nat)) ((((z2)).natAbs : Nat))) - (((-(x) : Int).fmod (((((z2)).natAbs : Nat) : Int).fdiv (gcdI ((((z1)).natAbs : Nat)) ((((z2)).natAbs : Nat))))) * (z1)) : Int).fdiv (z2) < 0)), x103.v]), (g23, 25, #[.bool (decide ((-(x) : Int).fmod (((((z2)).natAbs : Nat) : Int).fdiv (gcdI ((((z1)).natAbs : Nat)) ((((z2)).natAbs : Nat)))) < 0)), x74.2.v]), (g20, 25, #[.bool (decide (s < 0)), ps.v]), (g19, 25, #[.bool (decide (r < 0)), pr.v]), (g8, 25, #[.bool (decide (gcdI ((((z1)).natAbs : Nat)) ((((z2)).natAbs : Nat)) < 0)), x7.v]), (g5, 25, #[.bool (decide (((gcdI ((((z1)).natAbs : Nat)) ((((z2)).natAbs : Nat))) - (((-(x) : Int).fmod (((((z2)).natAbs : Nat) : Int).fdiv (gcdI ((((z1)).natAbs : Nat)) ((((z2)).natAbs : Nat))))) * (z1)) : Int).fdiv (z2) < 0)), x103.v]), (g4, 25, #[.bool (decide ((-(x) : Int).fmod (((((z2)).natAbs : Nat) : Int).fdiv (gcdI ((((z1)).natAbs : Nat)) ((((z2)).natAbs : Nat)))) < 0)), x74.2.v]), (g3, 25, #[.bool (decide (gcdI ((((z1)).natAbs : Nat)) ((((z2)).natAbs : Nat)) < 0)), x7.v]), (g2, 25, #[.bool (b2), .slice A2 n2 c2]), (g1, 25, #[.bool (b1), .slice A1 n1 c1])]) Z (by kernel_rfl) [[0, 1, 2, 3, 4, 5], [0, 1, 3, 2, 4, 5], [0, 1, 3, 4, 2, 5], [0, 2, 1, 3, 4, 5], [0, 2, 3, 1, 4, 5], [0, 3, 1, 2, 4, 5], [0, 3, 1, 4, 2, 5], [0, 3, 2, 1, 4, 5], [1, 0, 2, 3, 4, 5], [1, 0, 3, 2, 4, 5], [1, 0, 3, 4, 2, 5], [1, 2, 0, 3, 4, 5], [2, 0, 1, 3, 4, 5], [2, 0, 3, 1, 4, 5], [2, 1, 0, 3, 4, 5]] (by kernel_rfl) (fun K W Z o ho => ?_) (fun W Z => ?_)
      · simp only [List.mem_cons, List.not_mem_nil, or_false] at ho; rcases ho with rfl | rfl | rfl | rfl | rfl | rfl | rfl | rfl | rfl | rfl | rfl | rfl | rfl | rfl | rfl
        · show wpList _ _ _ [_, _, _, _, _, _] _ _
          refine seq_is (v := .agg #[.bool (decide (gcdI ((((z1)).natAbs : Nat)) ((((z2)).natAbs : Nat)) < 0)), x7.v]) rfl (run_load2 rfl rfl (Z.bx 6 rfl)) ?_
          (try simp only [Act.put, List.setIfInBounds_toArray, List.set_cons_zero, List.set_cons_succ])
          refine seq_is (v := .agg #[.bool (decide ((-(x) : Int).fmod (((((z2)).natAbs : Nat) : Int).fdiv (gcdI ((((z1)).natAbs : Nat)) ((((z2)).natAbs : Nat)))) < 0)), x74.2.v]) rfl (run_load2 rfl rfl (Z.bx 3 rfl)) ?_
          (try simp only [Act.put, List.setIfInBounds_toArray, List.set_cons_zero, List.set_cons_succ])
          refine seq_is (v := .agg #[.bool (decide (((gcdI ((((z1)).natAbs : Nat)) ((((z2)).natAbs : Nat))) - (((-(x) : Int).fmod (((((z2)).natAbs : Nat) : Int).fdiv (gcdI ((((z1)).natAbs : Nat)) ((((z2)).natAbs : Nat))))) * (z1)) : Int).fdiv (z2) < 0)), x103.v]) rfl (run_load2 rfl rfl (Z.bx 2 rfl)) ?_
          (try simp only [Act.put, List.setIfInBounds_toArray, List.set_cons_zero, List.set_cons_succ])
          refine seq_store Z 9 rfl rfl rfl rfl rfl ?_; clear Z; intro W Z
          (try simp only [Act.put, List.setIfInBounds_toArray, List.set_cons_zero, List.set_cons_succ])
          refine seq_store Z 8 rfl rfl rfl rfl rfl ?_; clear Z; intro W Z
          (try simp only [Act.put, List.setIfInBounds_toArray, List.set_cons_zero, List.set_cons_succ])
          refine seq_store Z 7 rfl rfl rfl rfl rfl ?_; clear Z; intro W Z
          (try simp only [Act.put, List.setIfInBounds_toArray, List.set_cons_zero, List.set_cons_succ])
          exact K _ Z
        · show wpList _ _ _ [_, _, _, _, _, _] _ _
          refine seq_is (v := .agg #[.bool (decide (gcdI ((((z1)).natAbs : Nat)) ((((z2)).natAbs : Nat)) < 0)), x7.v]) rfl (run_load2 rfl rfl (Z.bx 6 rfl)) ?_
          (try simp only [Act.put, List.setIfInBounds_toArray, List.set_cons_zero, List.set_cons_succ])
          refine seq_is (v := .agg #[.bool (decide ((-(x) : Int).fmod (((((z2)).natAbs : Nat) : Int).fdiv (gcdI ((((z1)).natAbs : Nat)) ((((z2)).natAbs : Nat)))) < 0)), x74.2.v]) rfl (run_load2 rfl rfl (Z.bx 3 rfl)) ?_
          (try simp only [Act.put, List.setIfInBounds_toArray, List.set_cons_zero, List.set_cons_succ])
          refine seq_store Z 9 rfl rfl rfl rfl rfl ?_; clear Z; intro W Z
          (try simp only [Act.put, List.setIfInBounds_toArray, List.set_cons_zero, List.set_cons_succ])
          refine seq_is (v := .agg #[.bool (decide (((gcdI ((((z1)).natAbs : Nat)) ((((z2)).natAbs : Nat))) - (((-(x) : Int).fmod (((((z2)).natAbs : Nat) : Int).fdiv (gcdI ((((z1)).natAbs : Nat)) ((((z2)).natAbs : Nat))))) * (z1)) : Int).fdiv (z2) < 0)), x103.v]) rfl (run_load2 rfl rfl (Z.bx 2 rfl)) ?_
          (try simp only [Act.put, List.setIfInBounds_toArray, List.set_cons_zero, List.set_cons_succ])
          refine seq_store Z 8 rfl rfl rfl rfl rfl ?_; clear Z; intro W Z
          (try simp only [Act.put, List.setIfInBounds_toArray, List.set_cons_zero, List.set_cons_succ])
          refine seq_store Z 7 rfl rfl rfl rfl rfl ?_; clear Z; intro W Z
          (try simp only [Act.put, List.setIfInBounds_toArray, List.set_cons_zero, List.set_cons_succ])
          exact K _ Z
        · show wpList _ _ _ [_, _, _, _, _, _] _ _
          refine seq_is (v := .agg #[.bool (decide (gcdI ((((z1)).natAbs : Nat)) ((((z2)).natAbs : Nat)) < 0)), x7.v]) rfl (run_load2 rfl rfl (Z.bx 6 rfl)) ?_
          (try simp only [Act.put, List.setIfInBounds_toArray, List.set_cons_zero, List.set_cons_succ])
          refine seq_is (v := .agg #[.bool (decide ((-(x) : Int).fmod (((((z2)).natAbs : Nat) : Int).fdiv (gcdI ((((z1)).natAbs : Nat)) ((((z2)).natAbs : Nat)))) < 0)), x74.2.v]) rfl (run_load2 rfl rfl (Z.bx 3 rfl)) ?_
          (try simp only [Act.put, List.setIfInBounds_toArray, List.set_cons_zero, List.set_cons_succ])
          refine seq_store Z 9 rfl rfl rfl rfl rfl ?_; clear Z; intro W Z
          (try simp only [Act.put, List.setIfInBounds_toArray, List.set_cons_zero, List.set_cons_succ])
          refine seq_store Z 8 rfl rfl rfl rfl rfl ?_; clear Z; intro W Z
          (try simp only [Act.put, List.setIfInBounds_toArray, List.set_cons_zero, List.set_cons_succ])
          refine seq_is (v := .agg #[.bool (decide (((gcdI ((((z1)).natAbs : Nat)) ((((z2)).natAbs : Nat))) - (((-(x) : Int).fmod (((((z2)).natAbs : Nat) : Int).fdiv (gcdI ((((z1)).natAbs : Nat)) ((((z2)).natAbs : Nat))))) * (z1)) : Int).fdiv (z2) < 0)), x103.v]) rfl (run_load2 rfl rfl (Z.bx 2 rfl)) ?_
          (try simp only [Act.put, List.setIfInBounds_toArray, List.set_cons_zero, List.set_cons_succ])
          refine seq_store Z 7 rfl rfl rfl rfl rfl ?_; clear Z; intro W Z
          (try simp only [Act.put, List.setIfInBounds_toArray, List.set_cons_zero, List.set_cons_succ])
          exact K _ Z
        · show wpList _ _ _ [_, _, _, _, _, _] _ _
          refine seq_is (v := .agg #[.bool (decide (gcdI ((((z1)).natAbs : Nat)) ((((z2)).natAbs : Nat)) < 0)), x7.v]) rfl (run_load2 rfl rfl (Z.bx 6 rfl)) ?_
          (try simp only [Act.put, List.setIfInBounds_toArray, List.set_cons_zero, List.set_cons_succ])
          refine seq_is (v := .agg #[.bool (decide (((gcdI ((((z1)).natAbs : Nat)) ((((z2)).natAbs : Nat))) - (((-(x) : Int).fmod (((((z2)).natAbs : Nat) : Int).fdiv (gcdI ((((z1)).natAbs : Nat)) ((((z2)).natAbs : Nat))))) * (z1)) : Int).fdiv (z2) < 0)), x103.v]) rfl (run_load2 rfl rfl (Z.bx 2 rfl)) ?_
          (try simp only [Act.put, List.setIfInBounds_toArray, List.set_cons_zero, List.set_cons_succ])
          refine seq_is (v := .agg #[.bool (decide ((-(x) : Int).fmod (((((z2)).natAbs : Nat) : Int).fdiv (gcdI ((((z1)).natAbs : Nat)) ((((z2)).natAbs : Nat)))) < 0)), x74.2.v]) rfl (run_load2 rfl rfl (Z.bx 3 rfl)) ?_
          (try simp only [Act.put, List.setIfInBounds_toArray, List.set_cons_zero, List.set_cons_succ])
          refine seq_store Z 9 rfl rfl rfl rfl rfl ?_; clear Z; intro W Z
          (try simp only [Act.put, List.setIfInBounds_toArray, List.set_cons_zero, List.set_cons_succ])
          refine seq_store Z 8 rfl rfl rfl rfl rfl ?_; clear Z; intro W Z
          (try simp only [Act.put, List.setIfInBounds_toArray, List.set_cons_zero, List.set_cons_succ])
          refine seq_store Z 7 rfl rfl rfl rfl rfl ?_; clear Z; intro W Z
          (try simp only [Act.put, List.setIfInBounds_toArray, List.set_cons_zero, List.set_cons_succ])
          exact K _ Z
        · show wpList _ _ _ [_, _, _, _, _, _] _ _
          refine seq_is (v := .agg #[.bool (decide (gcdI ((((z1)).natAbs : Nat)) ((((z2)).natAbs : Nat)) < 0)), x7.v]) rfl (run_load2 rfl rfl (Z.bx 6 rfl)) ?_
          (try simp only [Act.put, List.setIfInBounds_toArray, List.set_cons_zero, List.set_cons_succ])
          refine seq_is (v := .agg #[.bool (decide (((gcdI ((((z1)).natAbs : Nat)) ((((z2)).natAbs : Nat))) - (((-(x) : Int).fmod (((((z2)).natAbs : Nat) : Int).fdiv (gcdI ((((z1)).natAbs : Nat)) ((((z2)).natAbs : Nat))))) * (z1)) : Int).fdiv (z2) < 0)), x103.v]) rfl (run_load2 rfl rfl (Z.bx 2 rfl)) ?_
          (try simp only [Act.put, List.setIfInBounds_toArray, List.set_cons_zero, List.set_cons_succ])
          refine seq_store Z 9 rfl rfl rfl rfl rfl ?_; clear Z; intro W Z
          (try simp only [Act.put, List.setIfInBounds_toArray, List.set_cons_zero, List.set_cons_succ])
          refine seq_is (v := .agg #[.bool (decide ((-(x) : Int).fmod (((((z2)).natAbs : Nat) : Int).fdiv (gcdI ((((z1)).natAbs : Nat)) ((((z2)).natAbs : Nat)))) < 0)), x74.2.v]) rfl (run_load2 rfl rfl (Z.bx 3 rfl)) ?_
          (try simp only [Act.put, List.setIfInBounds_toArray, List.set_cons_zero, List.set_cons_succ])
          refine seq_store Z 8 rfl rfl rfl rfl rfl ?_; clear Z; intro W Z
          (try simp only [Act.put, List.setIfInBounds_toArray, List.set_cons_zero, List.set_cons_succ])
          refine seq_store Z 7 rfl rfl rfl rfl rfl ?_; clear Z; intro W Z
          (try simp only [Act.put, List.setIfInBounds_toArray, List.set_cons_zero, List.set_cons_succ])
          exact K _ Z
        · show wpList _ _ _ [_, _, _, _, _, _] _ _
          refine seq_is (v := .agg #[.bool (decide (gcdI ((((z1)).natAbs : Nat)) ((((z2)).natAbs : Nat)) < 0)), x7.v]) rfl (run_load2 rfl rfl (Z.bx 6 rfl)) ?_
          (try simp only [Act.put, List.setIfInBounds_toArray, List.set_cons_zero, List.set_cons_succ])
          refine seq_store Z 9 rfl rfl rfl rfl rfl ?_; clear Z; intro W Z
          (try simp only [Act.put, List.setIfInBounds_toArray, List.set_cons_zero, List.set_cons_succ])
          refine seq_is (v := .agg #[.bool (decide ((-(x) : Int).fmod (((((z2)).natAbs : Nat) : Int).fdiv (gcdI ((((z1)).natAbs : Nat)) ((((z2)).natAbs : Nat)))) < 0)), x74.2.v]) rfl (run_load2 rfl rfl (Z.bx 3 rfl)) ?_
          (try simp only [Act.put, List.setIfInBounds_toArray, List.set_cons_zero, List.set_cons_succ])
          refine seq_is (v := .agg #[.bool (decide (((gcdI ((((z1)).natAbs : Nat)) ((((z2)).natAbs : Nat))) - (((-(x) : Int).fmod (((((z2)).natAbs : Nat) : Int).fdiv (gcdI ((((z1)).natAbs : Nat)) ((((z2)).natAbs : Nat))))) * (z1)) : Int).fdiv (z2) < 0)), x103.v]) rfl (run_load2 rfl rfl (Z.bx 2 rfl)) ?_
          (try simp only [Act.put, List.setIfInBounds_toArray, List.set_cons_zero, List.set_cons_succ])
          refine seq_store Z 8 rfl rfl rfl rfl rfl ?_; clear Z; intro W Z
          (try simp only [Act.put, List.setIfInBounds_toArray, List.set_cons_zero, List.set_cons_succ])
          refine seq_store Z 7 rfl rfl rfl rfl rfl ?_; clear Z; intro W Z
          (try simp only [Act.put, List.setIfInBounds_toArray, List.set_cons_zero, List.set_cons_succ])
          exact K _ Z
        · show wpList _ _ _ [_, _, _, _, _, _] _ _
          refine seq_is (v := .agg #[.bool (decide (gcdI ((((z1)).natAbs : Nat)) ((((z2)).natAbs : Nat)) < 0)), x7.v]) rfl (run_load2 rfl rfl (Z.bx 6 rfl)) ?_
          (try simp only [Act.put, List.setIfInBounds_toArray, List.set_cons_zero, List.set_cons_succ])
          refine seq_store Z 9 rfl rfl rfl rfl rfl ?_; clear Z; intro W Z
          (try simp only [Act.put, List.setIfInBounds_toArray, List.set_cons_zero, List.set_cons_succ])
          refine seq_is (v := .agg #[.bool (decide ((-(x) : Int).fmod (((((z2)).natAbs : Nat) : Int).fdiv (gcdI ((((z1)).natAbs : Nat)) ((((z2)).natAbs : Nat)))) < 0)), x74.2.v]) rfl (run_load2 rfl rfl (Z.bx 3 rfl)) ?_
          (try simp only [Act.put, List.setIfInBounds_toArray, List.set_cons_zero, List.set_cons_succ])
          refine seq_store Z 8 rfl rfl rfl rfl rfl ?_; clear Z; intro W Z
          (try simp only [Act.put, List.setIfInBounds_toArray, List.set_cons_zero, List.set_cons_succ])
          refine seq_is (v := .agg #[.bool (decide (((gcdI ((((z1)).natAbs : Nat)) ((((z2)).natAbs : Nat))) - (((-(x) : Int).fmod (((((z2)).natAbs : Nat) : Int).fdiv (gcdI ((((z1)).natAbs : Nat)) ((((z2)).natAbs : Nat))))) * (z1)) : Int).fdiv (z2) < 0)), x103.v]) rfl (run_load2 rfl rfl (Z.bx 2 rfl)) ?_
          (try simp only [Act.put, List.setIfInBounds_toArray, List.set_cons_zero, List.set_cons_succ])
          refine seq_store Z 7 rfl rfl rfl rfl rfl ?_; clear Z; intro W Z
          (try simp only [Act.put, List.setIfInBounds_toArray, List.set_cons_zero, List.set_cons_succ])
          exact K _ Z
        · show wpList _ _ _ [_, _, _, _, _, _] _ _
          refine seq_is (v := .agg #[.bool (decide (gcdI ((((z1)).natAbs : Nat)) ((((z2)).natAbs : Nat)) < 0)), x7.v]) rfl (run_load2 rfl rfl (Z.bx 6 rfl)) ?_
          (try simp only [Act.put, List.setIfInBounds_toArray, List.set_cons_zero, List.set_cons_succ])
          refine seq_store Z 9 rfl rfl rfl rfl rfl ?_; clear Z; intro W Z
          (try simp only [Act.put, List.setIfInBounds_toArray, List.set_cons_zero, List.set_cons_succ])
          refine seq_is (v := .agg #[.bool (decide (((gcdI ((((z1)).natAbs : Nat)) ((((z2)).natAbs : Nat))) - (((-(x) : Int).fmod (((((z2)).natAbs : Nat) : Int).fdiv (gcdI ((((z1)).natAbs : Nat)) ((((z2)).natAbs : Nat))))) * (z1)) : Int).fdiv (z2) < 0)), x103.v]) rfl (run_load2 rfl rfl (Z.bx 2 rfl)) ?_
          (try simp only [Act.put, List.setIfInBounds_toArray, List.set_cons_zero, List.set_cons_succ])
          refine seq_is (v := .agg #[.bool (decide ((-(x) : Int).fmod (((((z2)).natAbs : Nat) : Int).fdiv (gcdI ((((z1)).natAbs : Nat)) ((((z2)).natAbs : Nat)))) < 0)), x74.2.v]) rfl (run_load2 rfl rfl (Z.bx 3 rfl)) ?_
          (try simp only [Act.put, List.setIfInBounds_toArray, List.set_cons_zero, List.set_cons_succ])
          refine seq_store Z 8 rfl rfl rfl rfl rfl ?_; clear Z; intro W Z
          (try simp only [Act.put, List.setIfInBounds_toArray, List.set_cons_zero, List.set_cons_succ])
          refine seq_store Z 7 rfl rfl rfl rfl rfl ?_; clear Z; intro W Z
          (try simp only [Act.put, List.setIfInBounds_toArray, List.set_cons_zero, List.set_cons_succ])
          exact K _ Z
        · show wpList _ _ _ [_, _, _, _, _, _] _ _
          refine seq_is (v := .agg #[.bool (decide ((-(x) : Int).fmod (((((z2)).natAbs : Nat) : Int).fdiv (gcdI ((((z1)).natAbs : Nat)) ((((z2)).natAbs : Nat)))) < 0)), x74.2.v]) rfl (run_load2 rfl rfl (Z.bx 3 rfl)) ?_
          (try simp only [Act.put, List.setIfInBounds_toArray, List.set_cons_zero, List.set_cons_succ])
          refine seq_is (v := .agg #[.bool (decide (gcdI ((((z1)).natAbs : Nat)) ((((z2)).natAbs : Nat)) < 0)), x7.v]) rfl (run_load2 rfl rfl (Z.bx 6 rfl)) ?_
          (try simp only [Act.put, List.setIfInBounds_toArray, List.set_cons_zero, List.set_cons_succ])
          refine seq_is (v := .agg #[.bool (decide (((gcdI ((((z1)).natAbs : Nat)) ((((z2)).natAbs : Nat))) - (((-(x) : Int).fmod (((((z2)).natAbs : Nat) : Int).fdiv (gcdI ((((z1)).natAbs : Nat)) ((((z2)).natAbs : Nat))))) * (z1)) : Int).fdiv (z2) < 0)), x103.v]) rfl (run_load2 rfl rfl (Z.bx 2 rfl)) ?_
          (try simp only [Act.put, List.setIfInBounds_toArray, List.set_cons_zero, List.set_cons_succ])
          refine seq_store Z 9 rfl rfl rfl rfl rfl ?_; clear Z; intro W Z
          (try simp only [Act.put, List.setIfInBounds_toArray, List.set_cons_zero, List.set_cons_succ])
          refine seq_store Z 8 rfl rfl rfl rfl rfl ?_; clear Z; intro W Z
          (try simp only [Act.put, List.setIfInBounds_toArray, List.set_cons_zero, List.set_cons_succ])
          refine seq_store Z 7 rfl rfl rfl rfl rfl ?_; clear Z; intro W Z
          (try simp only [Act.put, List.setIfInBounds_toArray, List.set_cons_zero, List.set_cons_succ])
          exact K _ Z
        · show wpList _ _ _ [_, _, _, _, _, _] _ _
          refine seq_is (v := .agg #[.bool (decide ((-(x) : Int).fmod (((((z2)).natAbs : Nat) : Int).fdiv (gcdI ((((z1)).natAbs : Nat)) ((((z2)).natAbs : Nat)))) < 0)), x74.2.v]) rfl (run_load2 rfl rfl (Z.bx 3 rfl)) ?_
          (try simp only [Act.put, List.setIfInBounds_toArray, List.set_cons_zero, List.set_cons_succ])
          refine seq_is (v := .agg #[.bool (decide (gcdI ((((z1)).natAbs : Nat)) ((((z2)).natAbs : Nat)) < 0)), x7.v]) rfl (run_load2 rfl rfl (Z.bx 6 rfl)) ?_
          (try simp only [Act.put, List.setIfInBounds_toArray, List.set_cons_zero, List.set_cons_succ])
          refine seq_store Z 9 rfl rfl rfl rfl rfl ?_; clear Z; intro W Z
          (try simp only [Act.put, List.setIfInBounds_toArray, List.set_cons_zero, List.set_cons_succ])
          refine seq_is (v := .agg #[.bool (decide (((gcdI ((((z1)).natAbs : Nat)) ((((z2)).natAbs : Nat))) - (((-(x) : Int).fmod (((((z2)).natAbs : Nat) : Int).fdiv (gcdI ((((z1)).natAbs : Nat)) ((((z2)).natAbs : Nat))))) * (z1)) : Int).fdiv (z2) < 0)), x103.v]) rfl (run_load2 rfl rfl (Z.bx 2 rfl)) ?_
          (try simp only [Act.put, List.setIfInBounds_toArray, List.set_cons_zero, List.set_cons_succ])
          refine seq_store Z 8 rfl rfl rfl rfl rfl ?_; clear Z; intro W Z
          (try simp only [Act.put, List.setIfInBounds_toArray, List.set_cons_zero, List.set_cons_succ])
          refine seq_store Z 7 rfl rfl rfl rfl rfl ?_; clear Z; intro W Z
          (try simp only [Act.put, List.setIfInBounds_toArray, List.set_cons_zero, List.set_cons_succ])
          exact K _ Z
        · show wpList _ _ _ [_, _, _, _, _, _] _ _
          refine seq_is (v := .agg #[.bool (decide ((-(x) : Int).fmod (((((z2)).natAbs : Nat) : Int).fdiv (gcdI ((((z1)).natAbs : Nat)) ((((z2)).natAbs : Nat)))) < 0)), x74.2.v]) rfl (run_load2 rfl rfl (Z.bx 3 rfl)) ?_
          (try simp only [Act.put, List.setIfInBounds_toArray, List.set_cons_zero, List.set_cons_succ])
          refine seq_is (v := .agg #[.bool (decide (gcdI ((((z1)).natAbs : Nat)) ((((z2)).natAbs : Nat)) < 0)), x7.v]) rfl (run_load2 rfl rfl (Z.bx 6 rfl)) ?_
          (try simp only [Act.put, List.setIfInBounds_toArray, List.set_cons_zero, List.set_cons_succ])
          refine seq_store Z 9 rfl rfl rfl rfl rfl ?_; clear Z; intro W Z
          (try simp only [Act.put, List.setIfInBounds_toArray, List.set_cons_zero, List.set_cons_succ])
          refine seq_store Z 8 rfl rfl rfl rfl rfl ?_; clear Z; intro W Z
          (try simp only [Act.put, List.setIfInBounds_toArray, List.set_cons_zero, List.set_cons_succ])
          refine seq_is (v := .agg #[.bool (decide (((gcdI ((((z1)).natAbs : Nat)) ((((z2)).natAbs : Nat))) - (((-(x) : Int).fmod (((((z2)).natAbs : Nat) : Int).fdiv (gcdI ((((z1)).natAbs : Nat)) ((((z2)).natAbs : Nat))))) * (z1)) : Int).fdiv (z2) < 0)), x103.v]) rfl (run_load2 rfl rfl (Z.bx 2 rfl)) ?_
          (try simp only [Act.put, List.setIfInBounds_toArray, List.set_cons_zero, List.set_cons_succ])
          refine seq_store Z 7 rfl rfl rfl rfl rfl ?_; clear Z; intro W Z
          (try simp only [Act.put, List.setIfInBounds_toArray, List.set_cons_zero, List.set_cons_succ])
          exact K _ Z
        · show wpList _ _ _ [_, _, _, _, _, _] _ _
          refine seq_is (v := .agg #[.bool (decide ((-(x) : Int).fmod (((((z2)).natAbs : Nat) : Int).fdiv (gcdI ((((z1)).natAbs : Nat)) ((((z2)).natAbs : Nat)))) < 0)), x74.2.v]) rfl (run_load2 rfl rfl (Z.bx 3 rfl)) ?_
          (try simp only [Act.put, List.setIfInBounds_toArray, List.set_cons_zero, List.set_cons_succ])
          refine seq_is (v := .agg #[.bool (decide (((gcdI ((((z1)).natAbs : Nat)) ((((z2)).natAbs : Nat))) - (((-(x) : Int).fmod (((((z2)).natAbs : Nat) : Int).fdiv (gcdI ((((z1)).natAbs : Nat)) ((((z2)).natAbs : Nat))))) * (z1)) : Int).fdiv (z2) < 0)), x103.v]) rfl (run_load2 rfl rfl (Z.bx 2 rfl)) ?_
          (try simp only [Act.put, List.setIfInBounds_toArray, List.set_cons_zero, List.set_cons_succ])
          refine seq_is (v := .agg #[.bool (decide (gcdI ((((z1)).natAbs : Nat)) ((((z2)).natAbs : Nat)) < 0)), x7.v]) rfl (run_load2 rfl rfl (Z.bx 6 rfl)) ?_
          (try simp only [Act.put, List.setIfInBounds_toArray, List.set_cons_zero, List.set_cons_succ])
          refine seq_store Z 9 rfl rfl rfl rfl rfl ?_; clear Z; intro W Z
          (try simp only [Act.put, List.setIfInBounds_toArray, List.set_cons_zero, List.set_cons_succ])
          refine seq_store Z 8 rfl rfl rfl rfl rfl ?_; clear Z; intro W Z
          (try simp only [Act.put, List.setIfInBounds_toArray, List.set_cons_zero, List.set_cons_succ])
          refine seq_store Z 7 rfl rfl rfl rfl rfl ?_; clear Z; intro W Z
          (try simp only [Act.put, List.setIfInBounds_toArray, List.set_cons_zero, List.set_cons_succ])
          exact K _ Z
        · show wpList _ _ _ [_, _, _, _, _, _] _ _
          refine seq_is (v := .agg #[.bool (decide (((gcdI ((((z1)).natAbs : Nat)) ((((z2)).natAbs : Nat))) - (((-(x) : Int).fmod (((((z2)).natAbs : Nat) : Int).fdiv (gcdI ((((z1)).natAbs : Nat)) ((((z2)).natAbs : Nat))))) * (z1)) : Int).fdiv (z2) < 0)), x103.v]) rfl (run_load2 rfl rfl (Z.bx 2 rfl)) ?_
          (try simp only [Act.put, List.setIfInBounds_toArray, List.set_cons_zero, List.set_cons_succ])
          refine seq_is (v := .agg #[.bool (decide (gcdI ((((z1)).natAbs : Nat)) ((((z2)).natAbs : Nat)) < 0)), x7.v]) rfl (run_load2 rfl rfl (Z.bx 6 rfl)) ?_
          (try simp only [Act.put, List.setIfInBounds_toArray, List.set_cons_zero, List.set_cons_succ])
          refine seq_is (v := .agg #[.bool (decide ((-(x) : Int).fmod (((((z2)).natAbs : Nat) : Int).fdiv (gcdI ((((z1)).natAbs : Nat)) ((((z2)).natAbs : Nat)))) < 0)), x74.2.v]) rfl (run_load2 rfl rfl (Z.bx 3 rfl)) ?_
          (try simp only [Act.put, List.setIfInBounds_toArray, List.set_cons_zero, List.set_cons_succ])
          refine seq_store Z 9 rfl rfl rfl rfl rfl ?_; clear Z; intro W Z
          (try simp only [Act.put, List.setIfInBounds_toArray, List.set_cons_zero, List.set_cons_succ])
          refine seq_store Z 8 rfl rfl rfl rfl rfl ?_; clear Z; intro W Z
          (try simp only [Act.put, List.setIfInBounds_toArray, List.set_cons_zero, List.set_cons_succ])
          refine seq_store Z 7 rfl rfl rfl rfl rfl ?_; clear Z; intro W Z
          (try simp only [Act.put, List.setIfInBounds_toArray, List.set_cons_zero, List.set_cons_succ])
          exact K _ Z
        · show wpList _ _ _ [_, _, _, _, _, _] _ _
          refine seq_is (v := .agg #[.bool (decide (((gcdI ((((z1)).natAbs : Nat)) ((((z2)).natAbs : Nat))) - (((-(x) : Int).fmod (((((z2)).natAbs : Nat) : Int).fdiv (gcdI ((((z1)).natAbs : Nat)) ((((z2)).natAbs : Nat))))) * (z1)) : Int).fdiv (z2) < 0)), x103.v]) rfl (run_load2 rfl rfl (Z.bx 2 rfl)) ?_
          (try simp only [Act.put, List.setIfInBounds_toArray, List.set_cons_zero, List.set_cons_succ])
          refine seq_is (v := .agg #[.bool (decide (gcdI ((((z1)).natAbs : Nat)) ((((z2)).natAbs : Nat)) < 0)), x7.v]) rfl (run_load2 rfl rfl (Z.bx 6 rfl)) ?_
          (try simp only [Act.put, List.setIfInBounds_toArray, List.set_cons_zero, List.set_cons_succ])
          refine seq_store Z 9 rfl rfl rfl rfl rfl ?_; clear Z; intro W Z
          (try simp only [Act.put, List.setIfInBounds_toArray, List.set_cons_zero, List.set_cons_succ])
          refine seq_is (v := .agg #[.bool (decide ((-(x) : Int).fmod (((((z2)).natAbs : Nat) : Int).fdiv (gcdI ((((z1)).natAbs : Nat)) ((((z2)).natAbs : Nat)))) < 0)), x74.2.v]) rfl (run_load2 rfl rfl (Z.bx 3 rfl)) ?_
          (try simp only [Act.put, List.setIfInBounds_toArray, List.set_cons_zero, List.set_cons_succ])
          refine seq_store Z 8 rfl rfl rfl rfl rfl ?_; clear Z; intro W Z
          (try simp only [Act.put, List.setIfInBounds_toArray, List.set_cons_zero, List.set_cons_succ])
          refine seq_store Z 7 rfl rfl rfl rfl rfl ?_; clear Z; intro W Z
          (try simp only [Act.put, List.setIfInBounds_toArray, List.set_cons_zero, List.set_cons_succ])
          exact K _ Z
        · show wpList _ _ _ [_, _, _, _, _, _] _ _
          refine seq_is (v := .agg #[.bool (decide (((gcdI ((((z1)).natAbs : Nat)) ((((z2)).natAbs : Nat))) - (((-(x) : Int).fmod (((((z2)).natAbs : Nat) : Int).fdiv (gcdI ((((z1)).natAbs : Nat)) ((((z2)).natAbs : Nat))))) * (z1)) : Int).fdiv (z2) < 0)), x103.v]) rfl (run_load2 rfl rfl (Z.bx 2 rfl)) ?_
          (try simp only [Act.put, List.setIfInBounds_toArray, List.set_cons_zero, List.set_cons_succ])
          refine seq_is (v := .agg #[.bool (decide ((-(x) : Int).fmod (((((z2)).natAbs : Nat) : Int).fdiv (gcdI ((((z1)).natAbs : Nat)) ((((z2)).natAbs : Nat)))) < 0)), x74.2.v]) rfl (run_load2 rfl rfl (Z.bx 3 rfl)) ?_
          (try simp only [Act.put, List.setIfInBounds_toArray, List.set_cons_zero, List.set_cons_succ])
          refine seq_is (v := .agg #[.bool (decide (gcdI ((((z1)).natAbs : Nat)) ((((z2)).natAbs : Nat)) < 0)), x7.v]) rfl (run_load2 rfl rfl (Z.bx 6 rfl)) ?_
          (try simp only [Act.put, List.setIfInBounds_toArray, List.set_cons_zero, List.set_cons_succ])
          refine seq_store Z 9 rfl rfl rfl rfl rfl ?_; clear Z; intro W Z
          (try simp only [Act.put, List.setIfInBounds_toArray, List.set_cons_zero, List.set_cons_succ])
          refine seq_store Z 8 rfl rfl rfl rfl rfl ?_; clear Z; intro W Z
          (try simp only [Act.put, List.setIfInBounds_toArray, List.set_cons_zero, List.set_cons_succ])
          refine seq_store Z 7 rfl rfl rfl rfl rfl ?_; clear Z; intro W Z
          (try simp only [Act.put, List.setIfInBounds_toArray, List.set_cons_zero, List.set_cons_succ])
          exact K _ Z
      · show Code.wp _ _ _ _ _
        refine wp_ret ?_
        exact Z.endsIII (d := 0) (u' := undef) 9 22 8 9 7 1 rfl rfl rfl rfl rfl rfl rfl rfl rfl rfl rfl (by exact hF.1) (by exact hF.2.1) (by exact hF.2.2)
    · intro hc49
      refine wp_skip ?_
      show Code.wp _ _ _ _ _
      refine wp_seq ?_
      have hX : (x : Int) = if r < 0 then -x else x := by rw [if_neg (sign_nn hc49)]
      have hG : (gcdI ((z1.natAbs : Nat)) ((z2.natAbs : Nat)) : Int) = ((r.natAbs : Nat) : Int) := (gcdI_abs z1 z2).trans hO2.symm
      have hG1 := hG.trans hO2
      have hF := bez_fin h0 hI hS hG hX
      refine wp_dag2 (pre := [_, _, _, _, _, _, _, _, _]) (sps := [.is (.agg #[.bool (b2), .slice A2 n2 c2]), spI w ((((z2)).natAbs : Nat)), .is (.agg #[.bool (decide (gcdI ((((z1)).natAbs : Nat)) ((((z2)).natAbs : Nat)) < 0)), x7.v]), spII w (((((z2)).natAbs : Nat) : Int).fdiv (gcdI ((((z1)).natAbs : Nat)) ((((z2)).natAbs : Nat)))) (((((z2)).natAbs : Nat) : Int).fmod (gcdI ((((z1)).natAbs : Nat)) ((((z2)).natAbs : Nat)))), spII w (((((z2)).natAbs : Nat) : Int).fdiv (gcdI ((((z1)).natAbs : Nat)) ((((z2)).natAbs : Nat)))) (((((z2)).natAbs : Nat) : Int).fmod (gcdI ((((z1)).natAbs : Nat)) ((((z2)).natAbs : Nat)))), spI w (((((z2)).natAbs : Nat) : Int).fdiv (gcdI ((((z1)).natAbs : Nat)) ((((z2)).natAbs : Nat)))), spI w (((((z2)).natAbs : Nat) : Int).fmod (gcdI ((((z1)).natAbs : Nat)) ((((z2)).natAbs : Nat)))), .box 25 #[.bool false, .slice none 0 0], .box 25 #[.bool false, .slice none 0 0]]) Z (by kernel_rfl) _ rfl (by kernel_rfl) (by kernel_rfl) (by kernel_rfl) rfl (fun _ _ d _ _ h => by cases d <;> exact h) ⟨?_, ?_, ?_, ?_, ?_, ?_, ?_, ?_, ?_, trivial⟩ ?_
      · intro a e107 W Q Z; exact step_is (fun _ h => op_plain rfl rfl h) (run_load2 rfl (ev e107) (Z.bx 8 rfl))
      · intro a x109 e110 W Q Z; exact step_call (fun _ h => op_plain rfl rfl h) rfl Try.func28 rfl rfl (args1 (ev e110)) (Z.callI (trammelref02_Abs.sem (Z.num 6 rfl)  ))
      · intro a e112 W Q Z; exact step_is (fun _ h => op_plain rfl rfl h) (run_load2 rfl (ev e112) (Z.bx 4 rfl))
      · intro a x114 e115 x116 e117 W Q Z; exact step_call (fun _ h => op_plain rfl rfl h) rfl Try.func55 rfl rfl (args2 (ev e115) (ev e117)) (Z.callII (trammelref02_Floor.sem (Z.own 0 rfl (Bd.fm (Bd.abs (Bd.abs hb2)) (by decide))) (Z.own 5 rfl (Bd.fm (Bd.abs (Bd.gcd (Bd.abs hb1) (Bd.abs hb2))) (by decide)))  (Bd.mono (Bd.abs hb2) (by decide)) (Bd.mono (Bd.gcd (Bd.abs hb1) (Bd.abs hb2)) (by decide)) (show _ ≠ (0 : Int) by rw [hG1]; omega)))
      · intro a x119 e120 W Q Z; exact step_val x119 (fun _ h => op_plain rfl rfl h) (run_move rfl (ev e120)) (has_two (Z.has 0 rfl) (Z.has 1 rfl))
      · intro a x122 e123 W Q Z; exact step_val x122.1 (fun _ h => op_plain rfl rfl h) (run_extract rfl (ev e123) rfl) (has_one (Z.has 0 rfl))
      · intro a x125 e126 W Q Z; exact step_val x125.2 (fun _ h => op_plain rfl rfl h) (run_extract rfl (ev e126) rfl) (has_one (Z.has 1 rfl))
      · intro a W Q Z; exact step_box (fun _ h => op_plain rfl rfl h) (by decide) (run_alloc2 rfl)
      · intro a W Q Z; exact step_box (fun _ h => op_plain rfl rfl h) (by decide) (run_alloc2 rfl)
      clear Z; intro x108 x111 x113 x118 x121 x124 x127 g128 g129 W Z
      (try simp only [Act.put, List.setIfInBounds_toArray, List.set_cons_zero, List.set_cons_succ])
      refine seq_store Z 1 rfl rfl rfl rfl rfl ?_; clear Z; intro W Z
      (try simp only [Act.put, List.setIfInBounds_toArray, List.set_cons_zero, List.set_cons_succ])
      refine seq_store Z 0 rfl rfl rfl rfl rfl ?_; clear Z; intro W Z
      (try simp only [Act.put, List.setIfInBounds_toArray, List.set_cons_zero, List.set_cons_succ])
      show Code.wp _ _ _ _ _
      refine wp_seq ?_
      refine wp_region_list ?_
      refine seq_is (v := .agg #[.bool (decide (x < 0)), px.v]) rfl (run_load2 rfl rfl (Z.bx 3 rfl)) ?_
      (try simp only [Act.put, List.setIfInBounds_toArray, List.set_cons_zero, List.set_cons_succ])
      refine seq_is (v := .agg #[.bool (decide (((((z2)).natAbs : Nat) : Int).fdiv (gcdI ((((z1)).natAbs : Nat)) ((((z2)).natAbs : Nat))) < 0)), x124.v]) rfl (run_load2 rfl rfl (Z.bx 1 rfl)) ?_
      (try simp only [Act.put, List.setIfInBounds_toArray, List.set_cons_zero, List.set_cons_succ])
      refine seq_call Z rfl rfl Try.func55 rfl rfl (args2 rfl rfl) (Z.callII (trammelref02_Floor.sem (Z.own 9 rfl (Bd.fm (Bd.abs hbx) (by decide))) (Z.own 1 rfl (Bd.fm (Bd.abs (fdiv_bd (Bd.abs hb2))) (by decide)))  (Bd.mono hbx (by decide)) (Bd.mono (fdiv_bd (Bd.abs hb2)) (by decide)) (show _ ≠ (0 : Int) by rw [hG1]; omega))) ?_; clear Z; intro x130 W Z
      (try simp only [Act.put, List.setIfInBounds_toArray, List.set_cons_zero, List.set_cons_succ])
      refine seq_is (v := .tuple #[.agg #[.bool (decide ((x : Int).fdiv (((((z2)).natAbs : Nat) : Int).fdiv (gcdI ((((z1)).natAbs : Nat)) ((((z2)).natAbs : Nat)))) < 0)), x130.1.v], .agg #[.bool (decide ((x : Int).fmod (((((z2)).natAbs : Nat) : Int).fdiv (gcdI ((((z1)).natAbs : Nat)) ((((z2)).natAbs : Nat)))) < 0)), x130.2.v]]) rfl (run_move rfl rfl) ?_
      (try simp only [Act.put, List.setIfInBounds_toArray, List.set_cons_zero, List.set_cons_succ])
      refine seq_is (v := .agg #[.bool (decide ((x : Int).fdiv (((((z2)).natAbs : Nat) : Int).fdiv (gcdI ((((z1)).natAbs : Nat)) ((((z2)).natAbs : Nat)))) < 0)), x130.1.v]) rfl (run_extract rfl rfl rfl) ?_
      (try simp only [Act.put, List.setIfInBounds_toArray, List.set_cons_zero, List.set_cons_succ])
      refine seq_is (v := .agg #[.bool (decide ((x : Int).fmod (((((z2)).natAbs : Nat) : Int).fdiv (gcdI ((((z1)).natAbs : Nat)) ((((z2)).natAbs : Nat)))) < 0)), x130.2.v]) rfl (run_extract rfl rfl rfl) ?_
      (try simp only [Act.put, List.setIfInBounds_toArray, List.set_cons_zero, List.set_cons_succ])
      refine seq_store Z 3 rfl rfl rfl rfl rfl ?_; clear Z; intro W Z
      (try simp only [Act.put, List.setIfInBounds_toArray, List.set_cons_zero, List.set_cons_succ])
      show Code.wp _ _ _ _ _
      refine wp_seq ?_
      refine wp_dag2 (pre := [_, _, _, _, _, _, _, _, _, _]) (sps := [.is (.agg #[.bool (decide (gcdI ((((z1)).natAbs : Nat)) ((((z2)).natAbs : Nat)) < 0)), x7.v]), .is (.agg #[.bool (decide ((x : Int).fmod (((((z2)).natAbs : Nat) : Int).fdiv (gcdI ((((z1)).natAbs : Nat)) ((((z2)).natAbs : Nat)))) < 0)), x130.2.v]), .is (.agg #[.bool (b1), .slice A1 n1 c1]), spI w (((x : Int).fmod (((((z2)).natAbs : Nat) : Int).fdiv (gcdI ((((z1)).natAbs : Nat)) ((((z2)).natAbs : Nat))))) * (z1)), spI w ((gcdI ((((z1)).natAbs : Nat)) ((((z2)).natAbs : Nat))) - (((x : Int).fmod (((((z2)).natAbs : Nat) : Int).fdiv (gcdI ((((z1)).natAbs : Nat)) ((((z2)).natAbs : Nat))))) * (z1))), .is (.agg #[.bool (b2), .slice A2 n2 c2]), spII w (((gcdI ((((z1)).natAbs : Nat)) ((((z2)).natAbs : Nat))) - (((x : Int).fmod (((((z2)).natAbs : Nat) : Int).fdiv (gcdI ((((z1)).natAbs : Nat)) ((((z2)).natAbs : Nat))))) * (z1)) : Int).fdiv (z2)) (((gcdI ((((z1)).natAbs : Nat)) ((((z2)).natAbs : Nat))) - (((x : Int).fmod (((((z2)).natAbs : Nat) : Int).fdiv (gcdI ((((z1)).natAbs : Nat)) ((((z2)).natAbs : Nat))))) * (z1)) : Int).fmod (z2)), spII w (((gcdI ((((z1)).natAbs : Nat)) ((((z2)).natAbs : Nat))) - (((x : Int).fmod (((((z2)).natAbs : Nat) : Int).fdiv (gcdI ((((z1)).natAbs : Nat)) ((((z2)).natAbs : Nat))))) * (z1)) : Int).fdiv (z2)) (((gcdI ((((z1)).natAbs : Nat)) ((((z2)).natAbs : Nat))) - (((x : Int).fmod (((((z2)).natAbs : Nat) : Int).fdiv (gcdI ((((z1)).natAbs : Nat)) ((((z2)).natAbs : Nat))))) * (z1)) : Int).fmod (z2)), spI w (((gcdI ((((z1)).natAbs : Nat)) ((((z2)).natAbs : Nat))) - (((x : Int).fmod (((((z2)).natAbs : Nat) : Int).fdiv (gcdI ((((z1)).natAbs : Nat)) ((((z2)).natAbs : Nat))))) * (z1)) : Int).fdiv (z2)), spI w (((gcdI ((((z1)).natAbs : Nat)) ((((z2)).natAbs : Nat))) - (((x : Int).fmod (((((z2)).natAbs : Nat) : Int).fdiv (gcdI ((((z1)).natAbs : Nat)) ((((z2)).natAbs : Nat))))) * (z1)) : Int).fmod (z2))]) Z (by kernel_rfl) _ rfl (by kernel_rfl) (by kernel_rfl) (by kernel_rfl) rfl (fun _ _ d _ _ h => by cases d <;> exact h) ⟨?_, ?_, ?_, ?_, ?_, ?_, ?_, ?_, ?_, ?_, trivial⟩ ?_
      · intro a e131 W Q Z; exact step_is (fun _ h => op_plain rfl rfl h) (run_load2 rfl (ev e131) (Z.bx 6 rfl))
      · intro a e133 W Q Z; exact step_is (fun _ h => op_plain rfl rfl h) (run_load2 rfl (ev e133) (Z.bx 3 rfl))
      · intro a e135 W Q Z; exact step_is (fun _ h => op_plain rfl rfl h) (run_load2 rfl (ev e135) (Z.bx 11 rfl))
      · intro a x137 e138 x139 e140 W Q Z; exact step_call (fun _ h => op_plain rfl rfl h) rfl Try.func24 rfl rfl (args2 (ev e138) (ev e140)) (Z.callI (trammelref02_Mul.sem (Z.own 1 rfl (Bd.fm (Bd.abs (fmod_bd (k := 0) (show _ ≠ (0 : Int) by rw [hG1]; omega) (fdiv_bd (Bd.abs hb2)))) (by decide))) (Z.num 14 rfl) (Bd.fm (Bd.mul (Bd.abs (fmod_bd (k := 0) (show _ ≠ (0 : Int) by rw [hG1]; omega) (fdiv_bd (Bd.abs hb2)))) (Bd.abs hb1)) (by decide)) ))
      · intro a x142 e143 x144 e145 W Q Z; exact step_call (fun _ h => op_plain rfl rfl h) rfl Try.func22 rfl rfl (args2 (ev e143) (ev e145)) (Z.callI (trammelref02_Sub.sem (Z.own 14 rfl (Bd.fm (Bd.abs (Bd.gcd (Bd.abs hb1) (Bd.abs hb2))) (by decide))) (Z.own 0 rfl (Bd.fm (Bd.abs (Bd.mul (fmod_bd (k := 0) (show _ ≠ (0 : Int) by rw [hG1]; omega) (fdiv_bd (Bd.abs hb2))) hb1)) (by decide))) (Bd.fm (Bd.abs (Bd.neg (Bd.mul (fmod_bd (k := 0) (show _ ≠ (0 : Int) by rw [hG1]; omega) (fdiv_bd (Bd.abs hb2))) hb1))) (by decide)) (Bd.fm (Bd.add (Bd.abs (Bd.gcd (Bd.abs hb1) (Bd.abs hb2))) (Bd.abs (Bd.neg (Bd.mul (fmod_bd (k := 0) (show _ ≠ (0 : Int) by rw [hG1]; omega) (fdiv_bd (Bd.abs hb2))) hb1)))) (by decide)) (Bd.fm (Bd.sub (Bd.abs (Bd.gcd (Bd.abs hb1) (Bd.abs hb2))) (Bd.abs (Bd.neg (Bd.mul (fmod_bd (k := 0) (show _ ≠ (0 : Int) by rw [hG1]; omega) (fdiv_bd (Bd.abs hb2))) hb1)))) (by decide)) (Bd.fm (Bd.sub (Bd.abs (Bd.neg (Bd.mul (fmod_bd (k := 0) (show _ ≠ (0 : Int) by rw [hG1]; omega) (fdiv_bd (Bd.abs hb2))) hb1))) (Bd.abs (Bd.gcd (Bd.abs hb1) (Bd.abs hb2)))) (by decide)) ))
      · intro a e147 W Q Z; exact step_is (fun _ h => op_plain rfl rfl h) (run_load2 rfl (ev e147) (Z.bx 10 rfl))
      · intro a x149 e150 x151 e152 W Q Z; exact step_call (fun _ h => op_plain rfl rfl h) rfl Try.func55 rfl rfl (args2 (ev e150) (ev e152)) (Z.callII (trammelref02_Floor.sem (Z.own 0 rfl (Bd.fm (Bd.abs (Bd.sub (Bd.gcd (Bd.abs hb1) (Bd.abs hb2)) (Bd.mul (fmod_bd (k := 0) (show _ ≠ (0 : Int) by rw [hG1]; omega) (fdiv_bd (Bd.abs hb2))) hb1))) (by decide))) (Z.num 16 rfl)  (Bd.mono (Bd.sub (Bd.gcd (Bd.abs hb1) (Bd.abs hb2)) (Bd.mul (fmod_bd (k := 0) (show _ ≠ (0 : Int) by rw [hG1]; omega) (fdiv_bd (Bd.abs hb2))) hb1)) (by decide)) (Bd.mono hb2 (by decide)) h0))
      · intro a x154 e155 W Q Z; exact step_val x154 (fun _ h => op_plain rfl rfl h) (run_move rfl (ev e155)) (has_two (Z.has 0 rfl) (Z.has 1 rfl))
      · intro a x157 e158 W Q Z; exact step_val x157.1 (fun _ h => op_plain rfl rfl h) (run_extract rfl (ev e158) rfl) (has_one (Z.has 0 rfl))
      · intro a x160 e161 W Q Z; exact step_val x160.2 (fun _ h => op_plain rfl rfl h) (run_extract rfl (ev e161) rfl) (has_one (Z.has 1 rfl))
      clear Z; intro x132 x134 x136 x141 x146 x148 x153 x156 x159 x162 W Z
      (try simp only [Act.put, List.setIfInBounds_toArray, List.set_cons_zero, List.set_cons_succ])
      refine seq_store Z 2 rfl rfl rfl rfl rfl ?_; clear Z; intro W Z
      (try simp only [Act.put, List.setIfInBounds_toArray, List.set_cons_zero, List.set_cons_succ])
      show Code.wp _ _ _ _ _
      refine wp_seq ?_
      refine wp_orders_k (act' := { tmps := #[.agg #[.bool (b1), .slice A1 n1 c1], .agg #[.bool (b2), .slice A2 n2 c2], .pointer (some ⟨g1, 0, none⟩), .pointer (some ⟨g2, 0, none⟩), .pointer (some ⟨g3, 0, none⟩), .pointer (some ⟨g4, 0, none⟩), .pointer (some ⟨g5, 0, none⟩), .pointer (some ⟨g8, 0, none⟩), .pointer (some ⟨g19, 0, none⟩), .pointer (some ⟨g20, 0, none⟩), .pointer (some ⟨g23, 0, none⟩), .pointer (some ⟨g24, 0, none⟩), j12_6, j13_6, .pointer (some ⟨g128, 0, none⟩), .pointer (some ⟨g129, 0, none⟩), .agg #[.bool (b2), .slice A2 n2 c2], .int .i64 ((z2).sign), .bool (decide (((z2).sign) = (0))), undef, undef, undef, undef, undef, undef, .agg #[.bool (b1), .slice A1 n1 c1], .agg #[.bool (b2), .slice A2 n2 c2], .agg #[.bool (decide (gcdI ((((z1)).natAbs : Nat)) ((((z2)).natAbs : Nat)) < 0)), x7.v], .agg #[.bool (b1), .slice A1 n1 c1], .agg #[.bool (decide ((z1) < 0)), x13.v], .agg #[.bool (b2), .slice A2 n2 c2], .agg #[.bool (decide ((z2) < 0)), x18.v], .agg #[.bool (decide ((1 : Int) < 0)), x21.v], .agg #[.bool (decide ((0 : Int) < 0)), x22.v], .agg #[.bool (decide (s < 0)), ps.v], .int .i64 ((s).sign), .bool (decide (((s).sign) ≠ (0))), j37_6, j38_6, j39_6, j40_6, j41_6, j42_6, j43_6, j44_6, j45_6, j46_6, j47_6, j48_6, j49_6, j50_6, .agg #[.bool (decide (r < 0)), pr.v], .int .i64 ((r).sign), .bool (decide (((r).sign) < (0))), undef, undef, .tuple #[.agg #[.bool (decide (((((z2)).natAbs : Nat) : Int).fdiv (gcdI ((((z1)).natAbs : Nat)) ((((z2)).natAbs : Nat))) < 0)), x121.1.v], .agg #[.bool (decide (((((z2)).natAbs : Nat) : Int).fmod (gcdI ((((z1)).natAbs : Nat)) ((((z2)).natAbs : Nat))) < 0)), x121.2.v]], .agg #[.bool (b2), .slice A2 n2 c2], .agg #[.bool (decide ((((z2)).natAbs : Nat) < 0)), x111.v], .agg #[.bool (decide (gcdI ((((z1)).natAbs : Nat)) ((((z2)).natAbs : Nat)) < 0)), x7.v], .tuple #[.agg #[.bool (decide (((((z2)).natAbs : Nat) : Int).fdiv (gcdI ((((z1)).natAbs : Nat)) ((((z2)).natAbs : Nat))) < 0)), x118.1.v], .agg #[.bool (decide (((((z2)).natAbs : Nat) : Int).fmod (gcdI ((((z1)).natAbs : Nat)) ((((z2)).natAbs : Nat))) < 0)), x118.2.v]], .agg #[.bool (decide (((((z2)).natAbs : Nat) : Int).fdiv (gcdI ((((z1)).natAbs : Nat)) ((((z2)).natAbs : Nat))) < 0)), x124.v], .agg #[.bool (decide (((((z2)).natAbs : Nat) : Int).fmod (gcdI ((((z1)).natAbs : Nat)) ((((z2)).natAbs : Nat))) < 0)), x127.v], .tuple #[.agg #[.bool (decide ((x : Int).fdiv (((((z2)).natAbs : Nat) : Int).fdiv (gcdI ((((z1)).natAbs : Nat)) ((((z2)).natAbs : Nat)))) < 0)), x130.1.v], .agg #[.bool (decide ((x : Int).fmod (((((z2)).natAbs : Nat) : Int).fdiv (gcdI ((((z1)).natAbs : Nat)) ((((z2)).natAbs : Nat)))) < 0)), x130.2.v]], .agg #[.bool (decide (x < 0)), px.v], .agg #[.bool (decide (((((z2)).natAbs : Nat) : Int).fdiv (gcdI ((((z1)).natAbs : Nat)) ((((z2)).natAbs : Nat))) < 0)), x124.v], .tuple #[.agg #[.bool (decide ((x : Int).fdiv (((((z2)).natAbs : Nat) : Int).fdiv (gcdI ((((z1)).natAbs : Nat)) ((((z2)).natAbs : Nat)))) < 0)), x130.1.v], .agg #[.bool (decide ((x : Int).fmod (((((z2)).natAbs : Nat) : Int).fdiv (gcdI ((((z1)).natAbs : Nat)) ((((z2)).natAbs : Nat)))) < 0)), x130.2.v]], .agg #[.bool (decide ((x : Int).fdiv (((((z2)).natAbs : Nat) : Int).fdiv (gcdI ((((z1)).natAbs : Nat)) ((((z2)).natAbs : Nat)))) < 0)), x130.1.v], .agg #[.bool (decide ((x : Int).fmod (((((z2)).natAbs : Nat) : Int).fdiv (gcdI ((((z1)).natAbs : Nat)) ((((z2)).natAbs : Nat)))) < 0)), x130.2.v], .tuple #[.agg #[.bool (decide (((gcdI ((((z1)).natAbs : Nat)) ((((z2)).natAbs : Nat))) - (((x : Int).fmod (((((z2)).natAbs : Nat) : Int).fdiv (gcdI ((((z1)).natAbs : Nat)) ((((z2)).natAbs : Nat))))) * (z1)) : Int).fdiv (z2) < 0)), x156.1.v], .agg #[.bool (decide (((gcdI ((((z1)).natAbs : Nat)) ((((z2)).natAbs : Nat))) - (((x : Int).fmod (((((z2)).natAbs : Nat) : Int).fdiv (gcdI ((((z1)).natAbs : Nat)) ((((z2)).natAbs : Nat))))) * (z1)) : Int).fmod (z2) < 0)), x156.2.v]], .agg #[.bool (decide (gcdI ((((z1)).natAbs : Nat)) ((((z2)).natAbs : Nat)) < 0)), x7.v], .agg #[.bool (decide ((x : Int).fmod (((((z2)).natAbs : Nat) : Int).fdiv (gcdI ((((z1)).natAbs : Nat)) ((((z2)).natAbs : Nat)))) < 0)), x130.2.v], .agg #[.bool (b1), .slice A1 n1 c1], .agg #[.bool (decide (((x : Int).fmod (((((z2)).natAbs : Nat) : Int).fdiv (gcdI ((((z1)).natAbs : Nat)) ((((z2)).natAbs : Nat))))) * (z1) < 0)), x141.v], .agg #[.bool (decide ((gcdI ((((z1)).natAbs : Nat)) ((((z2)).natAbs : Nat))) - (((x : Int).fmod (((((z2)).natAbs : Nat) : Int).fdiv (gcdI ((((z1)).natAbs : Nat)) ((((z2)).natAbs : Nat))))) * (z1)) < 0)), x146.v], .agg #[.bool (b2), .slice A2 n2 c2], .tuple #[.agg #[.bool (decide (((gcdI ((((z1)).natAbs : Nat)) ((((z2)).natAbs : Nat))) - (((x : Int).fmod (((((z2)).natAbs : Nat) : Int).fdiv (gcdI ((((z1)).natAbs : Nat)) ((((z2)).natAbs : Nat))))) * (z1)) : Int).fdiv (z2) < 0)), x153.1.v], .agg #[.bool (decide (((gcdI ((((z1)).natAbs : Nat)) ((((z2)).natAbs : Nat))) - (((x : Int).fmod (((((z2)).natAbs : Nat) : Int).fdiv (gcdI ((((z1)).natAbs : Nat)) ((((z2)).natAbs : Nat))))) * (z1)) : Int).fmod (z2) < 0)), x153.2.v]], .agg #[.bool (decide (((gcdI ((((z1)).natAbs : Nat)) ((((z2)).natAbs : Nat))) - (((x : Int).fmod (((((z2)).natAbs : Nat) : Int).fdiv (gcdI ((((z1)).natAbs : Nat)) ((((z2)).natAbs : Nat))))) * (z1)) : Int).fdiv (z2) < 0)), x159.v], .agg #[.bool (decide (((gcdI ((((z1)).natAbs : Nat)) ((((z2)).natAbs : Nat))) - (((x : Int).fmod (((((z2)).natAbs : Nat) : Int).fdiv (gcdI ((((z1)).natAbs : Nat)) ((((z2)).natAbs : Nat))))) * (z1)) : Int).fmod (z2) < 0)), x162.v], .agg #[.bool (decide (gcdI ((((z1)).natAbs : Nat)) ((((z2)).natAbs : Nat)) < 0)), x7.v], .agg #[.bool (decide ((x : Int).fmod (((((z2)).natAbs : Nat) : Int).fdiv (gcdI ((((z1)).natAbs : Nat)) ((((z2)).natAbs : Nat)))) < 0)), x130.2.v], .agg #[.bool (decide (((gcdI ((((z1)).natAbs : Nat)) ((((z2)).natAbs : Nat))) - (((x : Int).fmod (((((z2)).natAbs : Nat) : Int).fdiv (gcdI ((((z1)).natAbs : Nat)) ((((z2)).natAbs : Nat))))) * (z1)) : Int).fdiv (z2) < 0)), x159.v]], defers := [] }) (ts' := [(x162.v, tyO w (mg (((gcdI ((((z1)).natAbs : Nat)) ((((z2)).natAbs : Nat))) - (((x : Int).fmod (((((z2)).natAbs : Nat) : Int).fdiv (gcdI ((((z1)).natAbs : Nat)) ((((z2)).natAbs : Nat))))) * (z1)) : Int).fmod (z2)))), (x159.v, tyO w (mg (((gcdI ((((z1)).natAbs : Nat)) ((((z2)).natAbs : Nat))) - (((x : Int).fmod (((((z2)).natAbs : Nat) : Int).fdiv (gcdI ((((z1)).natAbs : Nat)) ((((z2)).natAbs : Nat))))) * (z1)) : Int).fdiv (z2)))), (x156.1.v, tyO w (mg (((gcdI ((((z1)).natAbs : Nat)) ((((z2)).natAbs : Nat))) - (((x : Int).fmod (((((z2)).natAbs : Nat) : Int).fdiv (gcdI ((((z1)).natAbs : Nat)) ((((z2)).natAbs : Nat))))) * (z1)) : Int).fdiv (z2)))), (x156.2.v, tyO w (mg (((gcdI ((((z1)).natAbs : Nat)) ((((z2)).natAbs : Nat))) - (((x : Int).fmod (((((z2)).natAbs : Nat) : Int).fdiv (gcdI ((((z1)).natAbs : Nat)) ((((z2)).natAbs : Nat))))) * (z1)) : Int).fmod (z2)))), (x153.1.v, tyO w (mg (((gcdI ((((z1)).natAbs : Nat)) ((((z2)).natAbs : Nat))) - (((x : Int).fmod (((((z2)).natAbs : Nat) : Int).fdiv (gcdI ((((z1)).natAbs : Nat)) ((((z2)).natAbs : Nat))))) * (z1)) : Int).fdiv (z2)))), (x153.2.v, tyO w (mg (((gcdI ((((z1)).natAbs : Nat)) ((((z2)).natAbs : Nat))) - (((x : Int).fmod (((((z2)).natAbs : Nat) : Int).fdiv (gcdI ((((z1)).natAbs : Nat)) ((((z2)).natAbs : Nat))))) * (z1)) : Int).fmod (z2)))), (x146.v, tyO w (mg ((gcdI ((((z1)).natAbs : Nat)) ((((z2)).natAbs : Nat))) - (((x : Int).fmod (((((z2)).natAbs : Nat) : Int).fdiv (gcdI ((((z1)).natAbs : Nat)) ((((z2)).natAbs : Nat))))) * (z1))))), (x141.v, tyO w (mg (((x : Int).fmod (((((z2)).natAbs : Nat) : Int).fdiv (gcdI ((((z1)).natAbs : Nat)) ((((z2)).natAbs : Nat))))) * (z1)))), (x130.1.v, tyO w (mg ((x : Int).fdiv (((((z2)).natAbs : Nat) : Int).fdiv (gcdI ((((z1)).natAbs : Nat)) ((((z2)).natAbs : Nat))))))), (x130.2.v, tyO w (mg ((x : Int).fmod (((((z2)).natAbs : Nat) : Int).fdiv (gcdI ((((z1)).natAbs : Nat)) ((((z2)).natAbs : Nat))))))), (x127.v, tyO w (mg (((((z2)).natAbs : Nat) : Int).fmod (gcdI ((((z1)).natAbs : Nat)) ((((z2)).natAbs : Nat)))))), (x124.v, tyO w (mg (((((z2)).natAbs : Nat) : Int).fdiv (gcdI ((((z1)).natAbs : Nat)) ((((z2)).natAbs : Nat)))))), (x121.1.v, tyO w (mg (((((z2)).natAbs : Nat) : Int).fdiv (gcdI ((((z1)).natAbs : Nat)) ((((z2)).natAbs : Nat)))))), (x121.2.v, tyO w (mg (((((z2)).natAbs : Nat) : Int).fmod (gcdI ((((z1)).natAbs : Nat)) ((((z2)).natAbs : Nat)))))), (x118.1.v, tyO w (mg (((((z2)).natAbs : Nat) : Int).fdiv (gcdI ((((z1)).natAbs : Nat)) ((((z2)).natAbs : Nat)))))), (x118.2.v, tyO w (mg (((((z2)).natAbs : Nat) : Int).fmod (gcdI ((((z1)).natAbs : Nat)) ((((z2)).natAbs : Nat)))))), (x111.v, tyO w (mg ((((z2)).natAbs : Nat)))), (pr.v, tyO w (mg r)), (ps.v, tyO w (mg s)), (px.v, tyO w (mg x)), (pu.v, tyO w (mg u)), (x7.v, tyO w (mg (gcdI ((((z1)).natAbs : Nat)) ((((z2)).natAbs : Nat))))), (.slice A1 n1 c1, tyN b1 z1), (.slice A2 n2 c2, tyN b2 z2)]) (bs' := [(g129, 25, #[.bool (decide (((((z2)).natAbs : Nat) : Int).fmod (gcdI ((((z1)).natAbs : Nat)) ((((z2)).natAbs : Nat))) < 0)), x127.v]), (g128, 25, #[.bool (decide (((((z2)).natAbs : Nat) : Int).fdiv (gcdI ((((z1)).natAbs : Nat)) ((((z2)).natAbs : Nat))) < 0)), x124.v]), (g24, 25, #[.bool (decide (((gcdI ((((z1)).natAbs : Nat)) ((((z2)).natAbs : Nat))) - (((x : Int).fmod (((((z2)).natAbs : Nat) : Int).fdiv (gcdI ((((z1)).natAbs : Nat)) ((((z2)).natAbs : Nat))))) * (z1)) : Int).fdiv (z2) < 0)), x159.v]), (g23, 25, #[.bool (decide ((x : Int).fmod (((((z2)).natAbs : Nat) : Int).fdiv (gcdI ((((z1)).natAbs : Nat)) ((((z2)).natAbs : Nat)))) < 0)), x130.2.v]), (g20, 25, #[.bool (decide (s < 0)), ps.v]), (g19, 25, #[.bool (decide (r < 0)), pr.v]), (g8, 25, #[.bool (decide (gcdI ((((z1)).natAbs : Nat)) ((((z2)).natAbs : Nat)) < 0)), x7.v]), (g5, 25, #[.bool (decide (((gcdI ((((z1)).natAbs : Nat)) ((((z2)).natAbs : Nat))) - (((x : Int).fmod (((((z2)).natAbs : Nat) : Int).fdiv (gcdI ((((z1)).natAbs : Nat)) ((((z2)).natAbs : Nat))))) * (z1)) : Int).fdiv (z2) < 0)), x159.v]), (g4, 25, #[.bool (decide ((x : Int).fmod (((((z2)).natAbs : Nat) : Int).fdiv (gcdI ((((z1)).natAbs : Nat)) ((((z2)).natAbs : Nat)))) < 0)), x130.2.v]), (g3, 25, #[.bool (decide (gcdI ((((z1)).natAbs : Nat)) ((((z2)).natAbs : Nat)) < 0)), x7.v]), (g2, 25, #[.bool (b2), .slice A2 n2 c2]), (g1, 25, #[.bool (b1), .slice A1 n1 c1])]) Z (by kernel_rfl) [[0, 1, 2, 3, 4, 5], [0, 1, 3, 2, 4, 5], [0, 1, 3, 4, 2, 5], [0, 2, 1, 3, 4, 5], [0, 2, 3, 1, 4, 5], [0, 3, 1, 2, 4, 5], [0, 3, 1, 4, 2, 5], [0, 3, 2, 1, 4, 5], [1, 0, 2, 3, 4, 5], [1, 0, 3, 2, 4, 5], [1, 0, 3, 4, 2, 5], [1, 2, 0, 3, 4, 5], [2, 0, 1, 3, 4, 5], [2, 0, 3, 1, 4, 5], [2, 1, 0, 3, 4, 5]] (by kernel_rfl) (fun K W Z o ho => ?_) (fun W Z => ?_)
      · simp only [List.mem_cons, List.not_mem_nil, or_false] at ho; rcases ho with rfl | rfl | rfl | rfl | rfl | rfl | rfl | rfl | rfl | rfl | rfl | rfl | rfl | rfl | rfl
        · show wpList _ _ _ [_, _, _, _, _, _] _ _
          refine seq_is (v := .agg #[.bool (decide (gcdI ((((z1)).natAbs : Nat)) ((((z2)).natAbs : Nat)) < 0)), x7.v]) rfl (run_load2 rfl rfl (Z.bx 6 rfl)) ?_
          (try simp only [Act.put, List.setIfInBounds_toArray, List.set_cons_zero, List.set_cons_succ])
          refine seq_is (v := .agg #[.bool (decide ((x : Int).fmod (((((z2)).natAbs : Nat) : Int).fdiv (gcdI ((((z1)).natAbs : Nat)) ((((z2)).natAbs : Nat)))) < 0)), x130.2.v]) rfl (run_load2 rfl rfl (Z.bx 3 rfl)) ?_
          (try simp only [Act.put, List.setIfInBounds_toArray, List.set_cons_zero, List.set_cons_succ])
          refine seq_is (v := .agg #[.bool (decide (((gcdI ((((z1)).natAbs : Nat)) ((((z2)).natAbs : Nat))) - (((x : Int).fmod (((((z2)).natAbs : Nat) : Int).fdiv (gcdI ((((z1)).natAbs : Nat)) ((((z2)).natAbs : Nat))))) * (z1)) : Int).fdiv (z2) < 0)), x159.v]) rfl (run_load2 rfl rfl (Z.bx 2 rfl)) ?_
          (try simp only [Act.put, List.setIfInBounds_toArray, List.set_cons_zero, List.set_cons_succ])
          refine seq_store Z 9 rfl rfl rfl rfl rfl ?_; clear Z; intro W Z
          (try simp only [Act.put, List.setIfInBounds_toArray, List.set_cons_zero, List.set_cons_succ])
          refine seq_store Z 8 rfl rfl rfl rfl rfl ?_; clear Z; intro W Z
          (try simp only [Act.put, List.setIfInBounds_toArray, List.set_cons_zero, List.set_cons_succ])
          refine seq_store Z 7 rfl rfl rfl rfl rfl ?_; clear Z; intro W Z
          (try simp only [Act.put, List.setIfInBounds_toArray, List.set_cons_zero, List.set_cons_succ])
          exact K _ Z
        · show wpList _ _ _ [_, _, _, _, _, _] _ _
          refine seq_is (v := .agg #[.bool (decide (gcdI ((((z1)).natAbs : Nat)) ((((z2)).natAbs : Nat)) < 0)), x7.v]) rfl (run_load2 rfl rfl (Z.bx 6 rfl)) ?_
          (try simp only [Act.put, List.setIfInBounds_toArray, List.set_cons_zero, List.set_cons_succ])
          refine seq_is (v := .agg #[.bool (decide ((x : Int).fmod (((((z2)).natAbs : Nat) : Int).fdiv (gcdI ((((z1)).natAbs : Nat)) ((((z2)).natAbs : Nat)))) < 0)), x130.2.v]) rfl (run_load2 rfl rfl (Z.bx 3 rfl)) ?_
          (try simp only [Act.put, List.setIfInBounds_toArray, List.set_cons_zero, List.set_cons_succ])
          refine seq_store Z 9 rfl rfl rfl rfl rfl ?_; clear Z; intro W Z
          (try simp only [Act.put, List.setIfInBounds_toArray, List.set_cons_zero, List.set_cons_succ])
          refine seq_is (v := .agg #[.bool (decide (((gcdI ((((z1)).natAbs : Nat)) ((((z2)).natAbs : Nat))) - (((x : Int).fmod (((((z2)).natAbs : Nat) : Int).fdiv (gcdI ((((z1)).natAbs : Nat)) ((((z2)).natAbs : Nat))))) * (z1)) : Int).fdiv (z2) < 0)), x159.v]) rfl (run_load2 rfl rfl (Z.bx 2 rfl)) ?_
          (try simp only [Act.put, List.setIfInBounds_toArray, List.set_cons_zero, List.set_cons_succ])
          refine seq_store Z 8 rfl rfl rfl rfl rfl ?_; clear Z; intro W Z
          (try simp only [Act.put, List.setIfInBounds_toArray, List.set_cons_zero, List.set_cons_succ])
          refine seq_store Z 7 rfl rfl rfl rfl rfl ?_; clear Z; intro W Z
          (try simp only [Act.put, List.setIfInBounds_toArray, List.set_cons_zero, List.set_cons_succ])
          exact K _ Z
        · show wpList _ _ _ [_, _, _, _, _, _] _ _
          refine seq_is (v := .agg #[.bool (decide (gcdI ((((z1)).natAbs : Nat)) ((((z2)).natAbs : Nat)) < 0)), x7.v]) rfl (run_load2 rfl rfl (Z.bx 6 rfl)) ?_
          (try simp only [Act.put, List.setIfInBounds_toArray, List.set_cons_zero, List.set_cons_succ])
          refine seq_is (v := .agg #[.bool (decide ((x : Int).fmod (((((z2)).natAbs : Nat) : Int).fdiv (gcdI ((((z1)).natAbs : Nat)) ((((z2)).natAbs : Nat)))) < 0)), x130.2.v]) rfl (run_load2 rfl rfl (Z.bx 3 rfl)) ?_
          (try simp only [Act.put, List.setIfInBounds_toArray, List.set_cons_zero, List.set_cons_succ])
          refine seq_store Z 9 rfl rfl rfl rfl rfl ?_; clear Z; intro W Z
          (try simp only [Act.put, List.setIfInBounds_toArray, List.set_cons_zero, List.set_cons_succ])
          refine seq_store Z 8 rfl rfl rfl rfl rfl ?_; clear Z; intro W Z
          (try simp only [Act.put, List.setIfInBounds_toArray, List.set_cons_zero, List.set_cons_succ])
          refine seq_is (v := .agg #[.bool (decide (((gcdI ((((z1)).natAbs : Nat)) ((((z2)).natAbs : Nat))) - (((x : Int).fmod (((((z2)).natAbs : Nat) : Int).fdiv (gcdI ((((z1)).natAbs : Nat)) ((((z2)).natAbs : Nat))))) * (z1)) : Int).fdiv (z2) < 0)), x159.v]) rfl (run_load2 rfl rfl (Z.bx 2 rfl)) ?_
          (try simp only [Act.put, List.setIfInBounds_toArray, List.set_cons_zero, List.set_cons_succ])
          refine seq_store Z 7 rfl rfl rfl rfl rfl ?_; clear Z; intro W Z
          (try simp only [Act.put, List.setIfInBounds_toArray, List.set_cons_zero, List.set_cons_succ])
          exact K _ Z
        · show wpList _ _ _ [_, _, _, _, _, _] _ _
          refine seq_is (v := .agg #[.bool (decide (gcdI ((((z1)).natAbs : Nat)) ((((z2)).natAbs : Nat)) < 0)), x7.v]) rfl (run_load2 rfl rfl (Z.bx 6 rfl)) ?_
          (try simp only [Act.put, List.setIfInBounds_toArray, List.set_cons_zero, List.set_cons_succ])
          refine seq_is (v := .agg #[.bool (decide (((gcdI ((((z1)).natAbs : Nat)) ((((z2)).natAbs : Nat))) - (((x : Int).fmod (((((z2)).natAbs : Nat) : Int).fdiv (gcdI ((((z1)).natAbs : Nat)) ((((z2)).natAbs : Nat))))) * (z1)) : Int).fdiv (z2) < 0)), x159.v]) rfl (run_load2 rfl rfl (Z.bx 2 rfl)) ?_
          (try simp only [Act.put, List.setIfInBounds_toArray, List.set_cons_zero, List.set_cons_succ])
          refine seq_is (v := .agg #[.bool (decide ((x : Int).fmod (((((z2)).natAbs : Nat) : Int).fdiv (gcdI ((((z1)).natAbs : Nat)) ((((z2)).natAbs : Nat)))) < 0)), x130.2.v]) rfl (run_load2 rfl rfl (Z.bx 3 rfl)) ?_
          (try simp only [Act.put, List.setIfInBounds_toArray, List.set_cons_zero, List.set_cons_succ])
          refine seq_store Z 9 rfl rfl rfl rfl rfl ?_; clear Z; intro W Z
          (try simp only [Act.put, List.setIfInBounds_toArray, List.set_cons_zero, List.set_cons_succ])
          refine seq_store Z 8 rfl rfl rfl rfl rfl ?_; clear Z; intro W Z
          (try simp only [Act.put, List.setIfInBounds_toArray, List.set_cons_zero, List.set_cons_succ])
          refine seq_store Z 7 rfl rfl rfl rfl rfl ?_; clear Z; intro W Z
          (try simp only [Act.put, List.setIfInBounds_toArray, List.set_cons_zero, List.set_cons_succ])
          exact K _ Z
        · show wpList _ _ _ [_, _, _, _, _, _] _ _
          refine seq_is (v := .agg #[.bool (decide (gcdI ((((z1)).natAbs : Nat)) ((((z2)).natAbs : Nat)) < 0)), x7.v]) rfl (run_load2 rfl rfl (Z.bx 6 rfl)) ?_
          (try simp only [Act.put, List.setIfInBounds_toArray, List.set_cons_zero, List.set_cons_succ])
          refine seq_is (v := .agg #[.bool (decide (((gcdI ((((z1)).natAbs : Nat)) ((((z2)).natAbs : Nat))) - (((x : Int).fmod (((((z2)).natAbs : Nat) : Int).fdiv (gcdI ((((z1)).natAbs : Nat)) ((((z2)).natAbs : Nat))))) * (z1)) : Int).fdiv (z2) < 0)), x159.v]) rfl (run_load2 rfl rfl (Z.bx 2 rfl)) ?_
          (try simp only [Act.put, List.setIfInBounds_toArray, List.set_cons_zero, List.set_cons_succ])
          refine seq_store Z 9 rfl rfl rfl rfl rfl ?_; clear Z; intro W Z
          (try simp only [Act.put, List.setIfInBounds_toArray, List.set_cons_zero, List.set_cons_succ])
          refine seq_is (v := .agg #[.bool (decide ((x : Int).fmod (((((z2)).natAbs : Nat) : Int).fdiv (gcdI ((((z1)).natAbs : Nat)) ((((z2)).natAbs : Nat)))) < 0)), x130.2.v]) rfl (run_load2 rfl rfl (Z.bx 3 rfl)) ?_
          (try simp only [Act.put, List.setIfInBounds_toArray, List.set_cons_zero, List.set_cons_succ])
          refine seq_store Z 8 rfl rfl rfl rfl rfl ?_; clear Z; intro W Z
          (try simp only [Act.put, List.setIfInBounds_toArray, List.set_cons_zero, List.set_cons_succ])
          refine seq_store Z 7 rfl rfl rfl rfl rfl ?_; clear Z; intro W Z
          (try simp only [Act.put, List.setIfInBounds_toArray, List.set_cons_zero, List.set_cons_succ])
          exact K _ Z
        · show wpList _ _ _ [_, _, _, _, _, _] _ _
          refine seq_is (v := .agg #[.bool (decide (gcdI ((((z1)).natAbs : Nat)) ((((z2)).natAbs : Nat)) < 0)), x7.v]) rfl (run_load2 rfl rfl (Z.bx 6 rfl)) ?_
          (try simp only [Act.put, List.setIfInBounds_toArray, List.set_cons_zero, List.set_cons_succ])
          refine seq_store Z 9 rfl rfl rfl rfl rfl ?_; clear Z; intro W Z
          (try simp only [Act.put, List.setIfInBounds_toArray, List.set_cons_zero, List.set_cons_succ])
          refine seq_is (v := .agg #[.bool (decide ((x : Int).fmod (((((z2)).natAbs : Nat) : Int).fdiv (gcdI ((((z1)).natAbs : Nat)) ((((z2)).natAbs : Nat)))) < 0)), x130.2.v]) rfl (run_load2 rfl rfl (Z.bx 3 rfl)) ?_
          (try simp only [Act.put, List.setIfInBounds_toArray, List.set_cons_zero, List.set_cons_succ])
          refine seq_is (v := .agg #[.bool (decide (((gcdI ((((z1)).natAbs : Nat)) ((((z2)).natAbs : Nat))) - (((x : Int).fmod (((((z2)).natAbs : Nat) : Int).fdiv (gcdI ((((z1)).natAbs : Nat)) ((((z2)).natAbs : Nat))))) * (z1)) : Int).fdiv (z2) < 0)), x159.v]) rfl (run_load2 rfl rfl (Z.bx 2 rfl)) ?_
          (try simp only [Act.put, List.setIfInBounds_toArray, List.set_cons_zero, List.set_cons_succ])
          refine seq_store Z 8 rfl rfl rfl rfl rfl ?_; clear Z; intro W Z
          (try simp only [Act.put, List.setIfInBounds_toArray, List.set_cons_zero, List.set_cons_succ])
          refine seq_store Z 7 rfl rfl rfl rfl rfl ?_; clear Z; intro W Z
          (try simp only [Act.put, List.setIfInBounds_toArray, List.set_cons_zero, List.set_cons_succ])
          exact K _ Z
        · show wpList _ _ _ [_, _, _, _, _, _] _ _
          refine seq_is (v := .agg #[.bool (decide (gcdI ((((z1)).natAbs : Nat)) ((((z2)).natAbs : Nat)) < 0)), x7.v]) rfl (run_load2 rfl rfl (Z.bx 6 rfl)) ?_
          (try simp only [Act.put, List.setIfInBounds_toArray, List.set_cons_zero, List.set_cons_succ])
          refine seq_store Z 9 rfl rfl rfl rfl rfl ?_; clear Z; intro W Z
          (try simp only [Act.put, List.setIfInBounds_toArray, List.set_cons_zero, List.set_cons_succ])
          refine seq_is (v := .agg #[.bool (decide ((x : Int).fmod (((((z2)).natAbs : Nat) : Int).fdiv (gcdI ((((z1)).natAbs : Nat)) ((((z2)).natAbs : Nat)))) < 0)), x130.2.v]) rfl (run_load2 rfl rfl (Z.bx 3 rfl)) ?_
          (try simp only [Act.put, List.setIfInBounds_toArray, List.set_cons_zero, List.set_cons_succ])
          refine seq_store Z 8 rfl rfl rfl rfl rfl ?_; clear Z; intro W Z
          (try simp only [Act.put, List.setIfInBounds_toArray, List.set_cons_zero, List.set_cons_succ])
          refine seq_is (v := .agg #[.bool (decide (((gcdI ((((z1)).natAbs : Nat)) ((((z2)).natAbs : Nat))) - (((x : Int).fmod (((((z2)).natAbs : Nat) : Int).fdiv (gcdI ((((z1)).natAbs : Nat)) ((((z2)).natAbs : Nat))))) * (z1)) : Int).fdiv (z2) < 0)), x159.v]) rfl (run_load2 rfl rfl (Z.bx 2 rfl)) ?_
          (try simp only [Act.put, List.setIfInBounds_toArray, List.set_cons_zero, List.set_cons_succ])
          refine seq_store Z 7 rfl rfl rfl rfl rfl ?_; clear Z; intro W Z
          (try simp only [Act.put, List.setIfInBounds_toArray, List.set_cons_zero, List.set_cons_succ])
          exact K _ Z
        · show wpList _ _ _ [_, _, _, _, _, _] _ _
          refine seq_is (v := .agg #[.bool (decide (gcdI ((((z1)).natAbs : Nat)) ((((z2)).natAbs : Nat)) < 0)), x7.v]) rfl (run_load2 rfl rfl (Z.bx 6 rfl)) ?_
          (try simp only [Act.put, List.setIfInBounds_toArray, List.set_cons_zero, List.set_cons_succ])
          refine seq_store Z 9 rfl rfl rfl rfl rfl ?_; clear Z; intro W Z
          (try simp only [Act.put, List.setIfInBounds_toArray, List.set_cons_zero, List.set_cons_succ])
          refine seq_is (v := .agg #[.bool (decide (((gcdI ((((z1)).natAbs : Nat)) ((((z2)).natAbs : Nat))) - (((x : Int).fmod (((((z2)).natAbs : Nat) : Int).fdiv (gcdI ((((z1)).natAbs : Nat)) ((((z2)).natAbs : Nat))))) * (z1)) : Int).fdiv (z2) < 0)), x159.v]) rfl (run_load2 rfl rfl (Z.bx 2 rfl)) ?_
          (try simp only [Act.put, List.setIfInBounds_toArray, List.set_cons_zero, List.set_cons_succ])
          refine seq_is (v := .agg #[.bool (decide ((x : Int).fmod (((((z2)).natAbs : Nat) : Int).fdiv (gcdI ((((z1)).natAbs : Nat)) ((((z2)).natAbs : Nat)))) < 0)), x130.2.v]) rfl (run_load2 rfl rfl (Z.bx 3 rfl)) ?_
          (try simp only [Act.put, List.setIfInBounds_toArray, List.set_cons_zero, List.set_cons_succ])
          refine seq_store Z 8 rfl rfl rfl rfl rfl ?_; clear Z; intro W Z
          (try simp only [Act.put, List.setIfInBounds_toArray, List.set_cons_zero, List.set_cons_succ])
          refine seq_store Z 7 rfl rfl rfl rfl rfl ?_; clear Z; intro W Z
          (try simp only [Act.put, List.setIfInBounds_toArray, List.set_cons_zero, List.set_cons_succ])
          exact K _ Z
        · show wpList _ _ _ [_, _, _, _, _, _] _ _
          refine seq_is (v := .agg #[.bool (decide ((x : Int).fmod (((((z2)).natAbs : Nat) : Int).fdiv (gcdI ((((z1)).natAbs : Nat)) ((((z2)).natAbs : Nat)))) < 0)), x130.2.v]) rfl (run_load2 rfl rfl (Z.bx 3 rfl)) ?_
          (try simp only [Act.put, List.setIfInBounds_toArray, List.set_cons_zero, List.set_cons_succ])
          refine seq_is (v := .agg #[.bool (decide (gcdI ((((z1)).natAbs : Nat)) ((((z2)).natAbs : Nat)) < 0)), x7.v]) rfl (run_load2 rfl rfl (Z.bx 6 rfl)) ?_
          (try simp only [Act.put, List.setIfInBounds_toArray, List.set_cons_zero, List.set_cons_succ])
          refine seq_is (v := .agg #[.bool (decide (((gcdI ((((z1)).natAbs : Nat)) ((((z2)).natAbs : Nat))) - (((x : Int).fmod (((((z2)).natAbs : Nat) : Int).fdiv (gcdI ((((z1)).natAbs : Nat)) ((((z2)).natAbs : Nat))))) * (z1)) : Int).fdiv (z2) < 0)), x159.v]) rfl (run_load2 rfl rfl (Z.bx 2 rfl)) ?_
          (try simp only [Act.put, List.setIfInBounds_toArray, List.set_cons_zero, List.set_cons_succ])
          refine seq_store Z 9 rfl rfl rfl rfl rfl ?_; clear Z; intro W Z
          (try simp only [Act.put, List.setIfInBounds_toArray, List.set_cons_zero, List.set_cons_succ])
          refine seq_store Z 8 rfl rfl rfl rfl rfl ?_; clear Z; intro W Z
          (try simp only [Act.put, List.setIfInBounds_toArray, List.set_cons_zero, List.set_cons_succ])
          refine seq_store Z 7 rfl rfl rfl rfl rfl ?_; clear Z; intro W Z
          (try simp only [Act.put, List.setIfInBounds_toArray, List.set_cons_zero, List.set_cons_succ])
          exact K _ Z
        · show wpList _ _ _ [_, _, _, _, _, _] _ _
          refine seq_is (v := .agg #[.bool (decide ((x : Int).fmod (((((z2)).natAbs : Nat) : Int).fdiv (gcdI ((((z1)).natAbs : Nat)) ((((z2)).natAbs : Nat)))) < 0)), x130.2.v]) rfl (run_load2 rfl rfl (Z.bx 3 rfl)) ?_
          (try simp only [Act.put, List.setIfInBounds_toArray, List.set_cons_zero, List.set_cons_succ])
          refine seq_is (v := .agg #[.bool (decide (gcdI ((((z1)).natAbs : Nat)) ((((z2)).natAbs : Nat)) < 0)), x7.v]) rfl (run_load2 rfl rfl (Z.bx 6 rfl)) ?_
          (try simp only [Act.put, List.setIfInBounds_toArray, List.set_cons_zero, List.set_cons_succ])
          refine seq_store Z 9 rfl rfl rfl rfl rfl ?_; clear Z; intro W Z
          (try simp only [Act.put, List.setIfInBounds_toArray, List.set_cons_zero, List.set_cons_succ])
          refine seq_is (v := .agg #[.bool (decide (((gcdI ((((z1)).natAbs : Nat)) ((((z2)).natAbs : Nat))) - (((x : Int).fmod (((((z2)).natAbs : Nat) : Int).fdiv (gcdI ((((z1)).natAbs : Nat)) ((((z2)).natAbs : Nat))))) * (z1)) : Int).fdiv (z2) < 0)), x159.v]) rfl (run_load2 rfl rfl (Z.bx 2 rfl)) ?_
          (try simp only [Act.put, List.setIfInBounds_toArray, List.set_cons_zero, List.set_cons_succ])
          refine seq_store Z 8 rfl rfl rfl rfl rfl ?_; clear Z; intro W Z
          (try simp only [Act.put, List.setIfInBounds_toArray, List.set_cons_zero, List.set_cons_succ])
          refine seq_store Z 7 rfl rfl rfl rfl rfl ?_; clear Z; intro W Z
          (try simp only [Act.put, List.setIfInBounds_toArray, List.set_cons_zero, List.set_cons_succ])
          exact K _ Z
        · show wpList _ _ _ [_, _, _, _, _, _] _ _
          refine seq_is (v := .agg #[.bool (decide ((x : Int).fmod (((((z2)).natAbs : Nat) : Int).fdiv (gcdI ((((z1)).natAbs : Nat)) ((((z2)).natAbs : Nat)))) < 0)), x130.2.v]) rfl (run_load2 rfl rfl (Z.bx 3 rfl)) ?_
          (try simp only [Act.put, List.setIfInBounds_toArray, List.set_cons_zero, List.set_cons_succ])
          refine seq_is (v := .agg #[.bool (decide (gcdI ((((z1)).natAbs : Nat)) ((((z2)).natAbs : Nat)) < 0)), x7.v]) rfl (run_load2 rfl rfl (Z.bx 6 rfl)) ?_
          (try simp only [Act.put, List.setIfInBounds_toArray, List.set_cons_zero, List.set_cons_succ])
          refine seq_store Z 9 rfl rfl rfl rfl rfl ?_; clear Z; intro W Z
          (try simp only [Act.put, List.setIfInBounds_toArray, List.set_cons_zero, List.set_cons_succ])
          refine seq_store Z 8 rfl rfl rfl rfl rfl ?_; clear Z; intro W Z
          (try simp only [Act.put, List.setIfInBounds_toArray, List.set_cons_zero, List.set_cons_succ])
          refine seq_is (v := .agg #[.bool (decide (((gcdI ((((z1)).natAbs : Nat)) ((((z2)).natAbs : Nat))) - (((x : Int).fmod (((((z2)).natAbs : Nat) : Int).fdiv (gcdI ((((z1)).natAbs : Nat)) ((((z2)).natAbs : Nat))))) * (z1)) : Int).fdiv (z2) < 0)), x159.v]) rfl (run_load2 rfl rfl (Z.bx 2 rfl)) ?_
          (try simp only [Act.put, List.setIfInBounds_toArray, List.set_cons_zero, List.set_cons_succ])
          refine seq_store Z 7 rfl rfl rfl rfl rfl ?_; clear Z; intro W Z
          (try simp only [Act.put, List.setIfInBounds_toArray, List.set_cons_zero, List.set_cons_succ])
          exact K _ Z
        · show wpList _ _ _ [_, _, _, _, _, _] _ _
          refine seq_is (v := .agg #[.bool (decide ((x : Int).fmod (((((z2)).natAbs : Nat) : Int).fdiv (gcdI ((((z1)).natAbs : Nat)) ((((z2)).natAbs : Nat)))) < 0)), x130.2.v]) rfl (run_load2 rfl rfl (Z.bx 3 rfl)) ?_
          (try simp only [Act.put, List.setIfInBounds_toArray, List.set_cons_zero, List.set_cons_succ])
          refine seq_is (v := .agg #[.bool (decide (((gcdI ((((z1)).natAbs : Nat)) ((((z2)).natAbs : Nat))) - (((x : Int).fmod (((((z2)).natAbs : Nat) : Int).fdiv (gcdI ((((z1)).natAbs : Nat)) ((((z2)).natAbs : Nat))))) * (z1)) : Int).fdiv (z2) < 0)), x159.v]) rfl (run_load2 rfl rfl (Z.bx 2 rfl)) ?_
          (try simp only [Act.put, List.setIfInBounds_toArray, List.set_cons_zero, List.set_cons_succ])
          refine seq_is (v := .agg #[.bool (decide (gcdI ((((z1)).natAbs : Nat)) ((((z2)).natAbs : Nat)) < 0)), x7.v]) rfl (run_load2 rfl rfl (Z.bx 6 rfl)) ?_
          (try simp only [Act.put, List.setIfInBounds_toArray, List.set_cons_zero, List.set_cons_succ])
          refine seq_store Z 9 rfl rfl rfl rfl rfl ?_; clear Z; intro W Z
          (try simp only [Act.put, List.setIfInBounds_toArray, List.set_cons_zero, List.set_cons_succ])
          refine seq_store Z 8 rfl rfl rfl rfl rfl ?_; clear Z; intro W Z
          (try simp only [Act.put, List.setIfInBounds_toArray, List.set_cons_zero, List.set_cons_succ])
          refine seq_store Z 7 rfl rfl rfl rfl rfl ?_; clear Z; intro W Z
          (try simp only [Act.put, List.setIfInBounds_toArray, List.set_cons_zero, List.set_cons_succ])
          exact K _ Z
        · show wpList _ _ _ [_, _, _, _, _, _] _ _
          refine seq_is (v := .agg #[.bool (decide (((gcdI ((((z1)).natAbs : Nat)) ((((z2)).natAbs : Nat))) - (((x : Int).fmod (((((z2)).natAbs : Nat) : Int).fdiv (gcdI ((((z1)).natAbs : Nat)) ((((z2)).natAbs : Nat))))) * (z1)) : Int).fdiv (z2) < 0)), x159.v]) rfl (run_load2 rfl rfl (Z.bx 2 rfl)) ?_
          (try simp only [Act.put, List.setIfInBounds_toArray, List.set_cons_zero, List.set_cons_succ])
          refine seq_is (v := .agg #[.bool (decide (gcdI ((((z1)).natAbs : Nat)) ((((z2)).natAbs : Nat)) < 0)), x7.v]) rfl (run_load2 rfl rfl (Z.bx 6 rfl)) ?_
          (try simp only [Act.put, List.setIfInBounds_toArray, List.set_cons_zero, List.set_cons_succ])
          refine seq_is (v := .agg #[.bool (decide ((x : Int).fmod (((((z2)).natAbs : Nat) : Int).fdiv (gcdI ((((z1)).natAbs : Nat)) ((((z2)).natAbs : Nat)))) < 0)), x130.2.v]) rfl (run_load2 rfl rfl (Z.bx 3 rfl)) ?_
          (try simp only [Act.put, List.setIfInBounds_toArray, List.set_cons_zero, List.set_cons_succ])
          refine seq_store Z 9 rfl rfl rfl rfl rfl ?_; clear Z; intro W Z
          (try simp only [Act.put, List.setIfInBounds_toArray, List.set_cons_zero, List.set_cons_succ])
          refine seq_store Z 8 rfl rfl rfl rfl rfl ?_; clear Z; intro W Z
          (try simp only [Act.put, List.setIfInBounds_toArray, List.set_cons_zero, List.set_cons_succ])
          refine seq_store Z 7 rfl rfl rfl rfl rfl ?_; clear Z; intro W Z
          (try simp only [Act.put, List.setIfInBounds_toArray, List.set_cons_zero, List.set_cons_succ])
          exact K _ Z
        · show wpList _ _ _ [_, _, _, _, _, _] _ _
          refine seq_is (v := .agg #[.bool (decide (((gcdI ((((z1)).natAbs : Nat)) ((((z2)).natAbs : Nat))) - (((x : Int).fmod (((((z2)).natAbs : Nat) : Int).fdiv (gcdI ((((z1)).natAbs : Nat)) ((((z2)).natAbs : Nat))))) * (z1)) : Int).fdiv (z2) < 0)), x159.v]) rfl (run_load2 rfl rfl (Z.bx 2 rfl)) ?_
          (try simp only [Act.put, List.setIfInBounds_toArray, List.set_cons_zero, List.set_cons_succ])
          refine seq_is (v := .agg #[.bool (decide (gcdI ((((z1)).natAbs : Nat)) ((((z2)).natAbs : Nat)) < 0)), x7.v]) rfl (run_load2 rfl rfl (Z.bx 6 rfl)) ?_
          (try simp only [Act.put, List.setIfInBounds_toArray, List.set_cons_zero, List.set_cons_succ])
          refine seq_store Z 9 rfl rfl rfl rfl rfl ?_; clear Z; intro W Z
          (try simp only [Act.put, List.setIfInBounds_toArray, List.set_cons_zero, List.set_cons_succ])
          refine seq_is (v := .agg #[.bool (decide ((x : Int).fmod (((((z2)).natAbs : Nat) : Int).fdiv (gcdI ((((z1)).natAbs : Nat)) ((((z2)).natAbs : Nat)))) < 0)), x130.2.v]) rfl (run_load2 rfl rfl (Z.bx 3 rfl)) ?_
          (try simp only [Act.put, List.setIfInBounds_toArray, List.set_cons_zero, List.set_cons_succ])
          refine seq_store Z 8 rfl rfl rfl rfl rfl ?_; clear Z; intro W Z
          (try simp only [Act.put, List.setIfInBounds_toArray, List.set_cons_zero, List.set_cons_succ])
          refine seq_store Z 7 rfl rfl rfl rfl rfl ?_; clear Z; intro W Z
          (try simp only [Act.put, List.setIfInBounds_toArray, List.set_cons_zero, List.set_cons_succ])
          exact K _ Z
        · show wpList _ _ _ [_, _, _, _, _, _] _ _
          refine seq_is (v := .agg #[.bool (decide (((gcdI ((((z1)).natAbs : Nat)) ((((z2)).natAbs : Nat))) - (((x : Int).fmod (((((z2)).natAbs : Nat) : Int).fdiv (gcdI ((((z1)).natAbs : Nat)) ((((z2)).natAbs : Nat))))) * (z1)) : Int).fdiv (z2) < 0)), x159.v]) rfl (run_load2 rfl rfl (Z.bx 2 rfl)) ?_
          (try simp only [Act.put, List.setIfInBounds_toArray, List.set_cons_zero, List.set_cons_succ])
          refine seq_is (v := .agg #[.bool (decide ((x : Int).fmod (((((z2)).natAbs : Nat) : Int).fdiv (gcdI ((((z1)).natAbs : Nat)) ((((z2)).natAbs : Nat)))) < 0)), x130.2.v]) rfl (run_load2 rfl rfl (Z.bx 3 rfl)) ?_
          (try simp only [Act.put, List.setIfInBounds_toArray, List.set_cons_zero, List.set_cons_succ])
          refine seq_is (v := .agg #[.bool (decide (gcdI ((((z1)).natAbs : Nat)) ((((z2)).natAbs : Nat)) < 0)), x7.v]) rfl (run_load2 rfl rfl (Z.bx 6 rfl)) ?_
          (try simp only [Act.put, List.setIfInBounds_toArray, List.set_cons_zero, List.set_cons_succ])
          refine seq_store Z 9 rfl rfl rfl rfl rfl ?_; clear Z; intro W Z
          (try simp only [Act.put, List.setIfInBounds_toArray, List.set_cons_zero, List.set_cons_succ])
          refine seq_store Z 8 rfl rfl rfl rfl rfl ?_; clear Z; intro W Z
          (try simp only [Act.put, List.setIfInBounds_toArray, List.set_cons_zero, List.set_cons_succ])
          refine seq_store Z 7 rfl rfl rfl rfl rfl ?_; clear Z; intro W Z
          (try simp only [Act.put, List.setIfInBounds_toArray, List.set_cons_zero, List.set_cons_succ])
          exact K _ Z
      · show Code.wp _ _ _ _ _
        refine wp_ret ?_
        exact Z.endsIII (d := 0) (u' := undef) 9 21 8 9 7 1 rfl rfl rfl rfl rfl rfl rfl rfl rfl rfl rfl (by exact hF.1) (by exact hF.2.1) (by exact hF.2.2)
theorem trammelref02_Bezout.sem {w : World} {b1 : Bool} {v1 : Value} {z1 : Int} {b2 : Bool} {v2 : Value} {z2 : Int} (m1 : NumV w b1 v1 z1) (m2 : NumV w b2 v2 z2) (hb1 : Bd 40000000 z1) (hb2 : Bd 40000000 z2) : Calls Try.prog 60 #[.agg #[.bool b1, v1], .agg #[.bool b2, v2]] w (ResIII w (bezG z1 z2) (bezX z1 z2) (bezY z1 z2)) := by
  by_cases h0 : z2 = 0
  · exact trammelref02_Bezout.sem0 m1 m2 hb1 hb2 h0
  · exact trammelref02_Bezout.semN m1 m2 hb1 hb2 h0
end Go.Proofs.Ytmbmbmkmjbpcpaa.PA

