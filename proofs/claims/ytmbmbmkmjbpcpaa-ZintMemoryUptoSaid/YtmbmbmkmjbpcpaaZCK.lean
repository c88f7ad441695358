/- The contract of the reference's made. -/
import Derived.Outline
import Derived.Test.YtmbmbmkmjbpcpaaZBK
import Derived.Test.YtmbmbmkmjbpcpaaPAx0K
namespace Go.Proofs.Ytmbmbmkmjbpcpaa.PA
open Go Go.Proofs.Ytmbmbmkmjbpcpaa.Nums Go.RowKit Go.Proofs.YtmbmbmkmjbpcpaaW.PrintWords Go.Proofs.YtmbmbmkmjbpcpaaW.PrintLast Go.Proofs.YtmbmbmkmjbpcpaaW.PrintMore
set_option linter.unusedVariables false
set_option linter.unusedSimpArgs false
/-- the sign of the reference's number -/
theorem made_t {x : Int} {n : Nat} (hx : 0 ≤ x) (h : n = (lm x).length) : decide ((0 : Int) < (n : Int)) = decide (zof true x < 0) := by
  subst h
  have := lm_eq_nil hx
  unfold zof
  refine decide_eq_decide.mpr ?_
  constructor
  · intro h
    have : x ≠ 0 := by
      rintro rfl
      rw [lm_zero] at h
      simp at h
    simp
    omega
  · intro h
    simp at h
    have : lm x ≠ [] := fun e => by have := this.mp e; omega
    have := List.length_pos_iff.mpr this
    omega
theorem made_f {x : Int} {n : Nat} (hx : 0 ≤ x) (h : n = (lm x).length) : false = decide (zof false x < 0) := by
  unfold zof
  simp
  omega
theorem mg_zof {b : Bool} {x : Int} (hx : 0 ≤ x) : mg (zof b x) = lm x := by
  unfold mg
  rw [zof_abs hx]
set_option maxHeartbeats 4000000 in
set_option maxRecDepth 100000 in
theorem trammelref02_made.res {w : World} {b1 : Bool} {v1 : Value} {x1 : Int} (m1 : MagV w v1 x1) : Calls Try.prog 73 #[.bool b1, v1] w (ResI w (zof b1 x1)) := by
  have hx := m1.nonneg
  have m1' := m1
  obtain ⟨l, ⟨A1, c1, rfl, -⟩, -⟩ := m1'
  generalize l.length = n1 at m1
  have Z := Zt.start w m1.has
  cases b1
  · go_enter Try.func73, Try.ntmps73
    refine wp_seq ?_
    refine wp_region_list ?_
    refine seq_alloc Z rfl rfl ?_; clear Z; intro g1 W Z
    (try simp only [Act.put, List.setIfInBounds_toArray, List.set_cons_zero, List.set_cons_succ])
    show Code.wp _ _ _ _ _
    refine wp_seq ?_
    refine wp_region_list ?_
    refine seq_is (v := .slice A1 n1 c1) rfl (run_move rfl rfl) ?_
    (try simp only [Act.put, List.setIfInBounds_toArray, List.set_cons_zero, List.set_cons_succ])
    refine seq_call Z rfl rfl Try.func80 rfl rfl (args1 rfl) (Z.callM (trammelref01_Norm.sem (Z.magv 0 rfl))) ?_; clear Z; intro x2 W Z
    (try simp only [Act.put, List.setIfInBounds_toArray, List.set_cons_zero, List.set_cons_succ])
    refine seq_is (v := x2.v) rfl (run_assign rfl rfl) ?_
    (try simp only [Act.put, List.setIfInBounds_toArray, List.set_cons_zero, List.set_cons_succ])
    show Code.wp _ _ _ _ _
    refine wp_seq ?_
    refine wp_region_list ?_
    refine seq_is (v := .bool (false)) rfl (run_move rfl rfl) ?_
    (try simp only [Act.put, List.setIfInBounds_toArray, List.set_cons_zero, List.set_cons_succ])
    refine seq_is (v := .bool (false)) rfl (run_move rfl rfl) ?_
    (try simp only [Act.put, List.setIfInBounds_toArray, List.set_cons_zero, List.set_cons_succ])
    refine list_unwant rfl rfl rfl (by decide) ?_
    refine list_unwant rfl rfl rfl (by decide) ?_
    refine list_unwant rfl rfl rfl (by decide) ?_
    refine seq_is (v := .bool (false)) rfl (run_pickF rfl rfl rfl) ?_
    (try simp only [Act.put, List.setIfInBounds_toArray, List.set_cons_zero, List.set_cons_succ])
    refine seq_is (v := x2.v) rfl (run_move rfl rfl) ?_
    (try simp only [Act.put, List.setIfInBounds_toArray, List.set_cons_zero, List.set_cons_succ])
    refine seq_is (v := .agg #[.bool (false), x2.v]) rfl (run_build2 rfl rfl rfl) ?_
    (try simp only [Act.put, List.setIfInBounds_toArray, List.set_cons_zero, List.set_cons_succ])
    refine seq_store Z 0 rfl rfl rfl rfl rfl ?_; clear Z; intro W Z
    (try simp only [Act.put, List.setIfInBounds_toArray, List.set_cons_zero, List.set_cons_succ])
    show Code.wp _ _ _ _ _
    refine wp_ret ?_
    have hl := (Kd.R_reads' (Z.row 0 rfl)).1
    exact Z.ends1b 0 0 rfl rfl rfl rfl rfl (made_f hx hl) (mg_zof hx).symm
  · go_enter Try.func73, Try.ntmps73
    refine wp_seq ?_
    refine wp_region_list ?_
    refine seq_alloc Z rfl rfl ?_; clear Z; intro g1 W Z
    (try simp only [Act.put, List.setIfInBounds_toArray, List.set_cons_zero, List.set_cons_succ])
    show Code.wp _ _ _ _ _
    refine wp_seq ?_
    refine wp_region_list ?_
    refine seq_is (v := .slice A1 n1 c1) rfl (run_move rfl rfl) ?_
    (try simp only [Act.put, List.setIfInBounds_toArray, List.set_cons_zero, List.set_cons_succ])
    refine seq_call Z rfl rfl Try.func80 rfl rfl (args1 rfl) (Z.callM (trammelref01_Norm.sem (Z.magv 0 rfl))) ?_; clear Z; intro x2 W Z
    (try simp only [Act.put, List.setIfInBounds_toArray, List.set_cons_zero, List.set_cons_succ])
    refine seq_is (v := x2.v) rfl (run_assign rfl rfl) ?_
    (try simp only [Act.put, List.setIfInBounds_toArray, List.set_cons_zero, List.set_cons_succ])
    show Code.wp _ _ _ _ _
    refine wp_seq ?_
    refine wp_region_list ?_
    refine seq_is (v := .bool (true)) rfl (run_move rfl rfl) ?_
    (try simp only [Act.put, List.setIfInBounds_toArray, List.set_cons_zero, List.set_cons_succ])
    refine seq_is (v := .bool (true)) rfl (run_move rfl rfl) ?_
    (try simp only [Act.put, List.setIfInBounds_toArray, List.set_cons_zero, List.set_cons_succ])
    refine list_want rfl rfl rfl (wp_run (v := x2.v) (run_move rfl rfl) ?_)
    (try simp only [Act.put, List.setIfInBounds_toArray, List.set_cons_zero, List.set_cons_succ])
    refine list_want rfl rfl rfl (wp_run (v := .int .i64 (((x2.2.1 : Nat) : Int))) (run_len rfl rfl) ?_)
    (try simp only [Act.put, List.setIfInBounds_toArray, List.set_cons_zero, List.set_cons_succ])
    refine list_want rfl rfl rfl (wp_run (v := .bool (decide ((0) < (((x2.2.1 : Nat) : Int))))) (run_gtr rfl rfl rfl) ?_)
    (try simp only [Act.put, List.setIfInBounds_toArray, List.set_cons_zero, List.set_cons_succ])
    refine seq_is (v := .bool (decide ((0) < (((x2.2.1 : Nat) : Int))))) rfl (run_pickT rfl rfl rfl) ?_
    (try simp only [Act.put, List.setIfInBounds_toArray, List.set_cons_zero, List.set_cons_succ])
    refine seq_is (v := x2.v) rfl (run_move rfl rfl) ?_
    (try simp only [Act.put, List.setIfInBounds_toArray, List.set_cons_zero, List.set_cons_succ])
    refine seq_is (v := .agg #[.bool (decide ((0) < (((x2.2.1 : Nat) : Int)))), x2.v]) rfl (run_build2 rfl rfl rfl) ?_
    (try simp only [Act.put, List.setIfInBounds_toArray, List.set_cons_zero, List.set_cons_succ])
    refine seq_store Z 0 rfl rfl rfl rfl rfl ?_; clear Z; intro W Z
    (try simp only [Act.put, List.setIfInBounds_toArray, List.set_cons_zero, List.set_cons_succ])
    show Code.wp _ _ _ _ _
    refine wp_ret ?_
    have hl := (Kd.R_reads' (Z.row 0 rfl)).1
    exact Z.ends1b 0 0 rfl rfl rfl rfl rfl (made_t hx hl) (mg_zof hx).symm
end Go.Proofs.Ytmbmbmkmjbpcpaa.PA


/- Walks of the smaller functions of zint. -/
namespace Go.Proofs.Ytmbmbmkmjbpcpaa.PA
open Go Go.Proofs.Ytmbmbmkmjbpcpaa.Nums Go.RowKit Go.Proofs.YtmbmbmkmjbpcpaaW.PrintWords Go.Proofs.YtmbmbmkmjbpcpaaW.PrintLast Go.Proofs.YtmbmbmkmjbpcpaaW.PrintMore
set_option linter.unusedVariables false
set_option linter.unusedSimpArgs false
set_option maxHeartbeats 4000000 in
set_option maxRecDepth 100000 in
theorem zint_Neg.sem {w : World} {b1 : Bool} {v1 : Value} {z1 : Int} (m1 : NumV w b1 v1 z1) : Calls Try.prog 25 #[.agg #[.bool b1, v1]] w (ResI w (-z1)) := by
  obtain ⟨A1, n1, c1, rfl⟩ := m1.form
  have Z := Zt.begin1 m1
  go_enter Try.func25, Try.ntmps25
  refine wp_seq ?_
  refine wp_region_list ?_
  refine seq_box Z rfl rfl rfl ?_; clear Z; intro g1 W Z
  (try simp only [Act.put, List.setIfInBounds_toArray, List.set_cons_zero, List.set_cons_succ])
  refine seq_alloc Z rfl rfl ?_; clear Z; intro g2 W Z
  (try simp only [Act.put, List.setIfInBounds_toArray, List.set_cons_zero, List.set_cons_succ])
  show Code.wp _ _ _ _ _
  refine wp_seq ?_
  refine wp_region_list ?_
  refine seq_is (v := .pointer (some ⟨g1, 0, none⟩)) rfl (run_field0 rfl rfl) ?_
  (try simp only [Act.put, List.setIfInBounds_toArray, List.set_cons_zero, List.set_cons_succ])
  refine seq_is (v := .bool (b1)) rfl (run_loadN rfl rfl (Z.bx 1 rfl)) ?_
  (try simp only [Act.put, List.setIfInBounds_toArray, List.set_cons_zero, List.set_cons_succ])
  refine seq_is (v := .bool (!(b1))) rfl (run_not rfl rfl) ?_
  (try simp only [Act.put, List.setIfInBounds_toArray, List.set_cons_zero, List.set_cons_succ])
  refine seq_is (v := .pointer (some ⟨g1, 1, none⟩)) rfl (run_field1 rfl rfl) ?_
  (try simp only [Act.put, List.setIfInBounds_toArray, List.set_cons_zero, List.set_cons_succ])
  refine seq_is (v := .slice A1 n1 c1) rfl (run_loadM rfl rfl (Z.bx 1 rfl)) ?_
  (try simp only [Act.put, List.setIfInBounds_toArray, List.set_cons_zero, List.set_cons_succ])
  refine seq_call Z rfl rfl Try.func69 rfl rfl (args2 rfl rfl) (Z.callI (zint_made.res (Z.num 0 rfl).mag)) ?_; clear Z; intro x3 W Z
  (try simp only [Act.put, List.setIfInBounds_toArray, List.set_cons_zero, List.set_cons_succ])
  refine seq_store Z 0 rfl rfl rfl rfl rfl ?_; clear Z; intro W Z
  (try simp only [Act.put, List.setIfInBounds_toArray, List.set_cons_zero, List.set_cons_succ])
  show Code.wp _ _ _ _ _
  refine wp_ret ?_
  exact Z.ends1 0 0 rfl rfl rfl rfl rfl (by exact neg_law m1)
set_option maxHeartbeats 4000000 in
set_option maxRecDepth 100000 in
theorem zint_Abs.sem {w : World} {b1 : Bool} {v1 : Value} {z1 : Int} (m1 : NumV w b1 v1 z1) : Calls Try.prog 27 #[.agg #[.bool b1, v1]] w (ResI w ((z1.natAbs : Nat))) := by
  obtain ⟨A1, n1, c1, rfl⟩ := m1.form
  have Z := Zt.begin1 m1
  go_enter Try.func27, Try.ntmps27
  refine wp_seq ?_
  refine wp_region_list ?_
  refine seq_box Z rfl rfl rfl ?_; clear Z; intro g1 W Z
  (try simp only [Act.put, List.setIfInBounds_toArray, List.set_cons_zero, List.set_cons_succ])
  refine seq_alloc Z rfl rfl ?_; clear Z; intro g2 W Z
  (try simp only [Act.put, List.setIfInBounds_toArray, List.set_cons_zero, List.set_cons_succ])
  show Code.wp _ _ _ _ _
  refine wp_seq ?_
  refine wp_region_list ?_
  refine seq_is (v := .pointer (some ⟨g1, 1, none⟩)) rfl (run_field1 rfl rfl) ?_
  (try simp only [Act.put, List.setIfInBounds_toArray, List.set_cons_zero, List.set_cons_succ])
  refine seq_is (v := .slice A1 n1 c1) rfl (run_loadM rfl rfl (Z.bx 1 rfl)) ?_
  (try simp only [Act.put, List.setIfInBounds_toArray, List.set_cons_zero, List.set_cons_succ])
  refine seq_call Z rfl rfl Try.func69 rfl rfl (args2 rfl rfl) (Z.callI (zint_made.res (Z.num 0 rfl).mag)) ?_; clear Z; intro x3 W Z
  (try simp only [Act.put, List.setIfInBounds_toArray, List.set_cons_zero, List.set_cons_succ])
  refine seq_store Z 0 rfl rfl rfl rfl rfl ?_; clear Z; intro W Z
  (try simp only [Act.put, List.setIfInBounds_toArray, List.set_cons_zero, List.set_cons_succ])
  show Code.wp _ _ _ _ _
  refine wp_ret ?_
  exact Z.ends1 0 0 rfl rfl rfl rfl rfl (by rfl)
set_option maxHeartbeats 4000000 in
set_option maxRecDepth 100000 in
theorem zint_Form.sem {w : World} {b1 : Bool} {v1 : Value} {z1 : Int} (m1 : NumV w b1 v1 z1) : Calls Try.prog 32 #[.agg #[.bool b1, v1]] w (ResI w z1) := by
  obtain ⟨A1, n1, c1, rfl⟩ := m1.form
  have Z := Zt.begin1 m1
  go_enter Try.func32, Try.ntmps32
  refine wp_seq ?_
  refine wp_region_list ?_
  refine seq_box Z rfl rfl rfl ?_; clear Z; intro g1 W Z
  (try simp only [Act.put, List.setIfInBounds_toArray, List.set_cons_zero, List.set_cons_succ])
  refine seq_alloc Z rfl rfl ?_; clear Z; intro g2 W Z
  (try simp only [Act.put, List.setIfInBounds_toArray, List.set_cons_zero, List.set_cons_succ])
  show Code.wp _ _ _ _ _
  refine wp_seq ?_
  refine wp_region_list ?_
  refine seq_is (v := .pointer (some ⟨g1, 0, none⟩)) rfl (run_field0 rfl rfl) ?_
  (try simp only [Act.put, List.setIfInBounds_toArray, List.set_cons_zero, List.set_cons_succ])
  refine seq_is (v := .bool (b1)) rfl (run_loadN rfl rfl (Z.bx 1 rfl)) ?_
  (try simp only [Act.put, List.setIfInBounds_toArray, List.set_cons_zero, List.set_cons_succ])
  refine seq_is (v := .pointer (some ⟨g1, 1, none⟩)) rfl (run_field1 rfl rfl) ?_
  (try simp only [Act.put, List.setIfInBounds_toArray, List.set_cons_zero, List.set_cons_succ])
  refine seq_is (v := .slice A1 n1 c1) rfl (run_loadM rfl rfl (Z.bx 1 rfl)) ?_
  (try simp only [Act.put, List.setIfInBounds_toArray, List.set_cons_zero, List.set_cons_succ])
  refine seq_call Z rfl rfl Try.func69 rfl rfl (args2 rfl rfl) (Z.callI (zint_made.res (Z.num 0 rfl).mag)) ?_; clear Z; intro x3 W Z
  (try simp only [Act.put, List.setIfInBounds_toArray, List.set_cons_zero, List.set_cons_succ])
  refine seq_store Z 0 rfl rfl rfl rfl rfl ?_; clear Z; intro W Z
  (try simp only [Act.put, List.setIfInBounds_toArray, List.set_cons_zero, List.set_cons_succ])
  show Code.wp _ _ _ _ _
  refine wp_ret ?_
  exact Z.ends1 0 0 rfl rfl rfl rfl rfl (by exact form_law m1)
set_option maxHeartbeats 4000000 in
set_option maxRecDepth 100000 in
theorem zint_Gcd.sem {w : World} {b1 : Bool} {v1 : Value} {z1 : Int} {b2 : Bool} {v2 : Value} {z2 : Int} (m1 : NumV w b1 v1 z1) (m2 : NumV w b2 v2 z2) (hf0 : Fm (gcdI (((z1).natAbs : Nat)) (((z2).natAbs : Nat)))) : Calls Try.prog 57 #[.agg #[.bool b1, v1], .agg #[.bool b2, v2]] w (ResI w (gcdI ((z1.natAbs : Nat)) ((z2.natAbs : Nat)))) := by
  obtain ⟨A1, n1, c1, rfl⟩ := m1.form
  obtain ⟨A2, n2, c2, rfl⟩ := m2.form
  have Z := Zt.begin2 m1 m2
  go_enter Try.func57, Try.ntmps57
  refine wp_seq ?_
  refine wp_region_list ?_
  refine seq_box Z rfl rfl rfl ?_; clear Z; intro g1 W Z
  (try simp only [Act.put, List.setIfInBounds_toArray, List.set_cons_zero, List.set_cons_succ])
  refine seq_box Z rfl rfl rfl ?_; clear Z; intro g2 W Z
  (try simp only [Act.put, List.setIfInBounds_toArray, List.set_cons_zero, List.set_cons_succ])
  refine seq_alloc Z rfl rfl ?_; clear Z; intro g3 W Z
  (try simp only [Act.put, List.setIfInBounds_toArray, List.set_cons_zero, List.set_cons_succ])
  show Code.wp _ _ _ _ _
  refine wp_seq ?_
  refine wp_region_list ?_
  refine seq_is (v := .pointer (some ⟨g1, 1, none⟩)) rfl (run_field1 rfl rfl) ?_
  (try simp only [Act.put, List.setIfInBounds_toArray, List.set_cons_zero, List.set_cons_succ])
  refine seq_is (v := .slice A1 n1 c1) rfl (run_loadM rfl rfl (Z.bx 2 rfl)) ?_
  (try simp only [Act.put, List.setIfInBounds_toArray, List.set_cons_zero, List.set_cons_succ])
  refine seq_is (v := .pointer (some ⟨g2, 1, none⟩)) rfl (run_field1 rfl rfl) ?_
  (try simp only [Act.put, List.setIfInBounds_toArray, List.set_cons_zero, List.set_cons_succ])
  refine seq_is (v := .slice A2 n2 c2) rfl (run_loadM rfl rfl (Z.bx 1 rfl)) ?_
  (try simp only [Act.put, List.setIfInBounds_toArray, List.set_cons_zero, List.set_cons_succ])
  refine seq_call Z rfl rfl Try.func93 rfl rfl (args2 rfl rfl) (Z.callM (nat_Gcd.sem (Z.num 0 rfl).mag (Z.num 1 rfl).mag)) ?_; clear Z; intro x4 W Z
  (try simp only [Act.put, List.setIfInBounds_toArray, List.set_cons_zero, List.set_cons_succ])
  refine seq_call Z rfl rfl Try.func69 rfl rfl (args2 rfl rfl) (Z.callI (zint_made.res (Z.ownM 0 rfl (gcdI_nn _ _) hf0))) ?_; clear Z; intro x5 W Z
  (try simp only [Act.put, List.setIfInBounds_toArray, List.set_cons_zero, List.set_cons_succ])
  refine seq_store Z 0 rfl rfl rfl rfl rfl ?_; clear Z; intro W Z
  (try simp only [Act.put, List.setIfInBounds_toArray, List.set_cons_zero, List.set_cons_succ])
  show Code.wp _ _ _ _ _
  refine wp_ret ?_
  exact Z.ends1 0 0 rfl rfl rfl rfl rfl (by rfl)
set_option maxHeartbeats 4000000 in
set_option maxRecDepth 100000 in
theorem zint_Mul.sem {w : World} {b1 : Bool} {v1 : Value} {z1 : Int} {b2 : Bool} {v2 : Value} {z2 : Int} (m1 : NumV w b1 v1 z1) (m2 : NumV w b2 v2 z2) (hf0 : Fm (((z1).natAbs : Nat) * ((z2).natAbs : Nat))) : Calls Try.prog 23 #[.agg #[.bool b1, v1], .agg #[.bool b2, v2]] w (ResI w (z1 * z2)) := by
  obtain ⟨A1, n1, c1, rfl⟩ := m1.form
  obtain ⟨A2, n2, c2, rfl⟩ := m2.form
  have Z := Zt.begin2 m1 m2
  go_enter Try.func23, Try.ntmps23
  refine wp_seq ?_
  refine wp_region_list ?_
  refine seq_box Z rfl rfl rfl ?_; clear Z; intro g1 W Z
  (try simp only [Act.put, List.setIfInBounds_toArray, List.set_cons_zero, List.set_cons_succ])
  refine seq_box Z rfl rfl rfl ?_; clear Z; intro g2 W Z
  (try simp only [Act.put, List.setIfInBounds_toArray, List.set_cons_zero, List.set_cons_succ])
  refine seq_alloc Z rfl rfl ?_; clear Z; intro g3 W Z
  (try simp only [Act.put, List.setIfInBounds_toArray, List.set_cons_zero, List.set_cons_succ])
  show Code.wp _ _ _ _ _
  refine wp_seq ?_
  refine wp_dag (pre := [_, _, _, _, _, _, _, _, _, _, _]) (sps := [.is (.pointer (some ⟨g1, 0, none⟩)), .is (.bool (b1)), .is (.pointer (some ⟨g2, 0, none⟩)), .is (.bool (b2)), .is (.bool ((b1) != (b2))), .is (.pointer (some ⟨g1, 1, none⟩)), .is (.slice A1 n1 c1), .is (.pointer (some ⟨g2, 1, none⟩)), .is (.slice A2 n2 c2), spM w (((z1).natAbs : Nat) * ((z2).natAbs : Nat)), spI w (zof ((b1) != (b2)) (((z1).natAbs : Nat) * ((z2).natAbs : Nat)))]) Z (by kernel_rfl) _ rfl (by kernel_rfl) (by kernel_rfl) rfl ⟨?_, ?_, ?_, ?_, ?_, ?_, ?_, ?_, ?_, ?_, ?_, trivial⟩ ?_
  · intro a e4 W Q Z; exact step_is (fun _ h => op_plain rfl rfl h) (run_field0 rfl (ev e4))
  · intro a x6 e7 W Q Z; exact step_is (fun _ h => op_plain rfl rfl h) (run_loadN rfl (ev e7) (Z.bx 2 rfl))
  · intro a e9 W Q Z; exact step_is (fun _ h => op_plain rfl rfl h) (run_field0 rfl (ev e9))
  · intro a x11 e12 W Q Z; exact step_is (fun _ h => op_plain rfl rfl h) (run_loadN rfl (ev e12) (Z.bx 1 rfl))
  · intro a x14 e15 x16 e17 W Q Z; exact step_is (fun _ h => op_plain rfl rfl h) (run_neqB rfl (ev e15) (ev e17))
  · intro a e19 W Q Z; exact step_is (fun _ h => op_plain rfl rfl h) (run_field1 rfl (ev e19))
  · intro a x21 e22 W Q Z; exact step_is (fun _ h => op_plain rfl rfl h) (run_loadM rfl (ev e22) (Z.bx 2 rfl))
  · intro a e24 W Q Z; exact step_is (fun _ h => op_plain rfl rfl h) (run_field1 rfl (ev e24))
  · intro a x26 e27 W Q Z; exact step_is (fun _ h => op_plain rfl rfl h) (run_loadM rfl (ev e27) (Z.bx 1 rfl))
  · intro a x29 e30 x31 e32 W Q Z; exact step_call (fun _ h => op_plain rfl rfl h) rfl Try.func77 rfl rfl (args2 (ev e30) (ev e32)) (Z.callM (nat_Mul.sem (Z.num 0 rfl).mag (Z.num 1 rfl).mag))
  · intro a x34 e35 x36 e37 W Q Z; exact step_call (fun _ h => op_plain rfl rfl h) rfl Try.func69 rfl rfl (args2 (ev e35) (ev e37)) (Z.callI (zint_made.res (Z.ownM 0 rfl (nn_mul _ _) hf0)))
  clear Z; intro x5 x8 x10 x13 x18 x20 x23 x25 x28 x33 x38 W Z
  (try simp only [Act.put, List.setIfInBounds_toArray, List.set_cons_zero, List.set_cons_succ])
  refine seq_store Z 0 rfl rfl rfl rfl rfl ?_; clear Z; intro W Z
  (try simp only [Act.put, List.setIfInBounds_toArray, List.set_cons_zero, List.set_cons_succ])
  show Code.wp _ _ _ _ _
  refine wp_ret ?_
  exact Z.ends1 0 0 rfl rfl rfl rfl rfl (by exact mul_law m1 m2)
set_option maxHeartbeats 4000000 in
set_option maxRecDepth 100000 in
theorem zint_Add.sem {w : World} {b1 : Bool} {v1 : Value} {z1 : Int} {b2 : Bool} {v2 : Value} {z2 : Int} (m1 : NumV w b1 v1 z1) (m2 : NumV w b2 v2 z2) (hf0 : Fm (((z1).natAbs : Nat) + ((z2).natAbs : Nat))) (hf1 : Fm (((z2).natAbs : Nat) - ((z1).natAbs : Nat))) (hf2 : Fm (((z1).natAbs : Nat) - ((z2).natAbs : Nat))) : Calls Try.prog 19 #[.agg #[.bool b1, v1], .agg #[.bool b2, v2]] w (ResI w (z1 + z2)) := by
  obtain ⟨A1, n1, c1, rfl⟩ := m1.form
  obtain ⟨A2, n2, c2, rfl⟩ := m2.form
  have Z := Zt.begin2 m1 m2
  go_enter Try.func19, Try.ntmps19
  refine wp_seq ?_
  refine wp_region_list ?_
  refine seq_box Z rfl rfl rfl ?_; clear Z; intro g1 W Z
  (try simp only [Act.put, List.setIfInBounds_toArray, List.set_cons_zero, List.set_cons_succ])
  refine seq_box Z rfl rfl rfl ?_; clear Z; intro g2 W Z
  (try simp only [Act.put, List.setIfInBounds_toArray, List.set_cons_zero, List.set_cons_succ])
  refine seq_alloc Z rfl rfl ?_; clear Z; intro g3 W Z
  (try simp only [Act.put, List.setIfInBounds_toArray, List.set_cons_zero, List.set_cons_succ])
  show Code.wp _ _ _ _ _
  refine wp_seq ?_
  refine wp_seq ?_
  refine wp_region_list ?_
  refine seq_is (v := .pointer (some ⟨g1, 0, none⟩)) rfl (run_field0 rfl rfl) ?_
  (try simp only [Act.put, List.setIfInBounds_toArray, List.set_cons_zero, List.set_cons_succ])
  refine seq_is (v := .bool (b1)) rfl (run_loadN rfl rfl (Z.bx 2 rfl)) ?_
  (try simp only [Act.put, List.setIfInBounds_toArray, List.set_cons_zero, List.set_cons_succ])
  refine seq_is (v := .pointer (some ⟨g2, 0, none⟩)) rfl (run_field0 rfl rfl) ?_
  (try simp only [Act.put, List.setIfInBounds_toArray, List.set_cons_zero, List.set_cons_succ])
  refine seq_is (v := .bool (b2)) rfl (run_loadN rfl rfl (Z.bx 1 rfl)) ?_
  (try simp only [Act.put, List.setIfInBounds_toArray, List.set_cons_zero, List.set_cons_succ])
  refine seq_is (v := .bool ((b1) == (b2))) rfl (run_eqlB rfl rfl rfl) ?_
  (try simp only [Act.put, List.setIfInBounds_toArray, List.set_cons_zero, List.set_cons_succ])
  show Code.wp _ _ _ _ _
  refine wp_cond_split (t := (b1) == (b2)) rfl ?_ ?_
  · intro hc4
    refine wp_seq ?_
    refine wp_dag (pre := [_, _, _, _, _, _, _, _]) (sps := [.is (.pointer (some ⟨g1, 0, none⟩)), .is (.bool (b1)), .is (.pointer (some ⟨g1, 1, none⟩)), .is (.slice A1 n1 c1), .is (.pointer (some ⟨g2, 1, none⟩)), .is (.slice A2 n2 c2), spM w (((z1).natAbs : Nat) + ((z2).natAbs : Nat)), spI w (zof (b1) (((z1).natAbs : Nat) + ((z2).natAbs : Nat)))]) Z (by kernel_rfl) _ rfl (by kernel_rfl) (by kernel_rfl) rfl ⟨?_, ?_, ?_, ?_, ?_, ?_, ?_, ?_, trivial⟩ ?_
    · intro a e5 W Q Z; exact step_is (fun _ h => op_plain rfl rfl h) (run_field0 rfl (ev e5))
    · intro a x7 e8 W Q Z; exact step_is (fun _ h => op_plain rfl rfl h) (run_loadN rfl (ev e8) (Z.bx 2 rfl))
    · intro a e10 W Q Z; exact step_is (fun _ h => op_plain rfl rfl h) (run_field1 rfl (ev e10))
    · intro a x12 e13 W Q Z; exact step_is (fun _ h => op_plain rfl rfl h) (run_loadM rfl (ev e13) (Z.bx 2 rfl))
    · intro a e15 W Q Z; exact step_is (fun _ h => op_plain rfl rfl h) (run_field1 rfl (ev e15))
    · intro a x17 e18 W Q Z; exact step_is (fun _ h => op_plain rfl rfl h) (run_loadM rfl (ev e18) (Z.bx 1 rfl))
    · intro a x20 e21 x22 e23 W Q Z; exact step_call (fun _ h => op_plain rfl rfl h) rfl Try.func70 rfl rfl (args2 (ev e21) (ev e23)) (Z.callM (nat_Add.sem (Z.num 0 rfl).mag (Z.num 1 rfl).mag))
    · intro a x25 e26 x27 e28 W Q Z; exact step_call (fun _ h => op_plain rfl rfl h) rfl Try.func69 rfl rfl (args2 (ev e26) (ev e28)) (Z.callI (zint_made.res (Z.ownM 0 rfl (by omega) hf0)))
    clear Z; intro x6 x9 x11 x14 x16 x19 x24 x29 W Z
    (try simp only [Act.put, List.setIfInBounds_toArray, List.set_cons_zero, List.set_cons_succ])
    refine seq_store Z 0 rfl rfl rfl rfl rfl ?_; clear Z; intro W Z
    (try simp only [Act.put, List.setIfInBounds_toArray, List.set_cons_zero, List.set_cons_succ])
    show Code.wp _ _ _ _ _
    refine wp_ret ?_
    exact Z.ends1 0 0 rfl rfl rfl rfl rfl (by exact add_same m1 m2 hc4)
  · intro hc4
    refine wp_skip ?_
    show Code.wp _ _ _ _ _
    refine wp_seq ?_
    refine wp_seq ?_
    refine wp_region_list ?_
    refine seq_is (v := .pointer (some ⟨g1, 1, none⟩)) rfl (run_field1 rfl rfl) ?_
    (try simp only [Act.put, List.setIfInBounds_toArray, List.set_cons_zero, List.set_cons_succ])
    refine seq_is (v := .slice A1 n1 c1) rfl (run_loadM rfl rfl (Z.bx 2 rfl)) ?_
    (try simp only [Act.put, List.setIfInBounds_toArray, List.set_cons_zero, List.set_cons_succ])
    refine seq_is (v := .pointer (some ⟨g2, 1, none⟩)) rfl (run_field1 rfl rfl) ?_
    (try simp only [Act.put, List.setIfInBounds_toArray, List.set_cons_zero, List.set_cons_succ])
    refine seq_is (v := .slice A2 n2 c2) rfl (run_loadM rfl rfl (Z.bx 1 rfl)) ?_
    (try simp only [Act.put, List.setIfInBounds_toArray, List.set_cons_zero, List.set_cons_succ])
    refine seq_call Z rfl rfl Try.func71 rfl rfl (args2 rfl rfl) (Z.callV (nat_Cmp.sem (Z.num 0 rfl).mag (Z.num 1 rfl).mag)) ?_; clear Z; intro x30 W Z
    (try simp only [Act.put, List.setIfInBounds_toArray, List.set_cons_zero, List.set_cons_succ])
    refine seq_is (v := .bool (decide ((cmp (((z1).natAbs : Nat)) (((z2).natAbs : Nat))) < (0)))) rfl (run_lss rfl rfl rfl) ?_
    (try simp only [Act.put, List.setIfInBounds_toArray, List.set_cons_zero, List.set_cons_succ])
    show Code.wp _ _ _ _ _
    refine wp_cond_split (t := decide ((cmp (((z1).natAbs : Nat)) (((z2).natAbs : Nat))) < (0))) rfl ?_ ?_
    · intro hc31
      refine wp_region_list ?_
      refine seq_is (v := .agg #[.bool (b2), .slice A2 n2 c2]) rfl (run_load2 rfl rfl (Z.bx 1 rfl)) ?_
      (try simp only [Act.put, List.setIfInBounds_toArray, List.set_cons_zero, List.set_cons_succ])
      refine seq_is (v := .agg #[.bool (b1), .slice A1 n1 c1]) rfl (run_load2 rfl rfl (Z.bx 2 rfl)) ?_
      (try simp only [Act.put, List.setIfInBounds_toArray, List.set_cons_zero, List.set_cons_succ])
      refine seq_store Z 2 rfl rfl rfl rfl rfl ?_; clear Z; intro W Z
      (try simp only [Act.put, List.setIfInBounds_toArray, List.set_cons_zero, List.set_cons_succ])
      refine seq_store Z 1 rfl rfl rfl rfl rfl ?_; clear Z; intro W Z
      (try simp only [Act.put, List.setIfInBounds_toArray, List.set_cons_zero, List.set_cons_succ])
      show Code.wp _ _ _ _ _
      refine wp_seq ?_
      refine wp_region_list ?_
      refine seq_is (v := .pointer (some ⟨g1, 1, none⟩)) rfl (run_field1 rfl rfl) ?_
      (try simp only [Act.put, List.setIfInBounds_toArray, List.set_cons_zero, List.set_cons_succ])
      refine seq_is (v := .slice A2 n2 c2) rfl (run_loadM rfl rfl (Z.bx 2 rfl)) ?_
      (try simp only [Act.put, List.setIfInBounds_toArray, List.set_cons_zero, List.set_cons_succ])
      refine seq_is (v := .pointer (some ⟨g2, 1, none⟩)) rfl (run_field1 rfl rfl) ?_
      (try simp only [Act.put, List.setIfInBounds_toArray, List.set_cons_zero, List.set_cons_succ])
      refine seq_is (v := .slice A1 n1 c1) rfl (run_loadM rfl rfl (Z.bx 1 rfl)) ?_
      (try simp only [Act.put, List.setIfInBounds_toArray, List.set_cons_zero, List.set_cons_succ])
      refine seq_call Z rfl rfl Try.func72 rfl rfl (args2 rfl rfl) (Z.callMi (nat_Sub.sem (Z.num 1 rfl).mag (Z.num 0 rfl).mag (zc_le hc31))) ?_; clear Z; intro x32 W Z
      (try simp only [Act.put, List.setIfInBounds_toArray, List.set_cons_zero, List.set_cons_succ])
      refine seq_is (v := .tuple #[x32.v, .int .i64 (0)]) rfl (run_move rfl rfl) ?_
      (try simp only [Act.put, List.setIfInBounds_toArray, List.set_cons_zero, List.set_cons_succ])
      refine seq_is (v := x32.v) rfl (run_extract rfl rfl rfl) ?_
      (try simp only [Act.put, List.setIfInBounds_toArray, List.set_cons_zero, List.set_cons_succ])
      refine seq_is (v := .int .i64 (0)) rfl (run_extract rfl rfl rfl) ?_
      (try simp only [Act.put, List.setIfInBounds_toArray, List.set_cons_zero, List.set_cons_succ])
      refine seq_is (v := x32.v) rfl (run_assign rfl rfl) ?_
      (try simp only [Act.put, List.setIfInBounds_toArray, List.set_cons_zero, List.set_cons_succ])
      refine seq_is (v := .int .i64 (0)) rfl (run_assign rfl rfl) ?_
      (try simp only [Act.put, List.setIfInBounds_toArray, List.set_cons_zero, List.set_cons_succ])
      show Code.wp _ _ _ _ _
      refine wp_seq ?_
      refine wp_region_list ?_
      refine seq_is (v := .pointer (some ⟨g1, 0, none⟩)) rfl (run_field0 rfl rfl) ?_
      (try simp only [Act.put, List.setIfInBounds_toArray, List.set_cons_zero, List.set_cons_succ])
      refine seq_is (v := .bool (b2)) rfl (run_loadN rfl rfl (Z.bx 2 rfl)) ?_
      (try simp only [Act.put, List.setIfInBounds_toArray, List.set_cons_zero, List.set_cons_succ])
      refine seq_is (v := x32.v) rfl (run_move rfl rfl) ?_
      (try simp only [Act.put, List.setIfInBounds_toArray, List.set_cons_zero, List.set_cons_succ])
      refine seq_call Z rfl rfl Try.func69 rfl rfl (args2 rfl rfl) (Z.callI (zint_made.res (Z.ownM 0 rfl (by have := (zc_le hc31); omega) hf1))) ?_; clear Z; intro x33 W Z
      (try simp only [Act.put, List.setIfInBounds_toArray, List.set_cons_zero, List.set_cons_succ])
      refine seq_store Z 0 rfl rfl rfl rfl rfl ?_; clear Z; intro W Z
      (try simp only [Act.put, List.setIfInBounds_toArray, List.set_cons_zero, List.set_cons_succ])
      show Code.wp _ _ _ _ _
      refine wp_ret ?_
      exact Z.ends1 0 0 rfl rfl rfl rfl rfl (by exact add_swap m1 m2 hc4)
    · intro hc31
      refine wp_skip ?_
      show Code.wp _ _ _ _ _
      refine wp_seq ?_
      refine wp_region_list ?_
      refine seq_is (v := .pointer (some ⟨g1, 1, none⟩)) rfl (run_field1 rfl rfl) ?_
      (try simp only [Act.put, List.setIfInBounds_toArray, List.set_cons_zero, List.set_cons_succ])
      refine seq_is (v := .slice A1 n1 c1) rfl (run_loadM rfl rfl (Z.bx 2 rfl)) ?_
      (try simp only [Act.put, List.setIfInBounds_toArray, List.set_cons_zero, List.set_cons_succ])
      refine seq_is (v := .pointer (some ⟨g2, 1, none⟩)) rfl (run_field1 rfl rfl) ?_
      (try simp only [Act.put, List.setIfInBounds_toArray, List.set_cons_zero, List.set_cons_succ])
      refine seq_is (v := .slice A2 n2 c2) rfl (run_loadM rfl rfl (Z.bx 1 rfl)) ?_
      (try simp only [Act.put, List.setIfInBounds_toArray, List.set_cons_zero, List.set_cons_succ])
      refine seq_call Z rfl rfl Try.func72 rfl rfl (args2 rfl rfl) (Z.callMi (nat_Sub.sem (Z.num 0 rfl).mag (Z.num 1 rfl).mag (zc_ge hc31))) ?_; clear Z; intro x34 W Z
      (try simp only [Act.put, List.setIfInBounds_toArray, List.set_cons_zero, List.set_cons_succ])
      refine seq_is (v := .tuple #[x34.v, .int .i64 (0)]) rfl (run_move rfl rfl) ?_
      (try simp only [Act.put, List.setIfInBounds_toArray, List.set_cons_zero, List.set_cons_succ])
      refine seq_is (v := x34.v) rfl (run_extract rfl rfl rfl) ?_
      (try simp only [Act.put, List.setIfInBounds_toArray, List.set_cons_zero, List.set_cons_succ])
      refine seq_is (v := .int .i64 (0)) rfl (run_extract rfl rfl rfl) ?_
      (try simp only [Act.put, List.setIfInBounds_toArray, List.set_cons_zero, List.set_cons_succ])
      refine seq_is (v := x34.v) rfl (run_assign rfl rfl) ?_
      (try simp only [Act.put, List.setIfInBounds_toArray, List.set_cons_zero, List.set_cons_succ])
      refine seq_is (v := .int .i64 (0)) rfl (run_assign rfl rfl) ?_
      (try simp only [Act.put, List.setIfInBounds_toArray, List.set_cons_zero, List.set_cons_succ])
      show Code.wp _ _ _ _ _
      refine wp_seq ?_
      refine wp_region_list ?_
      refine seq_is (v := .pointer (some ⟨g1, 0, none⟩)) rfl (run_field0 rfl rfl) ?_
      (try simp only [Act.put, List.setIfInBounds_toArray, List.set_cons_zero, List.set_cons_succ])
      refine seq_is (v := .bool (b1)) rfl (run_loadN rfl rfl (Z.bx 2 rfl)) ?_
      (try simp only [Act.put, List.setIfInBounds_toArray, List.set_cons_zero, List.set_cons_succ])
      refine seq_is (v := x34.v) rfl (run_move rfl rfl) ?_
      (try simp only [Act.put, List.setIfInBounds_toArray, List.set_cons_zero, List.set_cons_succ])
      refine seq_call Z rfl rfl Try.func69 rfl rfl (args2 rfl rfl) (Z.callI (zint_made.res (Z.ownM 0 rfl (by have := (zc_ge hc31); omega) hf2))) ?_; clear Z; intro x35 W Z
      (try simp only [Act.put, List.setIfInBounds_toArray, List.set_cons_zero, List.set_cons_succ])
      refine seq_store Z 0 rfl rfl rfl rfl rfl ?_; clear Z; intro W Z
      (try simp only [Act.put, List.setIfInBounds_toArray, List.set_cons_zero, List.set_cons_succ])
      show Code.wp _ _ _ _ _
      refine wp_ret ?_
      exact Z.ends1 0 0 rfl rfl rfl rfl rfl (by exact add_diff m1 m2 hc4)
set_option maxHeartbeats 4000000 in
set_option maxRecDepth 100000 in
theorem zint_Sign.sem {w : World} {b1 : Bool} {v1 : Value} {z1 : Int} (m1 : NumV w b1 v1 z1) : Calls Try.prog 36 #[.agg #[.bool b1, v1]] w (RetV w (.int .i64 z1.sign)) := by
  obtain ⟨A1, n1, c1, rfl⟩ := m1.form
  have Z := Zt.begin1 m1
  go_enter Try.func36, Try.ntmps36
  refine wp_seq ?_
  refine wp_region_list ?_
  refine seq_box Z rfl rfl rfl ?_; clear Z; intro g1 W Z
  (try simp only [Act.put, List.setIfInBounds_toArray, List.set_cons_zero, List.set_cons_succ])
  refine seq_is (v := .int .i64 (0)) rfl (run_assign rfl rfl) ?_
  (try simp only [Act.put, List.setIfInBounds_toArray, List.set_cons_zero, List.set_cons_succ])
  show Code.wp _ _ _ _ _
  refine wp_seq ?_
  refine wp_block ?_
  refine wp_seq ?_
  refine wp_region_list ?_
  refine seq_is (v := .pointer (some ⟨g1, 1, none⟩)) rfl (run_field1 rfl rfl) ?_
  (try simp only [Act.put, List.setIfInBounds_toArray, List.set_cons_zero, List.set_cons_succ])
  refine seq_is (v := .slice A1 n1 c1) rfl (run_loadM rfl rfl (Z.bx 0 rfl)) ?_
  (try simp only [Act.put, List.setIfInBounds_toArray, List.set_cons_zero, List.set_cons_succ])
  refine seq_call Z rfl rfl Try.func81 rfl rfl (args1 rfl) (Z.callV (nat_Bits.sem (Z.num 0 rfl).mag)) ?_; clear Z; intro x2 W Z
  (try simp only [Act.put, List.setIfInBounds_toArray, List.set_cons_zero, List.set_cons_succ])
  refine seq_is (v := .bool (decide ((((bl (((z1).natAbs : Nat) : Int).toNat : Nat) : Int)) = (0)))) rfl (run_eql rfl rfl rfl) ?_
  (try simp only [Act.put, List.setIfInBounds_toArray, List.set_cons_zero, List.set_cons_succ])
  refine seq_is (v := .bool (decide ((((bl (((z1).natAbs : Nat) : Int).toNat : Nat) : Int)) = (0)))) rfl (run_assign rfl rfl) ?_
  (try simp only [Act.put, List.setIfInBounds_toArray, List.set_cons_zero, List.set_cons_succ])
  show Code.wp _ _ _ _ _
  refine wp_cond_split (t := decide ((((bl (((z1).natAbs : Nat) : Int).toNat : Nat) : Int)) = (0))) rfl ?_ ?_
  · intro hc3
    refine wp_seq ?_
    refine wp_region_list ?_
    refine seq_is (v := .int .i64 (0)) rfl (run_assign rfl rfl) ?_
    (try simp only [Act.put, List.setIfInBounds_toArray, List.set_cons_zero, List.set_cons_succ])
    show Code.wp _ _ _ _ _
    refine wp_ret ?_
    exact Z.endsV (u := .int .i64 (0)) rfl rfl rfl (by exact sgn0 (bl_abs.mp (of_decide_eq_true hc3)))
  · intro hc3
    refine wp_seq ?_
    refine wp_region_list ?_
    refine seq_is (v := .pointer (some ⟨g1, 0, none⟩)) rfl (run_field0 rfl rfl) ?_
    (try simp only [Act.put, List.setIfInBounds_toArray, List.set_cons_zero, List.set_cons_succ])
    refine seq_is (v := .bool (b1)) rfl (run_loadN rfl rfl (Z.bx 0 rfl)) ?_
    (try simp only [Act.put, List.setIfInBounds_toArray, List.set_cons_zero, List.set_cons_succ])
    refine seq_is (v := .bool (b1)) rfl (run_assign rfl rfl) ?_
    (try simp only [Act.put, List.setIfInBounds_toArray, List.set_cons_zero, List.set_cons_succ])
    show Code.wp _ _ _ _ _
    refine wp_cond_split (t := b1) rfl ?_ ?_
    · intro hc4
      refine wp_seq ?_
      refine wp_region_list ?_
      refine seq_is (v := .int .i64 (-1)) rfl (run_assign rfl rfl) ?_
      (try simp only [Act.put, List.setIfInBounds_toArray, List.set_cons_zero, List.set_cons_succ])
      show Code.wp _ _ _ _ _
      refine wp_ret ?_
      exact Z.endsV (u := .int .i64 (-1)) rfl rfl rfl (by exact sgnN (m1.negOf (fun h => of_decide_eq_false hc3 (bl_abs.mpr h)) hc4))
    · intro hc4
      refine wp_skip ?_
      show Code.wp _ _ _ _ _
      refine wp_seq ?_
      refine wp_region_list ?_
      refine seq_is (v := .int .i64 (1)) rfl (run_assign rfl rfl) ?_
      (try simp only [Act.put, List.setIfInBounds_toArray, List.set_cons_zero, List.set_cons_succ])
      show Code.wp _ _ _ _ _
      refine wp_ret ?_
      exact Z.endsV (u := .int .i64 (1)) rfl rfl rfl (by exact sgnP (m1.posOf (fun h => of_decide_eq_false hc3 (bl_abs.mpr h)) hc4))
set_option maxHeartbeats 4000000 in
set_option maxRecDepth 100000 in
theorem zint_Bits.sem {w : World} {b1 : Bool} {v1 : Value} {z1 : Int} (m1 : NumV w b1 v1 z1) : Calls Try.prog 47 #[.agg #[.bool b1, v1]] w (RetV w (.int .i64 ((bl (((z1).natAbs : Nat) : Int).toNat : Nat) : Int))) := by
  obtain ⟨A1, n1, c1, rfl⟩ := m1.form
  have Z := Zt.begin1 m1
  go_enter Try.func47, Try.ntmps47
  refine wp_seq ?_
  refine wp_region_list ?_
  refine seq_box Z rfl rfl rfl ?_; clear Z; intro g1 W Z
  (try simp only [Act.put, List.setIfInBounds_toArray, List.set_cons_zero, List.set_cons_succ])
  refine seq_is (v := .int .i64 (0)) rfl (run_assign rfl rfl) ?_
  (try simp only [Act.put, List.setIfInBounds_toArray, List.set_cons_zero, List.set_cons_succ])
  show Code.wp _ _ _ _ _
  refine wp_seq ?_
  refine wp_region_list ?_
  refine seq_is (v := .pointer (some ⟨g1, 1, none⟩)) rfl (run_field1 rfl rfl) ?_
  (try simp only [Act.put, List.setIfInBounds_toArray, List.set_cons_zero, List.set_cons_succ])
  refine seq_is (v := .slice A1 n1 c1) rfl (run_loadM rfl rfl (Z.bx 0 rfl)) ?_
  (try simp only [Act.put, List.setIfInBounds_toArray, List.set_cons_zero, List.set_cons_succ])
  refine seq_call Z rfl rfl Try.func81 rfl rfl (args1 rfl) (Z.callV (nat_Bits.sem (Z.num 0 rfl).mag)) ?_; clear Z; intro x2 W Z
  (try simp only [Act.put, List.setIfInBounds_toArray, List.set_cons_zero, List.set_cons_succ])
  refine seq_is (v := .int .i64 (((bl (((z1).natAbs : Nat) : Int).toNat : Nat) : Int))) rfl (run_assign rfl rfl) ?_
  (try simp only [Act.put, List.setIfInBounds_toArray, List.set_cons_zero, List.set_cons_succ])
  show Code.wp _ _ _ _ _
  refine wp_ret ?_
  exact Z.endsV (u := .int .i64 (((bl (((z1).natAbs : Nat) : Int).toNat : Nat) : Int))) rfl rfl rfl (by rfl)
end Go.Proofs.Ytmbmbmkmjbpcpaa.PA


/- Walks of the smaller functions of trammelref02. -/
namespace Go.Proofs.Ytmbmbmkmjbpcpaa.PA
open Go Go.Proofs.Ytmbmbmkmjbpcpaa.Nums Go.RowKit Go.Proofs.YtmbmbmkmjbpcpaaW.PrintWords Go.Proofs.YtmbmbmkmjbpcpaaW.PrintLast Go.Proofs.YtmbmbmkmjbpcpaaW.PrintMore
set_option linter.unusedVariables false
set_option linter.unusedSimpArgs false
set_option maxHeartbeats 4000000 in
set_option maxRecDepth 100000 in
theorem trammelref02_Abs.sem {w : World} {b1 : Bool} {v1 : Value} {z1 : Int} (m1 : NumV w b1 v1 z1) : Calls Try.prog 28 #[.agg #[.bool b1, v1]] w (ResI w ((z1.natAbs : Nat))) := by
  obtain ⟨A1, n1, c1, rfl⟩ := m1.form
  have Z := Zt.begin1 m1
  go_enter Try.func28, Try.ntmps28
  refine wp_seq ?_
  refine wp_region_list ?_
  refine seq_box Z rfl rfl rfl ?_; clear Z; intro g1 W Z
  (try simp only [Act.put, List.setIfInBounds_toArray, List.set_cons_zero, List.set_cons_succ])
  refine seq_alloc Z rfl rfl ?_; clear Z; intro g2 W Z
  (try simp only [Act.put, List.setIfInBounds_toArray, List.set_cons_zero, List.set_cons_succ])
  show Code.wp _ _ _ _ _
  refine wp_seq ?_
  refine wp_region_list ?_
  refine seq_is (v := .pointer (some ⟨g1, 1, none⟩)) rfl (run_field1 rfl rfl) ?_
  (try simp only [Act.put, List.setIfInBounds_toArray, List.set_cons_zero, List.set_cons_succ])
  refine seq_is (v := .slice A1 n1 c1) rfl (run_loadM rfl rfl (Z.bx 1 rfl)) ?_
  (try simp only [Act.put, List.setIfInBounds_toArray, List.set_cons_zero, List.set_cons_succ])
  refine seq_call Z rfl rfl Try.func73 rfl rfl (args2 rfl rfl) (Z.callI (trammelref02_made.res (Z.num 0 rfl).mag)) ?_; clear Z; intro x3 W Z
  (try simp only [Act.put, List.setIfInBounds_toArray, List.set_cons_zero, List.set_cons_succ])
  refine seq_store Z 0 rfl rfl rfl rfl rfl ?_; clear Z; intro W Z
  (try simp only [Act.put, List.setIfInBounds_toArray, List.set_cons_zero, List.set_cons_succ])
  show Code.wp _ _ _ _ _
  refine wp_ret ?_
  exact Z.ends1 0 0 rfl rfl rfl rfl rfl (by rfl)
set_option maxHeartbeats 4000000 in
set_option maxRecDepth 100000 in
theorem trammelref02_Norm.sem {w : World} {b1 : Bool} {v1 : Value} {z1 : Int} (m1 : NumV w b1 v1 z1) : Calls Try.prog 33 #[.agg #[.bool b1, v1]] w (ResI w z1) := by
  obtain ⟨A1, n1, c1, rfl⟩ := m1.form
  have Z := Zt.begin1 m1
  go_enter Try.func33, Try.ntmps33
  refine wp_seq ?_
  refine wp_region_list ?_
  refine seq_box Z rfl rfl rfl ?_; clear Z; intro g1 W Z
  (try simp only [Act.put, List.setIfInBounds_toArray, List.set_cons_zero, List.set_cons_succ])
  refine seq_alloc Z rfl rfl ?_; clear Z; intro g2 W Z
  (try simp only [Act.put, List.setIfInBounds_toArray, List.set_cons_zero, List.set_cons_succ])
  show Code.wp _ _ _ _ _
  refine wp_seq ?_
  refine wp_region_list ?_
  refine seq_is (v := .pointer (some ⟨g1, 0, none⟩)) rfl (run_field0 rfl rfl) ?_
  (try simp only [Act.put, List.setIfInBounds_toArray, List.set_cons_zero, List.set_cons_succ])
  refine seq_is (v := .bool (b1)) rfl (run_loadN rfl rfl (Z.bx 1 rfl)) ?_
  (try simp only [Act.put, List.setIfInBounds_toArray, List.set_cons_zero, List.set_cons_succ])
  refine seq_is (v := .pointer (some ⟨g1, 1, none⟩)) rfl (run_field1 rfl rfl) ?_
  (try simp only [Act.put, List.setIfInBounds_toArray, List.set_cons_zero, List.set_cons_succ])
  refine seq_is (v := .slice A1 n1 c1) rfl (run_loadM rfl rfl (Z.bx 1 rfl)) ?_
  (try simp only [Act.put, List.setIfInBounds_toArray, List.set_cons_zero, List.set_cons_succ])
  refine seq_call Z rfl rfl Try.func73 rfl rfl (args2 rfl rfl) (Z.callI (trammelref02_made.res (Z.num 0 rfl).mag)) ?_; clear Z; intro x3 W Z
  (try simp only [Act.put, List.setIfInBounds_toArray, List.set_cons_zero, List.set_cons_succ])
  refine seq_store Z 0 rfl rfl rfl rfl rfl ?_; clear Z; intro W Z
  (try simp only [Act.put, List.setIfInBounds_toArray, List.set_cons_zero, List.set_cons_succ])
  show Code.wp _ _ _ _ _
  refine wp_ret ?_
  exact Z.ends1 0 0 rfl rfl rfl rfl rfl (by exact form_law m1)
set_option maxHeartbeats 4000000 in
set_option maxRecDepth 100000 in
theorem trammelref02_Add.sem {w : World} {b1 : Bool} {v1 : Value} {z1 : Int} {b2 : Bool} {v2 : Value} {z2 : Int} (m1 : NumV w b1 v1 z1) (m2 : NumV w b2 v2 z2) (hf0 : Fm (((z1).natAbs : Nat) + ((z2).natAbs : Nat))) (hf1 : Fm (((z1).natAbs : Nat) - ((z2).natAbs : Nat))) (hf2 : Fm (((z2).natAbs : Nat) - ((z1).natAbs : Nat))) : Calls Try.prog 20 #[.agg #[.bool b1, v1], .agg #[.bool b2, v2]] w (ResI w (z1 + z2)) := by
  obtain ⟨A1, n1, c1, rfl⟩ := m1.form
  obtain ⟨A2, n2, c2, rfl⟩ := m2.form
  have Z := Zt.begin2 m1 m2
  go_enter Try.func20, Try.ntmps20
  refine wp_seq ?_
  refine wp_region_list ?_
  refine seq_box Z rfl rfl rfl ?_; clear Z; intro g1 W Z
  (try simp only [Act.put, List.setIfInBounds_toArray, List.set_cons_zero, List.set_cons_succ])
  refine seq_box Z rfl rfl rfl ?_; clear Z; intro g2 W Z
  (try simp only [Act.put, List.setIfInBounds_toArray, List.set_cons_zero, List.set_cons_succ])
  refine seq_alloc Z rfl rfl ?_; clear Z; intro g3 W Z
  (try simp only [Act.put, List.setIfInBounds_toArray, List.set_cons_zero, List.set_cons_succ])
  show Code.wp _ _ _ _ _
  refine wp_seq ?_
  refine wp_seq ?_
  refine wp_region_list ?_
  refine seq_is (v := .pointer (some ⟨g1, 0, none⟩)) rfl (run_field0 rfl rfl) ?_
  (try simp only [Act.put, List.setIfInBounds_toArray, List.set_cons_zero, List.set_cons_succ])
  refine seq_is (v := .bool (b1)) rfl (run_loadN rfl rfl (Z.bx 2 rfl)) ?_
  (try simp only [Act.put, List.setIfInBounds_toArray, List.set_cons_zero, List.set_cons_succ])
  refine seq_is (v := .pointer (some ⟨g2, 0, none⟩)) rfl (run_field0 rfl rfl) ?_
  (try simp only [Act.put, List.setIfInBounds_toArray, List.set_cons_zero, List.set_cons_succ])
  refine seq_is (v := .bool (b2)) rfl (run_loadN rfl rfl (Z.bx 1 rfl)) ?_
  (try simp only [Act.put, List.setIfInBounds_toArray, List.set_cons_zero, List.set_cons_succ])
  refine seq_is (v := .bool ((b1) == (b2))) rfl (run_eqlB rfl rfl rfl) ?_
  (try simp only [Act.put, List.setIfInBounds_toArray, List.set_cons_zero, List.set_cons_succ])
  show Code.wp _ _ _ _ _
  refine wp_cond_split (t := (b1) == (b2)) rfl ?_ ?_
  · intro hc4
    refine wp_seq ?_
    refine wp_dag (pre := [_, _, _, _, _, _, _, _]) (sps := [.is (.pointer (some ⟨g1, 0, none⟩)), .is (.bool (b1)), .is (.pointer (some ⟨g1, 1, none⟩)), .is (.slice A1 n1 c1), .is (.pointer (some ⟨g2, 1, none⟩)), .is (.slice A2 n2 c2), spM w (((z1).natAbs : Nat) + ((z2).natAbs : Nat)), spI w (zof (b1) (((z1).natAbs : Nat) + ((z2).natAbs : Nat)))]) Z (by kernel_rfl) _ rfl (by kernel_rfl) (by kernel_rfl) rfl ⟨?_, ?_, ?_, ?_, ?_, ?_, ?_, ?_, trivial⟩ ?_
    · intro a e5 W Q Z; exact step_is (fun _ h => op_plain rfl rfl h) (run_field0 rfl (ev e5))
    · intro a x7 e8 W Q Z; exact step_is (fun _ h => op_plain rfl rfl h) (run_loadN rfl (ev e8) (Z.bx 2 rfl))
    · intro a e10 W Q Z; exact step_is (fun _ h => op_plain rfl rfl h) (run_field1 rfl (ev e10))
    · intro a x12 e13 W Q Z; exact step_is (fun _ h => op_plain rfl rfl h) (run_loadM rfl (ev e13) (Z.bx 2 rfl))
    · intro a e15 W Q Z; exact step_is (fun _ h => op_plain rfl rfl h) (run_field1 rfl (ev e15))
    · intro a x17 e18 W Q Z; exact step_is (fun _ h => op_plain rfl rfl h) (run_loadM rfl (ev e18) (Z.bx 1 rfl))
    · intro a x20 e21 x22 e23 W Q Z; exact step_call (fun _ h => op_plain rfl rfl h) rfl Try.func74 rfl rfl (args2 (ev e21) (ev e23)) (Z.callM (trammelref01_Add.sem (Z.num 0 rfl).mag (Z.num 1 rfl).mag))
    · intro a x25 e26 x27 e28 W Q Z; exact step_call (fun _ h => op_plain rfl rfl h) rfl Try.func73 rfl rfl (args2 (ev e26) (ev e28)) (Z.callI (trammelref02_made.res (Z.ownM 0 rfl (by omega) hf0)))
    clear Z; intro x6 x9 x11 x14 x16 x19 x24 x29 W Z
    (try simp only [Act.put, List.setIfInBounds_toArray, List.set_cons_zero, List.set_cons_succ])
    refine seq_store Z 0 rfl rfl rfl rfl rfl ?_; clear Z; intro W Z
    (try simp only [Act.put, List.setIfInBounds_toArray, List.set_cons_zero, List.set_cons_succ])
    show Code.wp _ _ _ _ _
    refine wp_ret ?_
    exact Z.ends1 0 0 rfl rfl rfl rfl rfl (by exact add_same m1 m2 hc4)
  · intro hc4
    refine wp_skip ?_
    show Code.wp _ _ _ _ _
    refine wp_seq ?_
    refine wp_seq ?_
    refine wp_region_list ?_
    refine seq_is (v := .pointer (some ⟨g1, 1, none⟩)) rfl (run_field1 rfl rfl) ?_
    (try simp only [Act.put, List.setIfInBounds_toArray, List.set_cons_zero, List.set_cons_succ])
    refine seq_is (v := .slice A1 n1 c1) rfl (run_loadM rfl rfl (Z.bx 2 rfl)) ?_
    (try simp only [Act.put, List.setIfInBounds_toArray, List.set_cons_zero, List.set_cons_succ])
    refine seq_is (v := .pointer (some ⟨g2, 1, none⟩)) rfl (run_field1 rfl rfl) ?_
    (try simp only [Act.put, List.setIfInBounds_toArray, List.set_cons_zero, List.set_cons_succ])
    refine seq_is (v := .slice A2 n2 c2) rfl (run_loadM rfl rfl (Z.bx 1 rfl)) ?_
    (try simp only [Act.put, List.setIfInBounds_toArray, List.set_cons_zero, List.set_cons_succ])
    refine seq_call Z rfl rfl Try.func75 rfl rfl (args2 rfl rfl) (Z.callV (trammelref01_Cmp.sem (Z.num 0 rfl).mag (Z.num 1 rfl).mag)) ?_; clear Z; intro x30 W Z
    (try simp only [Act.put, List.setIfInBounds_toArray, List.set_cons_zero, List.set_cons_succ])
    refine seq_is (v := .bool (decide ((0) ≤ (cmp (((z1).natAbs : Nat)) (((z2).natAbs : Nat)))))) rfl (run_geq rfl rfl rfl) ?_
    (try simp only [Act.put, List.setIfInBounds_toArray, List.set_cons_zero, List.set_cons_succ])
    show Code.wp _ _ _ _ _
    refine wp_cond_split (t := decide ((0) ≤ (cmp (((z1).natAbs : Nat)) (((z2).natAbs : Nat))))) rfl ?_ ?_
    · intro hc31
      refine wp_seq ?_
      refine wp_region_list ?_
      refine seq_is (v := .pointer (some ⟨g1, 1, none⟩)) rfl (run_field1 rfl rfl) ?_
      (try simp only [Act.put, List.setIfInBounds_toArray, List.set_cons_zero, List.set_cons_succ])
      refine seq_is (v := .slice A1 n1 c1) rfl (run_loadM rfl rfl (Z.bx 2 rfl)) ?_
      (try simp only [Act.put, List.setIfInBounds_toArray, List.set_cons_zero, List.set_cons_succ])
      refine seq_is (v := .pointer (some ⟨g2, 1, none⟩)) rfl (run_field1 rfl rfl) ?_
      (try simp only [Act.put, List.setIfInBounds_toArray, List.set_cons_zero, List.set_cons_succ])
      refine seq_is (v := .slice A2 n2 c2) rfl (run_loadM rfl rfl (Z.bx 1 rfl)) ?_
      (try simp only [Act.put, List.setIfInBounds_toArray, List.set_cons_zero, List.set_cons_succ])
      refine seq_call Z rfl rfl Try.func76 rfl rfl (args2 rfl rfl) (Z.callMi (trammelref01_Sub.sem (Z.num 0 rfl).mag (Z.num 1 rfl).mag (zc_ge' hc31))) ?_; clear Z; intro x32 W Z
      (try simp only [Act.put, List.setIfInBounds_toArray, List.set_cons_zero, List.set_cons_succ])
      refine seq_is (v := .tuple #[x32.v, .int .i64 (0)]) rfl (run_move rfl rfl) ?_
      (try simp only [Act.put, List.setIfInBounds_toArray, List.set_cons_zero, List.set_cons_succ])
      refine seq_is (v := x32.v) rfl (run_extract rfl rfl rfl) ?_
      (try simp only [Act.put, List.setIfInBounds_toArray, List.set_cons_zero, List.set_cons_succ])
      refine seq_is (v := .int .i64 (0)) rfl (run_extract rfl rfl rfl) ?_
      (try simp only [Act.put, List.setIfInBounds_toArray, List.set_cons_zero, List.set_cons_succ])
      refine seq_is (v := x32.v) rfl (run_assign rfl rfl) ?_
      (try simp only [Act.put, List.setIfInBounds_toArray, List.set_cons_zero, List.set_cons_succ])
      refine seq_is (v := .int .i64 (0)) rfl (run_assign rfl rfl) ?_
      (try simp only [Act.put, List.setIfInBounds_toArray, List.set_cons_zero, List.set_cons_succ])
      show Code.wp _ _ _ _ _
      refine wp_seq ?_
      refine wp_region_list ?_
      refine seq_is (v := .pointer (some ⟨g1, 0, none⟩)) rfl (run_field0 rfl rfl) ?_
      (try simp only [Act.put, List.setIfInBounds_toArray, List.set_cons_zero, List.set_cons_succ])
      refine seq_is (v := .bool (b1)) rfl (run_loadN rfl rfl (Z.bx 2 rfl)) ?_
      (try simp only [Act.put, List.setIfInBounds_toArray, List.set_cons_zero, List.set_cons_succ])
      refine seq_is (v := x32.v) rfl (run_move rfl rfl) ?_
      (try simp only [Act.put, List.setIfInBounds_toArray, List.set_cons_zero, List.set_cons_succ])
      refine seq_call Z rfl rfl Try.func73 rfl rfl (args2 rfl rfl) (Z.callI (trammelref02_made.res (Z.ownM 0 rfl (by have := (zc_ge' hc31); omega) hf1))) ?_; clear Z; intro x33 W Z
      (try simp only [Act.put, List.setIfInBounds_toArray, List.set_cons_zero, List.set_cons_succ])
      refine seq_store Z 0 rfl rfl rfl rfl rfl ?_; clear Z; intro W Z
      (try simp only [Act.put, List.setIfInBounds_toArray, List.set_cons_zero, List.set_cons_succ])
      show Code.wp _ _ _ _ _
      refine wp_ret ?_
      exact Z.ends1 0 0 rfl rfl rfl rfl rfl (by exact add_diff m1 m2 hc4)
    · intro hc31
      refine wp_skip ?_
      show Code.wp _ _ _ _ _
      refine wp_seq ?_
      refine wp_region_list ?_
      refine seq_is (v := .pointer (some ⟨g2, 1, none⟩)) rfl (run_field1 rfl rfl) ?_
      (try simp only [Act.put, List.setIfInBounds_toArray, List.set_cons_zero, List.set_cons_succ])
      refine seq_is (v := .slice A2 n2 c2) rfl (run_loadM rfl rfl (Z.bx 1 rfl)) ?_
      (try simp only [Act.put, List.setIfInBounds_toArray, List.set_cons_zero, List.set_cons_succ])
      refine seq_is (v := .pointer (some ⟨g1, 1, none⟩)) rfl (run_field1 rfl rfl) ?_
      (try simp only [Act.put, List.setIfInBounds_toArray, List.set_cons_zero, List.set_cons_succ])
      refine seq_is (v := .slice A1 n1 c1) rfl (run_loadM rfl rfl (Z.bx 2 rfl)) ?_
      (try simp only [Act.put, List.setIfInBounds_toArray, List.set_cons_zero, List.set_cons_succ])
      refine seq_call Z rfl rfl Try.func76 rfl rfl (args2 rfl rfl) (Z.callMi (trammelref01_Sub.sem (Z.num 1 rfl).mag (Z.num 0 rfl).mag (zc_le' hc31))) ?_; clear Z; intro x34 W Z
      (try simp only [Act.put, List.setIfInBounds_toArray, List.set_cons_zero, List.set_cons_succ])
      refine seq_is (v := .tuple #[x34.v, .int .i64 (0)]) rfl (run_move rfl rfl) ?_
      (try simp only [Act.put, List.setIfInBounds_toArray, List.set_cons_zero, List.set_cons_succ])
      refine seq_is (v := x34.v) rfl (run_extract rfl rfl rfl) ?_
      (try simp only [Act.put, List.setIfInBounds_toArray, List.set_cons_zero, List.set_cons_succ])
      refine seq_is (v := .int .i64 (0)) rfl (run_extract rfl rfl rfl) ?_
      (try simp only [Act.put, List.setIfInBounds_toArray, List.set_cons_zero, List.set_cons_succ])
      refine seq_is (v := x34.v) rfl (run_assign rfl rfl) ?_
      (try simp only [Act.put, List.setIfInBounds_toArray, List.set_cons_zero, List.set_cons_succ])
      refine seq_is (v := .int .i64 (0)) rfl (run_assign rfl rfl) ?_
      (try simp only [Act.put, List.setIfInBounds_toArray, List.set_cons_zero, List.set_cons_succ])
      show Code.wp _ _ _ _ _
      refine wp_seq ?_
      refine wp_region_list ?_
      refine seq_is (v := .pointer (some ⟨g2, 0, none⟩)) rfl (run_field0 rfl rfl) ?_
      (try simp only [Act.put, List.setIfInBounds_toArray, List.set_cons_zero, List.set_cons_succ])
      refine seq_is (v := .bool (b2)) rfl (run_loadN rfl rfl (Z.bx 1 rfl)) ?_
      (try simp only [Act.put, List.setIfInBounds_toArray, List.set_cons_zero, List.set_cons_succ])
      refine seq_is (v := x34.v) rfl (run_move rfl rfl) ?_
      (try simp only [Act.put, List.setIfInBounds_toArray, List.set_cons_zero, List.set_cons_succ])
      refine seq_call Z rfl rfl Try.func73 rfl rfl (args2 rfl rfl) (Z.callI (trammelref02_made.res (Z.ownM 0 rfl (by have := (zc_le' hc31); omega) hf2))) ?_; clear Z; intro x35 W Z
      (try simp only [Act.put, List.setIfInBounds_toArray, List.set_cons_zero, List.set_cons_succ])
      refine seq_store Z 0 rfl rfl rfl rfl rfl ?_; clear Z; intro W Z
      (try simp only [Act.put, List.setIfInBounds_toArray, List.set_cons_zero, List.set_cons_succ])
      show Code.wp _ _ _ _ _
      refine wp_ret ?_
      exact Z.ends1 0 0 rfl rfl rfl rfl rfl (by exact add_swap m1 m2 hc4)
end Go.Proofs.Ytmbmbmkmjbpcpaa.PA


/- Walks of Sub, Compare and the reference's Sign, Cmp. -/
namespace Go.Proofs.Ytmbmbmkmjbpcpaa.PA
open Go Go.Proofs.Ytmbmbmkmjbpcpaa.Nums Go.RowKit Go.Proofs.YtmbmbmkmjbpcpaaW.PrintWords Go.Proofs.YtmbmbmkmjbpcpaaW.PrintLast Go.Proofs.YtmbmbmkmjbpcpaaW.PrintMore
set_option linter.unusedVariables false
set_option linter.unusedSimpArgs false
set_option maxHeartbeats 4000000 in
set_option maxRecDepth 100000 in
theorem zint_Sub.sem {w : World} {b1 : Bool} {v1 : Value} {z1 : Int} {b2 : Bool} {v2 : Value} {z2 : Int} (m1 : NumV w b1 v1 z1) (m2 : NumV w b2 v2 z2) (hf0 : Fm (((-(z2)).natAbs : Nat))) (hf1 : Fm ((((z1)).natAbs : Nat) + (((-(z2))).natAbs : Nat))) (hf2 : Fm ((((-(z2))).natAbs : Nat) - (((z1)).natAbs : Nat))) (hf3 : Fm ((((z1)).natAbs : Nat) - (((-(z2))).natAbs : Nat))) : Calls Try.prog 21 #[.agg #[.bool b1, v1], .agg #[.bool b2, v2]] w (ResI w (z1 - z2)) := by
  obtain ⟨A1, n1, c1, rfl⟩ := m1.form
  obtain ⟨A2, n2, c2, rfl⟩ := m2.form
  have Z := Zt.begin2 m1 m2
  go_enter Try.func21, Try.ntmps21
  refine wp_seq ?_
  refine wp_region_list ?_
  refine seq_box Z rfl rfl rfl ?_; clear Z; intro g1 W Z
  (try simp only [Act.put, List.setIfInBounds_toArray, List.set_cons_zero, List.set_cons_succ])
  refine seq_box Z rfl rfl rfl ?_; clear Z; intro g2 W Z
  (try simp only [Act.put, List.setIfInBounds_toArray, List.set_cons_zero, List.set_cons_succ])
  refine seq_alloc Z rfl rfl ?_; clear Z; intro g3 W Z
  (try simp only [Act.put, List.setIfInBounds_toArray, List.set_cons_zero, List.set_cons_succ])
  show Code.wp _ _ _ _ _
  refine wp_seq ?_
  refine wp_dag (pre := [_, _, _, _]) (sps := [.is (.agg #[.bool (b1), .slice A1 n1 c1]), .is (.agg #[.bool (b2), .slice A2 n2 c2]), spI w (-(z2)), spI w ((z1) + (-(z2)))]) Z (by kernel_rfl) _ rfl (by kernel_rfl) (by kernel_rfl) rfl ⟨?_, ?_, ?_, ?_, trivial⟩ ?_
  · intro a e4 W Q Z; exact step_is (fun _ h => op_plain rfl rfl h) (run_load2 rfl (ev e4) (Z.bx 2 rfl))
  · intro a e6 W Q Z; exact step_is (fun _ h => op_plain rfl rfl h) (run_load2 rfl (ev e6) (Z.bx 1 rfl))
  · intro a x8 e9 W Q Z; exact step_call (fun _ h => op_plain rfl rfl h) rfl Try.func25 rfl rfl (args1 (ev e9)) (Z.callI (zint_Neg.sem (Z.num 1 rfl)  ))
  · intro a x11 e12 x13 e14 W Q Z; exact step_call (fun _ h => op_plain rfl rfl h) rfl Try.func19 rfl rfl (args2 (ev e12) (ev e14)) (Z.callI (zint_Add.sem (Z.num 1 rfl) (Z.own 0 rfl hf0) hf1 hf2 hf3 ))
  clear Z; intro x5 x7 x10 x15 W Z
  (try simp only [Act.put, List.setIfInBounds_toArray, List.set_cons_zero, List.set_cons_succ])
  refine seq_store Z 0 rfl rfl rfl rfl rfl ?_; clear Z; intro W Z
  (try simp only [Act.put, List.setIfInBounds_toArray, List.set_cons_zero, List.set_cons_succ])
  show Code.wp _ _ _ _ _
  refine wp_ret ?_
  exact Z.ends1 0 0 rfl rfl rfl rfl rfl (by omega)
end Go.Proofs.Ytmbmbmkmjbpcpaa.PA

