/- The contract of the reference's made. -/
import Derived.Outline
import Derived.Test.YtmbmbmkmjbpcpaaZBK
import Derived.Test.YtmbmbmkmjbpcpaaPAx0K
namespace Go.Proofs.Ytmbmbmkmjbpcpaa.PA
open Go Go.Proofs.Ytmbmbmkmjbpcpaa.Nums Go.RowKit Go.Proofs.YtmbmbmkmjbpcpaaW.PrintWords Go.Proofs.YtmbmbmkmjbpcpaaW.PrintLast Go.Proofs.YtmbmbmkmjbpcpaaW.PrintMore
set_option linter.unusedVariables false
set_option linter.unusedSimpArgs false
/-- the sign of the reference's number -/
theorem made_t {x : Int} {n : Nat} (hx : 0 ≤ x) (h : n = (lm x).length) : decide ((0 : Int) < (n : Int)) = decide (zof true x < 0) := by
  subst h
  have := lm_eq_nil hx
  unfold zof
  refine decide_eq_decide.mpr ?_
  constructor
  · intro h
    have : x ≠ 0 := by
      rintro rfl
      rw [lm_zero] at h
      simp at h
    simp
    omega
  · intro h
    simp at h
    have : lm x ≠ [] := fun e => by have := this.mp e; omega
    have := List.length_pos_iff.mpr this
    omega
theorem made_f {x : Int} {n : Nat} (hx : 0 ≤ x) (h : n = (lm x).length) : false = decide (zof false x < 0) := by
  unfold zof
  simp
  omega
theorem mg_zof {b : Bool} {x : Int} (hx : 0 ≤ x) : mg (zof b x) = lm x := by
  unfold mg
  rw [zof_abs hx]
set_option maxHeartbeats 4000000 in
set_option maxRecDepth 100000 in
theorem trammelref02_made.res {w : World} {b1 : Bool} {v1 : Value} {x1 : Int} (m1 : MagV w v1 x1) : Calls Try.prog 73 #[.bool b1, v1] w (ResI w (zof b1 x1)) := by
  have hx := m1.nonneg
  have m1' := m1
  obtain ⟨l, ⟨A1, c1, rfl, -⟩, -⟩ := m1'
  generalize l.length = n1 at m1
  have Z := Zt.start w m1.has
  cases b1
  · go_enter Try.func73, Try.ntmps73
    refine wp_seq ?_
    refine wp_region_list ?_
    refine seq_alloc Z rfl rfl ?_; clear Z; intro g1 W Z
    (try simp only [Act.put, List.setIfInBounds_toArray, List.set_cons_zero, List.set_cons_succ])
    show Code.wp _ _ _ _ _
    refine wp_seq ?_
    refine wp_region_list ?_
    refine seq_is (v := .slice A1 n1 c1) rfl (run_move rfl rfl) ?_
    (try simp only [Act.put, List.setIfInBounds_toArray, List.set_cons_zero, List.set_cons_succ])
    refine seq_call Z rfl rfl Try.func80 rfl rfl (args1 rfl) (Z.callM (trammelref01_Norm.sem (Z.magv 0 rfl))) ?_; clear Z; intro x2 W Z
    (try simp only [Act.put, List.setIfInBounds_toArray, List.set_cons_zero, List.set_cons_succ])
    refine seq_is (v := x2.v) rfl (run_assign rfl rfl) ?_
    (try simp only [Act.put, List.setIfInBounds_toArray, List.set_cons_zero, List.set_cons_succ])
    show Code.wp _ _ _ _ _
    refine wp_seq ?_
    refine wp_region_list ?_
    refine seq_is (v := .bool (false)) rfl (run_move rfl rfl) ?_
    (try simp only [Act.put, List.setIfInBounds_toArray, List.set_cons_zero, List.set_cons_succ])
    refine seq_is (v := .bool (false)) rfl (run_move rfl rfl) ?_
    (try simp only [Act.put, List.setIfInBounds_toArray, List.set_cons_zero, List.set_cons_succ])
    refine list_unwant rfl rfl rfl (by decide) ?_
    refine list_unwant rfl rfl rfl (by decide) ?_
    refine list_unwant rfl rfl rfl (by decide) ?_
    refine seq_is (v := .bool (false)) rfl (run_pickF rfl rfl rfl) ?_
    (try simp only [Act.put, List.setIfInBounds_toArray, List.set_cons_zero, List.set_cons_succ])
    refine seq_is (v := x2.v) rfl (run_move rfl rfl) ?_
    (try simp only [Act.put, List.setIfInBounds_toArray, List.set_cons_zero, List.set_cons_succ])
    refine seq_is (v := .agg #[.bool (false), x2.v]) rfl (run_build2 rfl rfl rfl) ?_
    (try simp only [Act.put, List.setIfInBounds_toArray, List.set_cons_zero, List.set_cons_succ])
    refine seq_store Z 0 rfl rfl rfl rfl rfl ?_; clear Z; intro W Z
    (try simp only [Act.put, List.setIfInBounds_toArray, List.set_cons_zero, List.set_cons_succ])
    show Code.wp _ _ _ _ _
    refine wp_ret ?_
    have hl := (Kd.R_reads' (Z.row 0 rfl)).1
    exact Z.ends1b 0 0 rfl rfl rfl rfl rfl (made_f hx hl) (mg_zof hx).symm
  · go_enter Try.func73, Try.ntmps73
    refine wp_seq ?_
    refine wp_region_list ?_
    refine seq_alloc Z rfl rfl ?_; clear Z; intro g1 W Z
    (try simp only [Act.put, List.setIfInBounds_toArray, List.set_cons_zero, List.set_cons_succ])
    show Code.wp _ _ _ _ _
    refine wp_seq ?_
    refine wp_region_list ?_
    refine seq_is (v := .slice A1 n1 c1) rfl (run_move rfl rfl) ?_
    (try simp only [Act.put, List.setIfInBounds_toArray, List.set_cons_zero, List.set_cons_succ])
    refine seq_call Z rfl rfl Try.func80 rfl rfl (args1 rfl) (Z.callM (trammelref01_Norm.sem (Z.magv 0 rfl))) ?_; clear Z; intro x2 W Z
    (try simp only [Act.put, List.setIfInBounds_toArray, List.set_cons_zero, List.set_cons_succ])
    refine seq_is (v := x2.v) rfl (run_assign rfl rfl) ?_
    (try simp only [Act.put, List.setIfInBounds_toArray, List.set_cons_zero, List.set_cons_succ])
    show Code.wp _ _ _ _ _
    refine wp_seq ?_
    refine wp_region_list ?_
    refine seq_is (v := .bool (true)) rfl (run_move rfl rfl) ?_
    (try simp only [Act.put, List.setIfInBounds_toArray, List.set_cons_zero, List.set_cons_succ])
    refine seq_is (v := .bool (true)) rfl (run_move rfl rfl) ?_
    (try simp only [Act.put, List.setIfInBounds_toArray, List.set_cons_zero, List.set_cons_succ])
    refine list_want rfl rfl rfl (wp_run (v := x2.v) (run_move rfl rfl) ?_)
    (try simp only [Act.put, List.setIfInBounds_toArray, List.set_cons_zero, List.set_cons_succ])
    refine list_want rfl rfl rfl (wp_run (v := .int .i64 (((x2.2.1 : Nat) : Int))) (run_len rfl rfl) ?_)
    (try simp only [Act.put, List.setIfInBounds_toArray, List.set_cons_zero, List.set_cons_succ])
    refine list_want rfl rfl rfl (wp_run (v := .bool (decide ((0) < (((x2.2.1 : Nat) : Int))))) (run_gtr rfl rfl rfl) ?_)
    (try simp only [Act.put, List.setIfInBounds_toArray, List.set_cons_zero, List.set_cons_succ])
    refine seq_is (v := .bool (decide ((0) < (((x2.2.1 : Nat) : Int))))) rfl (run_pickT rfl rfl rfl) ?_
    (try simp only [Act.put, List.setIfInBounds_toArray, List.set_cons_zero, List.set_cons_succ])
    refine seq_is (v := x2.v) rfl (run_move rfl rfl) ?_
    (try simp only [Act.put, List.setIfInBounds_toArray, List.set_cons_zero, List.set_cons_succ])
    refine seq_is (v := .agg #[.bool (decide ((0) < (((x2.2.1 : Nat) : Int)))), x2.v]) rfl (run_build2 rfl rfl rfl) ?_
    (try simp only [Act.put, List.setIfInBounds_toArray, List.set_cons_zero, List.set_cons_succ])
    refine seq_store Z 0 rfl rfl rfl rfl rfl ?_; clear Z; intro W Z
    (try simp only [Act.put, List.setIfInBounds_toArray, List.set_cons_zero, List.set_cons_succ])
    show Code.wp _ _ _ _ _
    refine wp_ret ?_
    have hl := (Kd.R_reads' (Z.row 0 rfl)).1
    exact Z.ends1b 0 0 rfl rfl rfl rfl rfl (made_t hx hl) (mg_zof hx).symm
end Go.Proofs.Ytmbmbmkmjbpcpaa.PA


/- Walks of the smaller functions of zint. -/
namespace Go.Proofs.Ytmbmbmkmjbpcpaa.PA
open Go Go.Proofs.Ytmbmbmkmjbpcpaa.Nums Go.RowKit Go.Proofs.YtmbmbmkmjbpcpaaW.PrintWords Go.Proofs.YtmbmbmkmjbpcpaaW.PrintLast Go.Proofs.YtmbmbmkmjbpcpaaW.PrintMore
set_option linter.unusedVariables false
set_option linter.unusedSimpArgs false
set_option maxHeartbeats 4000000 in
set_option maxRecDepth 100000 in
theorem zint_Sign.sem {w : World} {b1 : Bool} {v1 : Value} {z1 : Int} (m1 : NumV w b1 v1 z1) : Calls Try.prog 36 #[.agg #[.bool b1, v1]] w (RetV w (.int .i64 z1.sign)) := by
  obtain ⟨A1, n1, c1, rfl⟩ := m1.form
  have Z := Zt.begin1 m1
  go_enter Try.func36, Try.ntmps36
  refine wp_seq ?_
  refine wp_region_list ?_
  refine seq_box Z rfl rfl rfl ?_; clear Z; intro g1 W Z
  (try simp only [Act.put, List.setIfInBounds_toArray, List.set_cons_zero, List.set_cons_succ])
  refine seq_is (v := .int .i64 (0)) rfl (run_assign rfl rfl) ?_
  (try simp only [Act.put, List.setIfInBounds_toArray, List.set_cons_zero, List.set_cons_succ])
  show Code.wp _ _ _ _ _
  refine wp_seq ?_
  refine wp_block ?_
  refine wp_seq ?_
  refine wp_region_list ?_
  refine seq_is (v := .pointer (some ⟨g1, 1, none⟩)) rfl (run_field1 rfl rfl) ?_
  (try simp only [Act.put, List.setIfInBounds_toArray, List.set_cons_zero, List.set_cons_succ])
  refine seq_is (v := .slice A1 n1 c1) rfl (run_loadM rfl rfl (Z.bx 0 rfl)) ?_
  (try simp only [Act.put, List.setIfInBounds_toArray, List.set_cons_zero, List.set_cons_succ])
  refine seq_call Z rfl rfl Try.func81 rfl rfl (args1 rfl) (Z.callV (nat_Bits.sem (Z.num 0 rfl).mag)) ?_; clear Z; intro x2 W Z
  (try simp only [Act.put, List.setIfInBounds_toArray, List.set_cons_zero, List.set_cons_succ])
  refine seq_is (v := .bool (decide ((((bl (((z1).natAbs : Nat) : Int).toNat : Nat) : Int)) = (0)))) rfl (run_eql rfl rfl rfl) ?_
  (try simp only [Act.put, List.setIfInBounds_toArray, List.set_cons_zero, List.set_cons_succ])
  refine seq_is (v := .bool (decide ((((bl (((z1).natAbs : Nat) : Int).toNat : Nat) : Int)) = (0)))) rfl (run_assign rfl rfl) ?_
  (try simp only [Act.put, List.setIfInBounds_toArray, List.set_cons_zero, List.set_cons_succ])
  show Code.wp _ _ _ _ _
  refine wp_cond_split (t := decide ((((bl (((z1).natAbs : Nat) : Int).toNat : Nat) : Int)) = (0))) rfl ?_ ?_
  · intro hc3
    refine wp_seq ?_
    refine wp_region_list ?_
    refine seq_is (v := .int .i64 (0)) rfl (run_assign rfl rfl) ?_
    (try simp only [Act.put, List.setIfInBounds_toArray, List.set_cons_zero, List.set_cons_succ])
    show Code.wp _ _ _ _ _
    refine wp_ret ?_
    exact Z.endsV (u := .int .i64 (0)) rfl rfl rfl (by exact sgn0 (bl_abs.mp (of_decide_eq_true hc3)))
  · intro hc3
    refine wp_seq ?_
    refine wp_region_list ?_
    refine seq_is (v := .pointer (some ⟨g1, 0, none⟩)) rfl (run_field0 rfl rfl) ?_
    (try simp only [Act.put, List.setIfInBounds_toArray, List.set_cons_zero, List.set_cons_succ])
    refine seq_is (v := .bool (b1)) rfl (run_loadN rfl rfl (Z.bx 0 rfl)) ?_
    (try simp only [Act.put, List.setIfInBounds_toArray, List.set_cons_zero, List.set_cons_succ])
    refine seq_is (v := .bool (b1)) rfl (run_assign rfl rfl) ?_
    (try simp only [Act.put, List.setIfInBounds_toArray, List.set_cons_zero, List.set_cons_succ])
    show Code.wp _ _ _ _ _
    refine wp_cond_split (t := b1) rfl ?_ ?_
    · intro hc4
      refine wp_seq ?_
      refine wp_region_list ?_
      refine seq_is (v := .int .i64 (-1)) rfl (run_assign rfl rfl) ?_
      (try simp only [Act.put, List.setIfInBounds_toArray, List.set_cons_zero, List.set_cons_succ])
      show Code.wp _ _ _ _ _
      refine wp_ret ?_
      exact Z.endsV (u := .int .i64 (-1)) rfl rfl rfl (by exact sgnN (m1.negOf (fun h => of_decide_eq_false hc3 (bl_abs.mpr h)) hc4))
    · intro hc4
      refine wp_skip ?_
      show Code.wp _ _ _ _ _
      refine wp_seq ?_
      refine wp_region_list ?_
      refine seq_is (v := .int .i64 (1)) rfl (run_assign rfl rfl) ?_
      (try simp only [Act.put, List.setIfInBounds_toArray, List.set_cons_zero, List.set_cons_succ])
      show Code.wp _ _ _ _ _
      refine wp_ret ?_
      exact Z.endsV (u := .int .i64 (1)) rfl rfl rfl (by exact sgnP (m1.posOf (fun h => of_decide_eq_false hc3 (bl_abs.mpr h)) hc4))
end Go.Proofs.Ytmbmbmkmjbpcpaa.PA


/- Walks of the smaller functions of trammelref02. -/
namespace Go.Proofs.Ytmbmbmkmjbpcpaa.PA
open Go Go.Proofs.Ytmbmbmkmjbpcpaa.Nums Go.RowKit Go.Proofs.YtmbmbmkmjbpcpaaW.PrintWords Go.Proofs.YtmbmbmkmjbpcpaaW.PrintLast Go.Proofs.YtmbmbmkmjbpcpaaW.PrintMore
set_option linter.unusedVariables false
set_option linter.unusedSimpArgs false
end Go.Proofs.Ytmbmbmkmjbpcpaa.PA


/- Walks of Sub, Compare and the reference's Sign, Cmp. -/
namespace Go.Proofs.Ytmbmbmkmjbpcpaa.PA
open Go Go.Proofs.Ytmbmbmkmjbpcpaa.Nums Go.RowKit Go.Proofs.YtmbmbmkmjbpcpaaW.PrintWords Go.Proofs.YtmbmbmkmjbpcpaaW.PrintLast Go.Proofs.YtmbmbmkmjbpcpaaW.PrintMore
set_option linter.unusedVariables false
set_option linter.unusedSimpArgs false
theorem len_abs {z : Int} {n : Nat} (h : n = (lm ((z.natAbs : Nat) : Int)).length) : ((n : Nat) : Int) = 0 ↔ z = 0 := by
  subst h
  have := lm_eq_nil (z := ((z.natAbs : Nat) : Int)) (by omega)
  constructor
  · intro h
    have : lm ((z.natAbs : Nat) : Int) = [] := List.length_eq_zero_iff.mp (by omega)
    have := (lm_eq_nil (by omega)).mp this
    omega
  · rintro rfl
    rw [show ((Int.natAbs 0 : Nat) : Int) = 0 by rfl, lm_zero]
    rfl
set_option maxHeartbeats 4000000 in
set_option maxRecDepth 100000 in
theorem trammelref02_Sign.sem {w : World} {b1 : Bool} {v1 : Value} {z1 : Int} (m1 : NumV w b1 v1 z1) (hf0 : Fm (((z1).natAbs : Nat))) : Calls Try.prog 37 #[.agg #[.bool b1, v1]] w (RetV w (.int .i64 z1.sign)) := by
  obtain ⟨A1, n1, c1, rfl⟩ := m1.form
  have Z := Zt.begin1 m1
  go_enter Try.func37, Try.ntmps37
  refine wp_seq ?_
  refine wp_region_list ?_
  refine seq_box Z rfl rfl rfl ?_; clear Z; intro g1 W Z
  (try simp only [Act.put, List.setIfInBounds_toArray, List.set_cons_zero, List.set_cons_succ])
  refine seq_is (v := .int .i64 (0)) rfl (run_assign rfl rfl) ?_
  (try simp only [Act.put, List.setIfInBounds_toArray, List.set_cons_zero, List.set_cons_succ])
  show Code.wp _ _ _ _ _
  refine wp_seq ?_
  refine wp_region_list ?_
  refine seq_is (v := .pointer (some ⟨g1, 1, none⟩)) rfl (run_field1 rfl rfl) ?_
  (try simp only [Act.put, List.setIfInBounds_toArray, List.set_cons_zero, List.set_cons_succ])
  refine seq_is (v := .slice A1 n1 c1) rfl (run_loadM rfl rfl (Z.bx 0 rfl)) ?_
  (try simp only [Act.put, List.setIfInBounds_toArray, List.set_cons_zero, List.set_cons_succ])
  refine seq_call Z rfl rfl Try.func80 rfl rfl (args1 rfl) (Z.callM (trammelref01_Norm.sem (Z.num 0 rfl).mag)) ?_; clear Z; intro x2 W Z
  (try simp only [Act.put, List.setIfInBounds_toArray, List.set_cons_zero, List.set_cons_succ])
  refine seq_is (v := x2.v) rfl (run_assign rfl rfl) ?_
  (try simp only [Act.put, List.setIfInBounds_toArray, List.set_cons_zero, List.set_cons_succ])
  show Code.wp _ _ _ _ _
  refine wp_seq ?_
  refine wp_block ?_
  refine wp_seq ?_
  refine wp_region_list ?_
  refine seq_is (v := x2.v) rfl (run_move rfl rfl) ?_
  (try simp only [Act.put, List.setIfInBounds_toArray, List.set_cons_zero, List.set_cons_succ])
  refine seq_is (v := .int .i64 (((x2.2.1 : Nat) : Int))) rfl (run_len rfl rfl) ?_
  (try simp only [Act.put, List.setIfInBounds_toArray, List.set_cons_zero, List.set_cons_succ])
  refine seq_is (v := .bool (decide ((((x2.2.1 : Nat) : Int)) = (0)))) rfl (run_eql rfl rfl rfl) ?_
  (try simp only [Act.put, List.setIfInBounds_toArray, List.set_cons_zero, List.set_cons_succ])
  refine seq_is (v := .bool (decide ((((x2.2.1 : Nat) : Int)) = (0)))) rfl (run_assign rfl rfl) ?_
  (try simp only [Act.put, List.setIfInBounds_toArray, List.set_cons_zero, List.set_cons_succ])
  show Code.wp _ _ _ _ _
  refine wp_cond_split (t := decide ((((x2.2.1 : Nat) : Int)) = (0))) rfl ?_ ?_
  · intro hc3
    refine wp_seq ?_
    refine wp_region_list ?_
    refine seq_is (v := .int .i64 (0)) rfl (run_assign rfl rfl) ?_
    (try simp only [Act.put, List.setIfInBounds_toArray, List.set_cons_zero, List.set_cons_succ])
    show Code.wp _ _ _ _ _
    refine wp_ret ?_
    have hl := (Kd.R_reads' (Z.row 0 rfl)).1
    exact Z.endsV (u := .int .i64 (0)) rfl rfl rfl (by exact sgn0 ((len_abs hl).mp (of_decide_eq_true hc3)))
  · intro hc3
    refine wp_seq ?_
    refine wp_region_list ?_
    refine seq_is (v := .pointer (some ⟨g1, 0, none⟩)) rfl (run_field0 rfl rfl) ?_
    (try simp only [Act.put, List.setIfInBounds_toArray, List.set_cons_zero, List.set_cons_succ])
    refine seq_is (v := .bool (b1)) rfl (run_loadN rfl rfl (Z.bx 0 rfl)) ?_
    (try simp only [Act.put, List.setIfInBounds_toArray, List.set_cons_zero, List.set_cons_succ])
    refine seq_is (v := .bool (b1)) rfl (run_assign rfl rfl) ?_
    (try simp only [Act.put, List.setIfInBounds_toArray, List.set_cons_zero, List.set_cons_succ])
    show Code.wp _ _ _ _ _
    refine wp_cond_split (t := b1) rfl ?_ ?_
    · intro hc4
      refine wp_seq ?_
      refine wp_region_list ?_
      refine seq_is (v := .int .i64 (-1)) rfl (run_assign rfl rfl) ?_
      (try simp only [Act.put, List.setIfInBounds_toArray, List.set_cons_zero, List.set_cons_succ])
      show Code.wp _ _ _ _ _
      refine wp_ret ?_
      have hl := (Kd.R_reads' (Z.row 0 rfl)).1
      exact Z.endsV (u := .int .i64 (-1)) rfl rfl rfl (by exact sgnN (m1.negOf (fun h => of_decide_eq_false hc3 ((len_abs hl).mpr h)) hc4))
    · intro hc4
      refine wp_skip ?_
      show Code.wp _ _ _ _ _
      refine wp_seq ?_
      refine wp_region_list ?_
      refine seq_is (v := .int .i64 (1)) rfl (run_assign rfl rfl) ?_
      (try simp only [Act.put, List.setIfInBounds_toArray, List.set_cons_zero, List.set_cons_succ])
      show Code.wp _ _ _ _ _
      refine wp_ret ?_
      have hl := (Kd.R_reads' (Z.row 0 rfl)).1
      exact Z.endsV (u := .int .i64 (1)) rfl rfl rfl (by exact sgnP (m1.posOf (fun h => of_decide_eq_false hc3 ((len_abs hl).mpr h)) hc4))
end Go.Proofs.Ytmbmbmkmjbpcpaa.PA

