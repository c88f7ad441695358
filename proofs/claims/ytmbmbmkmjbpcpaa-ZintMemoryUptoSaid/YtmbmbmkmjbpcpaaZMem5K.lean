/- Sum of one number. -/
import Derived.Outline
import Derived.Test.YtmbmbmkmjbpcpaaZMem4K
import Derived.Test.YtmbmbmkmjbpcpaaZCK
import Derived.Test.YtmbmbmkmjbpcpaaPAx0K
namespace Go.Proofs.Ytmbmbmkmjbpcpaa.PA
open Go Go.Proofs.Ytmbmbmkmjbpcpaa.Nums Go.RowKit Go.Proofs.YtmbmbmkmjbpcpaaW.PrintWords Go.Proofs.YtmbmbmkmjbpcpaaW.PrintLast Go.Proofs.YtmbmbmkmjbpcpaaW.PrintMore
set_option linter.unusedVariables false
set_option linter.unusedSimpArgs false
set_option maxHeartbeats 4000000 in
set_option maxRecDepth 100000 in
theorem zint_total.sem1 {w : World} {b1 : Bool} {v1 : Value} {z1 : Int} {g : Nat} (m1 : NumV w b1 v1 z1) (hg : w.heap[g]? = some (.cells #[.bool b1, v1] 25 (0, 0))) (hb1 : Bd 100000000 z1) : Calls Try.prog 68 #[.slice (some ⟨g, 0, none⟩) 1 1] w (ResI w z1) := by
  obtain ⟨A1, n1, c1, rfl⟩ := m1.form
  have Z := Zt.start w (m1.has.append (tyG.has (.slice (some ⟨g, 0, none⟩) 1 1) hg))
  go_enter Try.func68, Try.ntmps68
  refine wp_seq ?_
  refine wp_region_list ?_
  refine seq_alloc Z rfl rfl ?_; clear Z; intro g1 W Z
  (try simp only [Act.put, List.setIfInBounds_toArray, List.set_cons_zero, List.set_cons_succ])
  show Code.wp _ _ _ _ _
  refine wp_seq ?_
  refine wp_region_list ?_
  refine seq_alloc Z rfl rfl ?_; clear Z; intro g2 W Z
  (try simp only [Act.put, List.setIfInBounds_toArray, List.set_cons_zero, List.set_cons_succ])
  show Code.wp _ _ _ _ _
  refine wp_seq ?_
  refine wp_seq ?_
  refine wp_region_list ?_
  refine seq_is (v := .slice (some ⟨g, 0, none⟩) 1 1) rfl (run_move rfl rfl) ?_
  (try simp only [Act.put, List.setIfInBounds_toArray, List.set_cons_zero, List.set_cons_succ])
  refine seq_is (v := .int .i64 (1)) rfl (run_lenI rfl rfl) ?_
  (try simp only [Act.put, List.setIfInBounds_toArray, List.set_cons_zero, List.set_cons_succ])
  refine seq_is (v := .int .i64 (0)) rfl (run_move rfl rfl) ?_
  (try simp only [Act.put, List.setIfInBounds_toArray, List.set_cons_zero, List.set_cons_succ])
  show Code.wp _ _ _ _ _
  refine wp_block ?_
  refine wp_loop_rounds 2 ?_
  show Code.wp _ _ _ _ _
  refine wp_seq ?_
  refine wp_region_list ?_
  refine seq_is (v := .bool (decide ((0 : Int) < (1)))) rfl (run_lss rfl rfl rfl) ?_
  (try simp only [Act.put, List.setIfInBounds_toArray, List.set_cons_zero, List.set_cons_succ])
  show Code.wp _ _ _ _ _
  refine wp_seq ?_
  refine wp_cond_true rfl ?_
  refine wp_skip ?_
  show Code.wp _ _ _ _ _
  refine wp_seq ?_
  refine wp_block ?_
  refine wp_seq ?_
  refine wp_region_list ?_
  refine seq_is (v := .pointer (some ⟨g, 0, none⟩)) rfl (run_indexI (k := 0) rfl rfl rfl (by omega)) ?_
  (try simp only [Act.put, List.setIfInBounds_toArray, List.set_cons_zero, List.set_cons_succ])
  refine seq_is (v := .agg #[.bool (b1), .slice A1 n1 c1]) rfl (run_loadI (k := 0) rfl rfl (Z.get 1 rfl) rfl rfl) ?_
  (try simp only [Act.put, List.setIfInBounds_toArray, List.set_cons_zero, List.set_cons_succ])
  refine seq_alloc Z rfl rfl ?_; clear Z; intro g3 W Z
  (try simp only [Act.put, List.setIfInBounds_toArray, List.set_cons_zero, List.set_cons_succ])
  refine seq_store Z 0 rfl rfl rfl rfl rfl ?_; clear Z; intro W Z
  (try simp only [Act.put, List.setIfInBounds_toArray, List.set_cons_zero, List.set_cons_succ])
  show Code.wp _ _ _ _ _
  refine wp_region_list ?_
  refine seq_is (v := .agg #[.bool (false), .slice none 0 0]) rfl (run_load2 rfl rfl (Z.bx 1 rfl)) ?_
  (try simp only [Act.put, List.setIfInBounds_toArray, List.set_cons_zero, List.set_cons_succ])
  refine seq_is (v := .agg #[.bool (b1), .slice A1 n1 c1]) rfl (run_load2 rfl rfl (Z.bx 0 rfl)) ?_
  (try simp only [Act.put, List.setIfInBounds_toArray, List.set_cons_zero, List.set_cons_succ])
  refine seq_call Z rfl rfl Try.func19 rfl rfl (args2 rfl rfl) (Z.callI (zint_Add.sem (NumV.nil _) (Z.num 0 rfl) (Bd.fm (Bd.add (Bd.abs (Bd.lit (k := 64) (z := 0) (by decide))) (Bd.abs hb1)) (by decide)) (Bd.fm (Bd.sub (Bd.abs hb1) (Bd.abs (Bd.lit (k := 64) (z := 0) (by decide)))) (by decide)) (Bd.fm (Bd.sub (Bd.abs (Bd.lit (k := 64) (z := 0) (by decide))) (Bd.abs hb1)) (by decide)) )) ?_; clear Z; intro x4 W Z
  (try simp only [Act.put, List.setIfInBounds_toArray, List.set_cons_zero, List.set_cons_succ])
  refine seq_store Z 1 rfl rfl rfl rfl rfl ?_; clear Z; intro W Z
  (try simp only [Act.put, List.setIfInBounds_toArray, List.set_cons_zero, List.set_cons_succ])
  show Code.wp _ _ _ _ _
  refine wp_region_list ?_
  refine seq_is (v := .int .i64 (1)) rfl (run_inc (i := 0) rfl rfl (by omega)) ?_
  (try simp only [Act.put, List.setIfInBounds_toArray, List.set_cons_zero, List.set_cons_succ])
  refine seq_is (v := .int .i64 (1)) rfl (run_move rfl rfl) ?_
  (try simp only [Act.put, List.setIfInBounds_toArray, List.set_cons_zero, List.set_cons_succ])
  show Code.wp _ _ _ _ _
  refine wp_seq ?_
  refine wp_region_list ?_
  refine seq_is (v := .bool (decide ((1 : Int) < (1)))) rfl (run_lss rfl rfl rfl) ?_
  (try simp only [Act.put, List.setIfInBounds_toArray, List.set_cons_zero, List.set_cons_succ])
  show Code.wp _ _ _ _ _
  refine wp_seq ?_
  refine wp_cond_false rfl ?_
  refine wp_exit ?_
  show Code.wp _ _ _ _ _
  refine wp_seq ?_
  refine wp_region_list ?_
  refine seq_is (v := .agg #[.bool (decide ((0) + (z1) < 0)), x4.v]) rfl (run_load2 rfl rfl (Z.bx 1 rfl)) ?_
  (try simp only [Act.put, List.setIfInBounds_toArray, List.set_cons_zero, List.set_cons_succ])
  refine seq_store Z 2 rfl rfl rfl rfl rfl ?_; clear Z; intro W Z
  (try simp only [Act.put, List.setIfInBounds_toArray, List.set_cons_zero, List.set_cons_succ])
  show Code.wp _ _ _ _ _
  refine wp_ret ?_
  exact Z.ends1 2 0 rfl rfl rfl rfl rfl (by rw [Int.zero_add])
set_option maxHeartbeats 4000000 in
set_option maxRecDepth 100000 in
theorem zint_Sum.sem1 {w : World} {b1 : Bool} {v1 : Value} {z1 : Int} {g : Nat} (m1 : NumV w b1 v1 z1) (hg : w.heap[g]? = some (.cells #[.bool b1, v1] 25 (0, 0))) (hb1 : Bd 100000000 z1) : Calls Try.prog 17 #[.slice (some ⟨g, 0, none⟩) 1 1] w (ResI w z1) := by
  obtain ⟨A1, n1, c1, rfl⟩ := m1.form
  have Z := Zt.start w (m1.has.append (tyG.has (.slice (some ⟨g, 0, none⟩) 1 1) hg))
  go_enter Try.func17, Try.ntmps17
  refine wp_seq ?_
  refine wp_region_list ?_
  refine seq_alloc Z rfl rfl ?_; clear Z; intro g1 W Z
  (try simp only [Act.put, List.setIfInBounds_toArray, List.set_cons_zero, List.set_cons_succ])
  show Code.wp _ _ _ _ _
  refine wp_seq ?_
  refine wp_region_list ?_
  refine seq_is (v := .slice (some ⟨g, 0, none⟩) 1 1) rfl (run_move rfl rfl) ?_
  (try simp only [Act.put, List.setIfInBounds_toArray, List.set_cons_zero, List.set_cons_succ])
  refine seq_call Z rfl rfl Try.func68 rfl rfl (args1 rfl) (Z.callI (zint_total.sem1 (Z.num 0 rfl) (Z.get 1 rfl) hb1)) ?_; clear Z; intro x2 W Z
  (try simp only [Act.put, List.setIfInBounds_toArray, List.set_cons_zero, List.set_cons_succ])
  refine seq_store Z 0 rfl rfl rfl rfl rfl ?_; clear Z; intro W Z
  (try simp only [Act.put, List.setIfInBounds_toArray, List.set_cons_zero, List.set_cons_succ])
  show Code.wp _ _ _ _ _
  refine wp_ret ?_
  exact Z.ends1 0 0 rfl rfl rfl rfl rfl (by rfl)
end Go.Proofs.Ytmbmbmkmjbpcpaa.PA

