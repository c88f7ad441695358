/- The walk of spoil. -/
import Derived.Outline
import Derived.Test.YtmbmbmkmjbpcpaaZMem1K
import Derived.Test.YtmbmbmkmjbpcpaaZDK
import Derived.Test.YtmbmbmkmjbpcpaaPAx0K
namespace Go.Proofs.Ytmbmbmkmjbpcpaa.PA
open Go Go.Proofs.Ytmbmbmkmjbpcpaa.Nums Go.RowKit Go.Proofs.YtmbmbmkmjbpcpaaW.PrintWords Go.Proofs.YtmbmbmkmjbpcpaaW.PrintLast Go.Proofs.YtmbmbmkmjbpcpaaW.PrintMore
set_option linter.unusedVariables false
set_option linter.unusedSimpArgs false
theorem run_xor' {a : Act} {o : Oper} {W : World} {p : Operand} {x k : Int} (ho : o.op = .binOp .xor 68 p (.const (.int .u32 k)) 68) (he : a.eval p = .int .u32 x) : (execOp a.eval o).run Try.prog W = .ok (.value (.int .u32 (bits .xor .u32 x k))) W := by
  have e2 : a.eval (.const (.int .u32 k)) = .int .u32 k := rfl
  unfold execOp
  simp only [ho, he, e2]
  go_simp
  try rfl
set_option maxHeartbeats 4000000 in
set_option maxRecDepth 100000 in
theorem spoil_walk {w : World} {base : Nat} {b : Bool} {A : Option Addr} {n c : Nat} (hv : ∃ l : List Int, Kd.R (Kd.int .u32) 68 w base (fun _ => True) (.slice A n c) l ∧ l.length ≤ 10000000) (hb : base ≤ w.heap.size) : Calls Try.prog 66 #[.agg #[.bool b, .slice A n c]] w fun e w' => e = .returned (.tuple #[]) ∧ Below base w w' ∧ Sp8 w w' (Value.slice A n c).ownBlock := by
  have hnl : n ≤ 10000000 := by
    obtain ⟨l, hr, hl⟩ := hv
    obtain ⟨e, -⟩ := Kd.R_reads' hr
    omega
  go_enter Try.func66, Try.ntmps66
  refine wp_seq ?_
  refine wp_region_list ?_
  refine seq_boxS hv hb rfl rfl rfl ?_; intro g1 W Z
  (try simp only [Act.put, List.setIfInBounds_toArray, List.set_cons_zero, List.set_cons_succ])
  show Code.wp _ _ _ _ _
  refine wp_seq ?_
  refine wp_seq ?_
  refine wp_region_list ?_
  refine seq_is (v := .int .i64 (0)) rfl (run_assign rfl rfl) ?_
  (try simp only [Act.put, List.setIfInBounds_toArray, List.set_cons_zero, List.set_cons_succ])
  show Code.wp _ _ _ _ _
  refine wp_block ?_
  refine wp_loop_s (α := Nat) (fun i a W => ∃ (j4_2 j5_2 j6_2 j7_2 j8_2 j9_2 j10_2 j11_2 j12_2 j13_2 j14_2 j15_2 j16_2 j17_2 j18_2 j19_2 j20_2 : Value), a = { tmps := #[.agg #[.bool (b), .slice A n c], .pointer (some ⟨g1, 0, none⟩), .int .i64 ((i : Nat) : Int), undef, j4_2, j5_2, j6_2, j7_2, j8_2, j9_2, j10_2, j11_2, j12_2, j13_2, j14_2, j15_2, j16_2, j17_2, j18_2, j19_2, j20_2, undef, undef, undef, undef, undef, undef, undef, undef, undef, undef, undef, undef], defers := [] } ∧ Spo w W base (.slice A n c) g1 b (.slice A n c) (.slice A n c) 10000000 ∧ (i ≤ n)) (fun i => n - i) 0 ⟨_, _, _, _, _, _, _, _, _, _, _, _, _, _, _, _, _, rfl, Z, (by omega)⟩ ?_
  clear Z; rintro i a W ⟨j4_2, j5_2, j6_2, j7_2, j8_2, j9_2, j10_2, j11_2, j12_2, j13_2, j14_2, j15_2, j16_2, j17_2, j18_2, j19_2, j20_2, rfl, Z, hI⟩
  refine wp_seq ?_
  refine wp_seq ?_
  refine wp_region_list ?_
  refine seq_is (v := .int .i64 ((i : Nat) : Int)) rfl (run_move rfl rfl) ?_
  (try simp only [Act.put, List.setIfInBounds_toArray, List.set_cons_zero, List.set_cons_succ])
  refine seq_is (v := .pointer (some ⟨g1, 1, none⟩)) rfl (run_field1 rfl rfl) ?_
  (try simp only [Act.put, List.setIfInBounds_toArray, List.set_cons_zero, List.set_cons_succ])
  refine seq_is (v := .slice A n c) rfl (run_loadM rfl rfl Z.bx) ?_
  (try simp only [Act.put, List.setIfInBounds_toArray, List.set_cons_zero, List.set_cons_succ])
  refine seq_is (v := .int .i64 (((n : Nat) : Int))) rfl (run_len rfl rfl) ?_
  (try simp only [Act.put, List.setIfInBounds_toArray, List.set_cons_zero, List.set_cons_succ])
  refine seq_is (v := .bool (decide ((((i : Nat) : Int)) < (((n : Nat) : Int))))) rfl (run_lss rfl rfl rfl) ?_
  (try simp only [Act.put, List.setIfInBounds_toArray, List.set_cons_zero, List.set_cons_succ])
  show Code.wp _ _ _ _ _
  refine wp_cond_split (t := decide ((((i : Nat) : Int)) < (((n : Nat) : Int)))) rfl ?_ ?_
  · intro hc1
    have p_hc1 := of_decide_eq_true hc1
    refine wp_skip ?_
    show Code.wp _ _ _ _ _
    refine wp_seq ?_
    refine wp_block ?_
    refine wp_region_still_tail 10 (by kernel_rfl) (by kernel_rfl) ?_
    show wpStill _ _ (World.drew _) _ [_, _, _, _, _, _, _, _, _, _] _
    replace Z := Z.drew
    obtain ⟨gA, xA, hA, hcA, hfA, -⟩ := Z.cell (i := i) (by omega)
    subst hA
    refine stl_is (v := .pointer (some ⟨g1, 1, none⟩)) rfl (run_field1 rfl rfl) ?_
    (try simp only [Act.put, List.setIfInBounds_toArray, List.set_cons_zero, List.set_cons_succ])
    refine stl_is (v := .slice (some ⟨gA, 0, none⟩) n c) rfl (run_loadM rfl rfl Z.bx) ?_
    (try simp only [Act.put, List.setIfInBounds_toArray, List.set_cons_zero, List.set_cons_succ])
    refine stl_is (v := .int .i64 (((i : Nat) : Int))) rfl (run_move rfl rfl) ?_
    (try simp only [Act.put, List.setIfInBounds_toArray, List.set_cons_zero, List.set_cons_succ])
    refine stl_is (v := .pointer (some ⟨g1, 1, none⟩)) rfl (run_field1 rfl rfl) ?_
    (try simp only [Act.put, List.setIfInBounds_toArray, List.set_cons_zero, List.set_cons_succ])
    refine stl_is (v := .slice (some ⟨gA, 0, none⟩) n c) rfl (run_loadM rfl rfl Z.bx) ?_
    (try simp only [Act.put, List.setIfInBounds_toArray, List.set_cons_zero, List.set_cons_succ])
    refine stl_is (v := .int .i64 (((i : Nat) : Int))) rfl (run_move rfl rfl) ?_
    (try simp only [Act.put, List.setIfInBounds_toArray, List.set_cons_zero, List.set_cons_succ])
    refine stl_is (v := .pointer (some ((⟨gA, 0, none⟩ : Addr).add i))) rfl (run_index rfl rfl rfl (by omega)) ?_
    (try simp only [Act.put, List.setIfInBounds_toArray, List.set_cons_zero, List.set_cons_succ])
    refine stl_is (v := .int .u32 xA) rfl (run_loadU rfl rfl hcA) ?_
    (try simp only [Act.put, List.setIfInBounds_toArray, List.set_cons_zero, List.set_cons_succ])
    refine stl_is (v := .int .u32 (bits .xor .u32 xA 21845)) rfl (run_xor' rfl rfl) ?_
    (try simp only [Act.put, List.setIfInBounds_toArray, List.set_cons_zero, List.set_cons_succ])
    refine stl_is (v := .pointer (some ((⟨gA, 0, none⟩ : Addr).add i))) rfl (run_index rfl rfl rfl (by omega)) ?_
    (try simp only [Act.put, List.setIfInBounds_toArray, List.set_cons_zero, List.set_cons_succ])
    refine wpStill_nil ?_
    show wpList _ _ _ [_] _ (World.drew _)
    refine list_op rfl (wp_mute (run_storeU rfl rfl rfl hcA hfA) ?_)
    (try simp only [Act.put, List.setIfInBounds_toArray, List.set_cons_zero, List.set_cons_succ])
    replace Z := Z.put (i := i) (x := bits .xor .u32 xA 21845) (by omega)
    show Code.wp _ _ _ _ _
    refine wp_region_list ?_
    refine seq_is (v := .int .i64 ((i : Nat) : Int)) rfl (run_move rfl rfl) ?_
    (try simp only [Act.put, List.setIfInBounds_toArray, List.set_cons_zero, List.set_cons_succ])
    refine seq_is (v := .int .i64 ((i + 1 : Nat) : Int)) rfl (run_inc rfl rfl (by omega)) ?_
    (try simp only [Act.put, List.setIfInBounds_toArray, List.set_cons_zero, List.set_cons_succ])
    refine seq_is (v := .int .i64 ((i + 1 : Nat) : Int)) rfl (run_assign rfl rfl) ?_
    (try simp only [Act.put, List.setIfInBounds_toArray, List.set_cons_zero, List.set_cons_succ])
    exact ⟨i + 1, (show n - (i + 1) < n - i by omega), _, _, _, _, _, _, _, _, _, _, _, _, _, _, _, _, _, rfl, Z, (by omega)⟩
  · intro hc1
    have p_hc1 := of_decide_eq_false hc1
    refine wp_exit ?_
    show Code.wp _ _ _ _ _
    refine wp_seq ?_
    refine wp_region_list ?_
    refine seq_is (v := .int .i64 (0)) rfl (run_assign rfl rfl) ?_
    (try simp only [Act.put, List.setIfInBounds_toArray, List.set_cons_zero, List.set_cons_succ])
    show Code.wp _ _ _ _ _
    refine wp_block ?_
    refine wp_loop_s (α := Nat × Sl) (fun (j, u) a W => ∃ (j21_6 j22_6 j23_6 j24_6 j25_6 j26_6 j27_6 j28_6 j29_6 j30_6 j31_6 j32_6 : Value), a = { tmps := #[.agg #[.bool (b), .slice A n c], .pointer (some ⟨g1, 0, none⟩), .int .i64 ((i : Nat) : Int), .int .i64 ((j : Nat) : Int), .int .i64 ((i : Nat) : Int), .pointer (some ⟨g1, 1, none⟩), .slice A n c, .int .i64 (((n : Nat) : Int)), .bool (decide ((((i : Nat) : Int)) < (((n : Nat) : Int)))), j9_2, j10_2, j11_2, j12_2, j13_2, j14_2, j15_2, j16_2, j17_2, j18_2, j19_2, j20_2, j21_6, j22_6, j23_6, j24_6, j25_6, j26_6, j27_6, j28_6, j29_6, j30_6, j31_6, j32_6], defers := [] } ∧ Spo w W base (.slice A n c) g1 b u.v u.v (10000000 + j) ∧ (j ≤ 9)) (fun (j, u) => 9 - j) (0, ⟨A, n, c⟩) ⟨_, _, _, _, _, _, _, _, _, _, _, _, rfl, Z, (by omega)⟩ ?_
    clear Z; rintro ⟨j, u⟩ a W ⟨j21_6, j22_6, j23_6, j24_6, j25_6, j26_6, j27_6, j28_6, j29_6, j30_6, j31_6, j32_6, rfl, Z, hI⟩
    refine wp_seq ?_
    refine wp_seq ?_
    refine wp_region_list ?_
    refine seq_is (v := .int .i64 ((j : Nat) : Int)) rfl (run_move rfl rfl) ?_
    (try simp only [Act.put, List.setIfInBounds_toArray, List.set_cons_zero, List.set_cons_succ])
    refine seq_is (v := .bool (decide ((((j : Nat) : Int)) < (9)))) rfl (run_lss rfl rfl rfl) ?_
    (try simp only [Act.put, List.setIfInBounds_toArray, List.set_cons_zero, List.set_cons_succ])
    show Code.wp _ _ _ _ _
    refine wp_cond_split (t := decide ((((j : Nat) : Int)) < (9))) rfl ?_ ?_
    · intro hc2
      have p_hc2 := of_decide_eq_true hc2
      refine wp_skip ?_
      show Code.wp _ _ _ _ _
      refine wp_seq ?_
      refine wp_block ?_
      refine wp_region_list ?_
      refine seq_is (v := .pointer (some ⟨g1, 1, none⟩)) rfl (run_field1 rfl rfl) ?_
      (try simp only [Act.put, List.setIfInBounds_toArray, List.set_cons_zero, List.set_cons_succ])
      refine seq_is (v := u.v) rfl (run_loadM rfl rfl Z.bx) ?_
      (try simp only [Act.put, List.setIfInBounds_toArray, List.set_cons_zero, List.set_cons_succ])
      refine seq_is (v := .int .i64 ((j : Nat) : Int)) rfl (run_move rfl rfl) ?_
      (try simp only [Act.put, List.setIfInBounds_toArray, List.set_cons_zero, List.set_cons_succ])
      refine seq_is (v := .int .i64 (wrap64 ((900) + (((j : Nat) : Int))))) rfl (run_add rfl rfl rfl) ?_
      (try simp only [Act.put, List.setIfInBounds_toArray, List.set_cons_zero, List.set_cons_succ])
      refine seq_is (v := .int .u32 (IntKind.u32.wrap (wrap64 ((900) + (((j : Nat) : Int)))))) rfl (run_convIU rfl rfl) ?_
      (try simp only [Act.put, List.setIfInBounds_toArray, List.set_cons_zero, List.set_cons_succ])
      refine seq_appS Z rfl rfl rfl rfl (by omega) rfl rfl rfl ?_; clear Z; intro h u1 W Z
      (try simp only [Act.put, List.setIfInBounds_toArray, List.set_cons_zero, List.set_cons_succ])
      refine seq_is (v := .pointer (some ⟨g1, 1, none⟩)) rfl (run_field1 rfl rfl) ?_
      (try simp only [Act.put, List.setIfInBounds_toArray, List.set_cons_zero, List.set_cons_succ])
      refine seq_storeS Z rfl rfl rfl rfl ?_; clear Z; intro W Z
      (try simp only [Act.put, List.setIfInBounds_toArray, List.set_cons_zero, List.set_cons_succ])
      show Code.wp _ _ _ _ _
      refine wp_region_list ?_
      refine seq_is (v := .int .i64 ((j : Nat) : Int)) rfl (run_move rfl rfl) ?_
      (try simp only [Act.put, List.setIfInBounds_toArray, List.set_cons_zero, List.set_cons_succ])
      refine seq_is (v := .int .i64 ((j + 1 : Nat) : Int)) rfl (run_inc rfl rfl (by omega)) ?_
      (try simp only [Act.put, List.setIfInBounds_toArray, List.set_cons_zero, List.set_cons_succ])
      refine seq_is (v := .int .i64 ((j + 1 : Nat) : Int)) rfl (run_assign rfl rfl) ?_
      (try simp only [Act.put, List.setIfInBounds_toArray, List.set_cons_zero, List.set_cons_succ])
      exact ⟨(j + 1, u1), (show 9 - (j + 1) < 9 - j by omega), _, _, _, _, _, _, _, _, _, _, _, _, rfl, Z, (by omega)⟩
    · intro hc2
      have p_hc2 := of_decide_eq_false hc2
      refine wp_exit ?_
      simp only [Exit.then, Exit.inBlock, if_true]
      refine bodyPost_end (results_none rfl _ _ _) rfl ?_
      exact ⟨rfl, Z.bel, Z.sp⟩
end Go.Proofs.Ytmbmbmkmjbpcpaa.PA

