/- The walk of layer 3's whole: the same numbers, limb by limb (the text of layer 2's eq). -/
import Derived.Outline
import Derived.Test.YtndopanohhdfgaaZDK
import Derived.Test.YtndopanohhdfgaaPAx0K
namespace Go.Proofs.Ytndopanohhdfgaa.PA
open Go Go.Proofs.Ytndopanohhdfgaa.Nums Go.RowKit Go.Proofs.YtndopanohhdfgaaW.PrintWords Go.Proofs.YtndopanohhdfgaaW.PrintLast Go.Proofs.YtndopanohhdfgaaW.PrintMore
set_option linter.unusedVariables false
set_option linter.unusedSimpArgs false
set_option maxHeartbeats 4000000 in
set_option maxRecDepth 100000 in
theorem trammellaw03_whole.sem {w : World} {b1 b2 : Bool} {v1 v2 : Value} {l1 l2 : List Int} (m1 : Rd w v1 l1) (m2 : Rd w v2 l2) (hl : l1.length ≤ 4611686018427387903) : Calls Try.prog 35 #[.agg #[.bool b1, v1], .agg #[.bool b2, v2]] w (RetV w (.bool (decide (b1 = b2 ∧ l1 = l2)))) := by
  obtain ⟨A1, c1, rfl, hc1, hC1⟩ := id m1
  obtain ⟨A2, c2, rfl, hc2, hC2⟩ := id m2
  have Z := Zt.start w (m1.has.append m2.has)
  clear hC1 hC2
  go_enter Try.func35, Try.ntmps35
  refine wp_seq ?_
  refine wp_region_list ?_
  refine seq_box Z rfl rfl rfl ?_; clear Z; intro g1 W Z
  (try simp only [Act.put, List.setIfInBounds_toArray, List.set_cons_zero, List.set_cons_succ])
  refine seq_box Z rfl rfl rfl ?_; clear Z; intro g2 W Z
  (try simp only [Act.put, List.setIfInBounds_toArray, List.set_cons_zero, List.set_cons_succ])
  refine seq_is (v := .bool (false)) rfl (run_assign rfl rfl) ?_
  (try simp only [Act.put, List.setIfInBounds_toArray, List.set_cons_zero, List.set_cons_succ])
  show Code.wp _ _ _ _ _
  refine wp_seq ?_
  refine wp_seq ?_
  rcases Bool.eq_false_or_eq_true ((b1) != (b2)) with hk3 | hk3
  · refine wp_region_list ?_
    refine seq_is (v := .pointer (some ⟨g1, 0, none⟩)) rfl (run_field0 rfl rfl) ?_
    (try simp only [Act.put, List.setIfInBounds_toArray, List.set_cons_zero, List.set_cons_succ])
    refine seq_is (v := .bool (b1)) rfl (run_loadN rfl rfl (Z.bx 1 rfl)) ?_
    (try simp only [Act.put, List.setIfInBounds_toArray, List.set_cons_zero, List.set_cons_succ])
    refine seq_is (v := .pointer (some ⟨g2, 0, none⟩)) rfl (run_field0 rfl rfl) ?_
    (try simp only [Act.put, List.setIfInBounds_toArray, List.set_cons_zero, List.set_cons_succ])
    refine seq_is (v := .bool (b2)) rfl (run_loadN rfl rfl (Z.bx 0 rfl)) ?_
    (try simp only [Act.put, List.setIfInBounds_toArray, List.set_cons_zero, List.set_cons_succ])
    refine seq_is (v := .bool ((b1) != (b2))) rfl (run_neqB rfl rfl rfl) ?_
    (try simp only [Act.put, List.setIfInBounds_toArray, List.set_cons_zero, List.set_cons_succ])
    refine seq_is (v := .bool ((b1) != (b2))) rfl (run_move rfl rfl) ?_
    (try simp only [Act.put, List.setIfInBounds_toArray, List.set_cons_zero, List.set_cons_succ])
    refine list_unwant rfl rfl (congrArg some (congrArg Value.bool hk3)) (by decide) ?_
    refine list_unwant rfl rfl (congrArg some (congrArg Value.bool hk3)) (by decide) ?_
    refine list_unwant rfl rfl (congrArg some (congrArg Value.bool hk3)) (by decide) ?_
    refine list_unwant rfl rfl (congrArg some (congrArg Value.bool hk3)) (by decide) ?_
    refine list_unwant rfl rfl (congrArg some (congrArg Value.bool hk3)) (by decide) ?_
    refine list_unwant rfl rfl (congrArg some (congrArg Value.bool hk3)) (by decide) ?_
    refine list_unwant rfl rfl (congrArg some (congrArg Value.bool hk3)) (by decide) ?_
    refine seq_is (v := .bool (true)) rfl (run_pickT rfl ((show _ = Value.bool ((b1) != (b2)) from rfl).trans (congrArg Value.bool hk3)) rfl) ?_
    (try simp only [Act.put, List.setIfInBounds_toArray, List.set_cons_zero, List.set_cons_succ])
    show Code.wp _ _ _ _ _
    refine wp_cond_true rfl ?_
    refine wp_seq ?_
    refine wp_region_list ?_
    refine seq_is (v := .bool (false)) rfl (run_assign rfl rfl) ?_
    (try simp only [Act.put, List.setIfInBounds_toArray, List.set_cons_zero, List.set_cons_succ])
    show Code.wp _ _ _ _ _
    refine wp_ret ?_
    exact Z.endsV (u := .bool false) rfl rfl rfl (eq_no1 hk3)
  · refine wp_region_list ?_
    refine seq_is (v := .pointer (some ⟨g1, 0, none⟩)) rfl (run_field0 rfl rfl) ?_
    (try simp only [Act.put, List.setIfInBounds_toArray, List.set_cons_zero, List.set_cons_succ])
    refine seq_is (v := .bool (b1)) rfl (run_loadN rfl rfl (Z.bx 1 rfl)) ?_
    (try simp only [Act.put, List.setIfInBounds_toArray, List.set_cons_zero, List.set_cons_succ])
    refine seq_is (v := .pointer (some ⟨g2, 0, none⟩)) rfl (run_field0 rfl rfl) ?_
    (try simp only [Act.put, List.setIfInBounds_toArray, List.set_cons_zero, List.set_cons_succ])
    refine seq_is (v := .bool (b2)) rfl (run_loadN rfl rfl (Z.bx 0 rfl)) ?_
    (try simp only [Act.put, List.setIfInBounds_toArray, List.set_cons_zero, List.set_cons_succ])
    refine seq_is (v := .bool ((b1) != (b2))) rfl (run_neqB rfl rfl rfl) ?_
    (try simp only [Act.put, List.setIfInBounds_toArray, List.set_cons_zero, List.set_cons_succ])
    refine seq_is (v := .bool ((b1) != (b2))) rfl (run_move rfl rfl) ?_
    (try simp only [Act.put, List.setIfInBounds_toArray, List.set_cons_zero, List.set_cons_succ])
    refine list_want rfl rfl (congrArg some (congrArg Value.bool hk3)) (wp_run (v := .pointer (some ⟨g1, 1, none⟩)) (run_field1 rfl rfl) ?_)
    (try simp only [Act.put, List.setIfInBounds_toArray, List.set_cons_zero, List.set_cons_succ])
    refine list_want rfl rfl (congrArg some (congrArg Value.bool hk3)) (wp_run (v := .slice A1 l1.length c1) (run_loadM rfl rfl (Z.bx 1 rfl)) ?_)
    (try simp only [Act.put, List.setIfInBounds_toArray, List.set_cons_zero, List.set_cons_succ])
    refine list_want rfl rfl (congrArg some (congrArg Value.bool hk3)) (wp_run (v := .int .i64 (((l1.length : Nat) : Int))) (run_len rfl rfl) ?_)
    (try simp only [Act.put, List.setIfInBounds_toArray, List.set_cons_zero, List.set_cons_succ])
    refine list_want rfl rfl (congrArg some (congrArg Value.bool hk3)) (wp_run (v := .pointer (some ⟨g2, 1, none⟩)) (run_field1 rfl rfl) ?_)
    (try simp only [Act.put, List.setIfInBounds_toArray, List.set_cons_zero, List.set_cons_succ])
    refine list_want rfl rfl (congrArg some (congrArg Value.bool hk3)) (wp_run (v := .slice A2 l2.length c2) (run_loadM rfl rfl (Z.bx 0 rfl)) ?_)
    (try simp only [Act.put, List.setIfInBounds_toArray, List.set_cons_zero, List.set_cons_succ])
    refine list_want rfl rfl (congrArg some (congrArg Value.bool hk3)) (wp_run (v := .int .i64 (((l2.length : Nat) : Int))) (run_len rfl rfl) ?_)
    (try simp only [Act.put, List.setIfInBounds_toArray, List.set_cons_zero, List.set_cons_succ])
    refine list_want rfl rfl (congrArg some (congrArg Value.bool hk3)) (wp_run (v := .bool (decide ((((l1.length : Nat) : Int)) ≠ (((l2.length : Nat) : Int))))) (run_neq rfl rfl rfl) ?_)
    (try simp only [Act.put, List.setIfInBounds_toArray, List.set_cons_zero, List.set_cons_succ])
    refine seq_is (v := .bool (decide ((((l1.length : Nat) : Int)) ≠ (((l2.length : Nat) : Int))))) rfl (run_pickF rfl ((show _ = Value.bool ((b1) != (b2)) from rfl).trans (congrArg Value.bool hk3)) rfl) ?_
    (try simp only [Act.put, List.setIfInBounds_toArray, List.set_cons_zero, List.set_cons_succ])
    show Code.wp _ _ _ _ _
    refine wp_cond_split (t := decide ((((l1.length : Nat) : Int)) ≠ (((l2.length : Nat) : Int)))) rfl ?_ ?_
    · intro hc4
      refine wp_seq ?_
      refine wp_region_list ?_
      refine seq_is (v := .bool (false)) rfl (run_assign rfl rfl) ?_
      (try simp only [Act.put, List.setIfInBounds_toArray, List.set_cons_zero, List.set_cons_succ])
      show Code.wp _ _ _ _ _
      refine wp_ret ?_
      exact Z.endsV (u := .bool false) rfl rfl rfl (eq_no2 hc4)
    · intro hc4
      refine wp_skip ?_
      show Code.wp _ _ _ _ _
      refine wp_seq ?_
      refine wp_seq ?_
      refine wp_region_list ?_
      refine seq_is (v := .int .i64 (0)) rfl (run_assign rfl rfl) ?_
      (try simp only [Act.put, List.setIfInBounds_toArray, List.set_cons_zero, List.set_cons_succ])
      show Code.wp _ _ _ _ _
      refine wp_block ?_
      refine wp_loop_s (α := Nat) (fun i a W => ∃ (j4_4 j20_4 j21_4 j22_4 j23_4 j24_4 j25_4 j26_4 j27_4 j28_4 j29_4 j30_4 j31_4 j32_4 j33_4 j34_4 j35_4 j36_4 j37_4 : Value), a = { tmps := #[.agg #[.bool (b1), .slice A1 l1.length c1], .agg #[.bool (b2), .slice A2 l2.length c2], .pointer (some ⟨g1, 0, none⟩), .pointer (some ⟨g2, 0, none⟩), j4_4, .int .i64 ((i : Nat) : Int), .pointer (some ⟨g1, 0, none⟩), .bool (b1), .pointer (some ⟨g2, 0, none⟩), .bool (b2), .bool ((b1) != (b2)), .bool ((b1) != (b2)), .pointer (some ⟨g1, 1, none⟩), .slice A1 l1.length c1, .int .i64 (((l1.length : Nat) : Int)), .pointer (some ⟨g2, 1, none⟩), .slice A2 l2.length c2, .int .i64 (((l2.length : Nat) : Int)), .bool (decide ((((l1.length : Nat) : Int)) ≠ (((l2.length : Nat) : Int)))), .bool (decide ((((l1.length : Nat) : Int)) ≠ (((l2.length : Nat) : Int)))), j20_4, j21_4, j22_4, j23_4, j24_4, j25_4, j26_4, j27_4, j28_4, j29_4, j30_4, j31_4, j32_4, j33_4, j34_4, j35_4, j36_4, j37_4], defers := [] } ∧ Zt w W [(.slice A1 l1.length c1, tyR l1), (.slice A2 l2.length c2, tyR l2)] [(g2, 24, #[.bool (b2), .slice A2 l2.length c2]), (g1, 24, #[.bool (b1), .slice A1 l1.length c1])] ∧ (i ≤ l1.length ∧ ∀ j, j < i → l1.getD j 0 = l2.getD j 0)) (fun i => l1.length - i) 0 ⟨_, _, _, _, _, _, _, _, _, _, _, _, _, _, _, _, _, _, _, rfl, (Z.retype (has_cons (Z.has 0 rfl) (has_cons (Z.has 1 rfl) (Has.nil _ _)))), ⟨Nat.zero_le _, fun j h => absurd h (Nat.not_lt_zero j)⟩⟩ ?_
      clear Z; rintro i a W ⟨j4_4, j20_4, j21_4, j22_4, j23_4, j24_4, j25_4, j26_4, j27_4, j28_4, j29_4, j30_4, j31_4, j32_4, j33_4, j34_4, j35_4, j36_4, j37_4, rfl, Z, hI⟩
      refine wp_seq ?_
      refine wp_seq ?_
      refine wp_region_list ?_
      refine seq_is (v := .int .i64 ((i : Nat) : Int)) rfl (run_move rfl rfl) ?_
      (try simp only [Act.put, List.setIfInBounds_toArray, List.set_cons_zero, List.set_cons_succ])
      refine seq_is (v := .pointer (some ⟨g1, 1, none⟩)) rfl (run_field1 rfl rfl) ?_
      (try simp only [Act.put, List.setIfInBounds_toArray, List.set_cons_zero, List.set_cons_succ])
      refine seq_is (v := .slice A1 l1.length c1) rfl (run_loadM rfl rfl (Z.bx 1 rfl)) ?_
      (try simp only [Act.put, List.setIfInBounds_toArray, List.set_cons_zero, List.set_cons_succ])
      refine seq_is (v := .int .i64 (((l1.length : Nat) : Int))) rfl (run_len rfl rfl) ?_
      (try simp only [Act.put, List.setIfInBounds_toArray, List.set_cons_zero, List.set_cons_succ])
      refine seq_is (v := .bool (decide ((((i : Nat) : Int)) < (((l1.length : Nat) : Int))))) rfl (run_lss rfl rfl rfl) ?_
      (try simp only [Act.put, List.setIfInBounds_toArray, List.set_cons_zero, List.set_cons_succ])
      show Code.wp _ _ _ _ _
      refine wp_cond_split (t := decide ((((i : Nat) : Int)) < (((l1.length : Nat) : Int)))) rfl ?_ ?_
      · intro hc5
        refine wp_skip ?_
        show Code.wp _ _ _ _ _
        refine wp_seq ?_
        have hlt : i < l1.length := by have := of_decide_eq_true hc5; omega
        have hlt2 : i < l2.length := by have := of_decide_eq_false hc4; omega
        obtain ⟨ad1, rfl⟩ := (Z.rd 0 rfl).nonnil hlt
        obtain ⟨ad2, rfl⟩ := (Z.rd 1 rfl).nonnil hlt2
        refine wp_block ?_
        refine wp_seq ?_
        refine wp_dag (pre := [_, _, _, _, _, _, _, _, _, _, _]) (sps := [.is (.pointer (some ⟨g1, 1, none⟩)), .is (.slice (some ad1) l1.length c1), .is (.int .i64 ((i : Nat) : Int)), .is (.pointer (some (ad1.add i))), .is (.int .u32 (l1.getD i 0)), .is (.pointer (some ⟨g2, 1, none⟩)), .is (.slice (some ad2) l2.length c2), .is (.int .i64 ((i : Nat) : Int)), .is (.pointer (some (ad2.add i))), .is (.int .u32 (l2.getD i 0)), .is (.bool (decide ((l1.getD i 0) ≠ (l2.getD i 0))))]) Z (by kernel_rfl) _ rfl (by kernel_rfl) (by kernel_rfl) rfl ⟨?_, ?_, ?_, ?_, ?_, ?_, ?_, ?_, ?_, ?_, ?_, trivial⟩ ?_
        · intro a e6 W Q Z; exact step_is (fun _ h => op_plain rfl rfl h) (run_field1 rfl (ev e6))
        · intro a x8 e9 W Q Z; exact step_is (fun _ h => op_plain rfl rfl h) (run_loadM rfl (ev e9) (Z.bx 1 rfl))
        · intro a e11 W Q Z; exact step_is (fun _ h => op_plain rfl rfl h) (run_move rfl (ev e11))
        · intro a x13 e14 x15 e16 W Q Z; exact step_is (fun _ h => op_plain rfl rfl h) (run_index rfl (ev e14) (ev e16) hlt)
        · intro a x18 e19 W Q Z; exact step_is (fun _ h => op_plain rfl rfl h) (run_loadU rfl (ev e19) ((Z.rd 0 rfl).cell hlt))
        · intro a e21 W Q Z; exact step_is (fun _ h => op_plain rfl rfl h) (run_field1 rfl (ev e21))
        · intro a x23 e24 W Q Z; exact step_is (fun _ h => op_plain rfl rfl h) (run_loadM rfl (ev e24) (Z.bx 0 rfl))
        · intro a e26 W Q Z; exact step_is (fun _ h => op_plain rfl rfl h) (run_move rfl (ev e26))
        · intro a x28 e29 x30 e31 W Q Z; exact step_is (fun _ h => op_plain rfl rfl h) (run_index rfl (ev e29) (ev e31) hlt2)
        · intro a x33 e34 W Q Z; exact step_is (fun _ h => op_plain rfl rfl h) (run_loadU rfl (ev e34) ((Z.rd 1 rfl).cell hlt2))
        · intro a x36 e37 x38 e39 W Q Z; exact step_is (fun _ h => op_plain rfl rfl h) (run_neqU rfl (ev e37) (ev e39))
        clear Z; intro x7 x10 x12 x17 x20 x22 x25 x27 x32 x35 x40 W Z
        (try simp only [Act.put, List.setIfInBounds_toArray, List.set_cons_zero, List.set_cons_succ])
        show Code.wp _ _ _ _ _
        refine wp_cond_split (t := decide ((l1.getD i 0) ≠ (l2.getD i 0))) rfl ?_ ?_
        · intro hc41
          refine wp_seq ?_
          refine wp_region_list ?_
          refine seq_is (v := .bool (false)) rfl (run_assign rfl rfl) ?_
          (try simp only [Act.put, List.setIfInBounds_toArray, List.set_cons_zero, List.set_cons_succ])
          show Code.wp _ _ _ _ _
          refine wp_ret ?_
          exact Z.endsV (u := .bool false) rfl rfl rfl (eq_no3 hc41)
        · intro hc41
          refine wp_skip ?_
          show Code.wp _ _ _ _ _
          refine wp_region_list ?_
          refine seq_is (v := .int .i64 ((i : Nat) : Int)) rfl (run_move rfl rfl) ?_
          (try simp only [Act.put, List.setIfInBounds_toArray, List.set_cons_zero, List.set_cons_succ])
          refine seq_is (v := .int .i64 (((i + 1 : Nat) : Int))) rfl (run_inc rfl rfl (by have := hlt; omega)) ?_
          (try simp only [Act.put, List.setIfInBounds_toArray, List.set_cons_zero, List.set_cons_succ])
          refine seq_is (v := .int .i64 (((i + 1 : Nat) : Int))) rfl (run_assign rfl rfl) ?_
          (try simp only [Act.put, List.setIfInBounds_toArray, List.set_cons_zero, List.set_cons_succ])
          exact ⟨i + 1, (show l1.length - (i + 1) < l1.length - i by have := hlt; omega), _, _, _, _, _, _, _, _, _, _, _, _, _, _, _, _, _, _, _, rfl, (Z.retype (has_cons (Z.has 0 rfl) (has_cons (Z.has 1 rfl) (Has.nil _ _)))), ⟨hlt, eq_more hI.2 hc41⟩⟩
      · intro hc5
        refine wp_exit ?_
        show Code.wp _ _ _ _ _
        refine wp_seq ?_
        refine wp_region_list ?_
        refine seq_is (v := .bool (true)) rfl (run_assign rfl rfl) ?_
        (try simp only [Act.put, List.setIfInBounds_toArray, List.set_cons_zero, List.set_cons_succ])
        show Code.wp _ _ _ _ _
        refine wp_ret ?_
        exact Z.endsV (u := .bool true) rfl rfl rfl (eq_yes hk3 hc4 hc5 hI)
end Go.Proofs.Ytndopanohhdfgaa.PA

