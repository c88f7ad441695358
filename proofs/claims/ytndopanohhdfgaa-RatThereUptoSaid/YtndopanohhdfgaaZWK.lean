/- The walk of Read. -/
import Derived.Outline
import Derived.Test.YtndopanohhdfgaaZreadK
import Derived.Test.YtndopanohhdfgaaPAx0K
namespace Go.Proofs.Ytndopanohhdfgaa.PA
open Go Go.Proofs.Ytndopanohhdfgaa.Nums Go.RowKit Go.Proofs.YtndopanohhdfgaaW.PrintWords Go.Proofs.YtndopanohhdfgaaW.PrintLast Go.Proofs.YtndopanohhdfgaaW.PrintMore
set_option linter.unusedVariables false
set_option linter.unusedSimpArgs false
set_option maxHeartbeats 16000000 in
set_option maxRecDepth 100000 in
theorem zint_Read.sem0 {w : World} {a0 : ByteArray} (hs : a0.size ≤ 4611686018427387903) (hq : 0 < a0.size) (p_hq2 : ¬ bt a0 0 = 45) : Calls Try.prog 99 #[.string a0] w (ResIii w (readZ a0).1 (.int .i64 (readZ a0).2.1) (.int .i64 (readZ a0).2.2)) := by
  have p_hq1 : (0 : Int) < ((a0.size : Nat) : Int) := by omega
  have hq1 : decide ((0 : Int) < ((a0.size : Nat) : Int)) = true := decide_eq_true p_hq1
  have hq2 : decide (bt a0 0 = 45) = false := decide_eq_false p_hq2
  obtain ⟨tt, htt⟩ : ∃ b : Bool, b = true := ⟨true, rfl⟩
  obtain ⟨ff, hff⟩ : ∃ b : Bool, b = false := ⟨false, rfl⟩
  have Z := Zt.start w (Has.nil w w)
  go_enter Try.func99, Try.ntmps99
  refine wp_seq ?_
  refine wp_region_list ?_
  refine seq_alloc Z rfl rfl ?_; clear Z; intro g1 W Z
  (try simp only [Act.put, List.setIfInBounds_toArray, List.set_cons_zero, List.set_cons_succ])
  refine seq_is (v := .int .i64 (0)) rfl (run_assign rfl rfl) ?_
  (try simp only [Act.put, List.setIfInBounds_toArray, List.set_cons_zero, List.set_cons_succ])
  refine seq_is (v := .int .i64 (0)) rfl (run_assign rfl rfl) ?_
  (try simp only [Act.put, List.setIfInBounds_toArray, List.set_cons_zero, List.set_cons_succ])
  show Code.wp _ _ _ _ _
  refine wp_seq ?_
  refine wp_seq ?_
  refine wp_region_list ?_
  refine seq_is (v := .string a0) rfl (run_move rfl rfl) ?_
  (try simp only [Act.put, List.setIfInBounds_toArray, List.set_cons_zero, List.set_cons_succ])
  refine seq_is (v := .int .i64 (((a0.size : Nat) : Int))) rfl (run_lenS rfl rfl) ?_
  (try simp only [Act.put, List.setIfInBounds_toArray, List.set_cons_zero, List.set_cons_succ])
  refine seq_is (v := .bool (decide ((65536) < (((a0.size : Nat) : Int))))) rfl (run_gtr rfl rfl rfl) ?_
  (try simp only [Act.put, List.setIfInBounds_toArray, List.set_cons_zero, List.set_cons_succ])
  show Code.wp _ _ _ _ _
  refine wp_cond_split (t := decide ((65536) < (((a0.size : Nat) : Int)))) rfl ?_ ?_
  · intro hc2
    have p_hc2 := of_decide_eq_true hc2
    refine wp_seq ?_
    refine wp_region_list ?_
    refine seq_is (v := .agg #[.bool (false), .slice none 0 0]) rfl (run_build0 rfl) ?_
    (try simp only [Act.put, List.setIfInBounds_toArray, List.set_cons_zero, List.set_cons_succ])
    refine seq_store Z 0 rfl rfl rfl rfl rfl ?_; clear Z; intro W Z
    (try simp only [Act.put, List.setIfInBounds_toArray, List.set_cons_zero, List.set_cons_succ])
    refine seq_is (v := .int .i64 (0)) rfl (run_assign rfl rfl) ?_
    (try simp only [Act.put, List.setIfInBounds_toArray, List.set_cons_zero, List.set_cons_succ])
    refine seq_is (v := .int .i64 (2)) rfl (run_assign rfl rfl) ?_
    (try simp only [Act.put, List.setIfInBounds_toArray, List.set_cons_zero, List.set_cons_succ])
    show Code.wp _ _ _ _ _
    refine wp_ret ?_
    have hR := readZ_long (s := a0) (by omega)
    exact Z.nought.endsIii (u := .int .i64 (0)) (u2 := .int .i64 (2)) 0 0 rfl rfl rfl rfl rfl rfl rfl (by rw [hR]; try rfl) (by rw [hR]; try rfl) (by rw [hR]; try rfl)
  · intro hc2
    have p_hc2 := of_decide_eq_false hc2
    refine wp_skip ?_
    show Code.wp _ _ _ _ _
    refine wp_seq ?_
    refine wp_region_list ?_
    refine seq_is (v := .int .i64 (0)) rfl (run_assign rfl rfl) ?_
    (try simp only [Act.put, List.setIfInBounds_toArray, List.set_cons_zero, List.set_cons_succ])
    show Code.wp _ _ _ _ _
    refine wp_seq ?_
    refine wp_seq ?_
    refine wp_region_list ?_
    refine seq_is (v := .string a0) rfl (run_move rfl rfl) ?_
    (try simp only [Act.put, List.setIfInBounds_toArray, List.set_cons_zero, List.set_cons_succ])
    refine seq_is (v := .int .i64 (((a0.size : Nat) : Int))) rfl (run_lenS rfl rfl) ?_
    (try simp only [Act.put, List.setIfInBounds_toArray, List.set_cons_zero, List.set_cons_succ])
    refine seq_is (v := .bool (decide ((0) < (((a0.size : Nat) : Int))))) rfl (run_gtr rfl rfl rfl) ?_
    (try simp only [Act.put, List.setIfInBounds_toArray, List.set_cons_zero, List.set_cons_succ])
    refine seq_is (v := .bool (decide ((0) < (((a0.size : Nat) : Int))))) rfl (run_move rfl rfl) ?_
    (try simp only [Act.put, List.setIfInBounds_toArray, List.set_cons_zero, List.set_cons_succ])
    refine list_want rfl rfl (congrArg some (congrArg Value.bool hq1)) (wp_run (v := .string a0) (run_move rfl rfl) ?_)
    (try simp only [Act.put, List.setIfInBounds_toArray, List.set_cons_zero, List.set_cons_succ])
    refine list_want rfl rfl (congrArg some (congrArg Value.bool hq1)) (wp_run (v := .int .u8 (bt a0 (0))) (run_idxS (by omega) (by omega) rfl rfl rfl) ?_)
    (try simp only [Act.put, List.setIfInBounds_toArray, List.set_cons_zero, List.set_cons_succ])
    refine list_want rfl rfl (congrArg some (congrArg Value.bool hq1)) (wp_run (v := .bool (decide ((bt a0 (0)) = (45)))) (run_eqlY rfl rfl rfl) ?_)
    (try simp only [Act.put, List.setIfInBounds_toArray, List.set_cons_zero, List.set_cons_succ])
    refine seq_is (v := .bool (decide ((bt a0 (0)) = (45)))) rfl (run_pickT rfl ((show _ = Value.bool (decide ((0) < (((a0.size : Nat) : Int)))) from rfl).trans (congrArg Value.bool hq1)) rfl) ?_
    (try simp only [Act.put, List.setIfInBounds_toArray, List.set_cons_zero, List.set_cons_succ])
    show Code.wp _ _ _ _ _
    refine wp_cond_false ((show _ = Value.bool (decide ((bt a0 (0)) = (45))) from rfl).trans (congrArg Value.bool hq2)) ?_
    refine wp_skip ?_
    show Code.wp _ _ _ _ _
    refine wp_seq ?_
    refine wp_seq ?_
    have hA : rdAt a0 = 0 := rdAt_no' p_hq2
    have hT := tlS_size (s := a0) (k := 0)
    refine wp_region_list ?_
    refine seq_is (v := .int .i64 (0)) rfl (run_move rfl rfl) ?_
    (try simp only [Act.put, List.setIfInBounds_toArray, List.set_cons_zero, List.set_cons_succ])
    refine seq_is (v := .bool (decide ((0 : Int) = (1)))) rfl (run_eql rfl rfl rfl) ?_
    (try simp only [Act.put, List.setIfInBounds_toArray, List.set_cons_zero, List.set_cons_succ])
    refine seq_is (v := .bool (decide ((0 : Int) = (1)))) rfl (run_move rfl rfl) ?_
    (try simp only [Act.put, List.setIfInBounds_toArray, List.set_cons_zero, List.set_cons_succ])
    refine list_unwant rfl rfl (congrArg some (congrArg Value.bool (Eq.refl false))) (by decide) ?_
    (try simp only [Act.put, List.setIfInBounds_toArray, List.set_cons_zero, List.set_cons_succ])
    refine list_unwant rfl rfl (congrArg some (congrArg Value.bool (Eq.refl false))) (by decide) ?_
    (try simp only [Act.put, List.setIfInBounds_toArray, List.set_cons_zero, List.set_cons_succ])
    refine list_unwant rfl rfl (congrArg some (congrArg Value.bool (Eq.refl false))) (by decide) ?_
    (try simp only [Act.put, List.setIfInBounds_toArray, List.set_cons_zero, List.set_cons_succ])
    refine seq_is (v := .bool (ff)) rfl (run_cast (run_pickF rfl rfl rfl) hff.symm) ?_
    (try simp only [Act.put, List.setIfInBounds_toArray, List.set_cons_zero, List.set_cons_succ])
    refine seq_is (v := .bool (ff)) rfl (run_move rfl rfl) ?_
    (try simp only [Act.put, List.setIfInBounds_toArray, List.set_cons_zero, List.set_cons_succ])
    refine list_unwant rfl rfl (congrArg some (congrArg Value.bool hff)) (by decide) ?_
    (try simp only [Act.put, List.setIfInBounds_toArray, List.set_cons_zero, List.set_cons_succ])
    refine list_unwant rfl rfl (congrArg some (congrArg Value.bool hff)) (by decide) ?_
    (try simp only [Act.put, List.setIfInBounds_toArray, List.set_cons_zero, List.set_cons_succ])
    refine list_unwant rfl rfl (congrArg some (congrArg Value.bool hff)) (by decide) ?_
    (try simp only [Act.put, List.setIfInBounds_toArray, List.set_cons_zero, List.set_cons_succ])
    refine seq_is (v := .bool (ff)) rfl (run_cast (run_pickF rfl ((show _ = Value.bool (ff) from rfl).trans (congrArg Value.bool hff)) rfl) hff.symm) ?_
    (try simp only [Act.put, List.setIfInBounds_toArray, List.set_cons_zero, List.set_cons_succ])
    show Code.wp _ _ _ _ _
    refine wp_cond_false ((show _ = Value.bool (ff) from rfl).trans (congrArg Value.bool hff)) ?_
    refine wp_skip ?_
    show Code.wp _ _ _ _ _
    refine wp_seq ?_
    refine wp_seq ?_
    have hz : ¬ (0 = 1 ∧ 1 < a0.size ∧ bt a0 1 = 48) := by omega
    refine wp_region_list ?_
    refine seq_is (v := .int .i64 (0)) rfl (run_move rfl rfl) ?_
    (try simp only [Act.put, List.setIfInBounds_toArray, List.set_cons_zero, List.set_cons_succ])
    refine seq_is (v := .int .i64 (0)) rfl (run_assign rfl rfl) ?_
    (try simp only [Act.put, List.setIfInBounds_toArray, List.set_cons_zero, List.set_cons_succ])
    show Code.wp _ _ _ _ _
    refine wp_block ?_
    refine wp_loop_s (α := Nat) (fun j a W => ∃ (j3_9 j4_9 j37_9 j38_9 j39_9 j40_9 j41_9 j42_9 j43_9 j44_9 j45_9 j46_9 j47_9 j48_9 j49_9 j50_9 j51_9 j52_9 j53_9 j54_9 j55_9 j56_9 j57_9 j58_9 j59_9 j60_9 j61_9 j62_9 j63_9 j64_9 j65_9 j66_9 : Value), a = { tmps := #[.string a0, undef, .pointer (some ⟨g1, 0, none⟩), j3_9, j4_9, .int .i64 (0), .int .i64 ((j : Nat) : Int), undef, undef, undef, undef, .string a0, .int .i64 (((a0.size : Nat) : Int)), .bool (decide ((65536) < (((a0.size : Nat) : Int)))), undef, .string a0, .int .i64 (((a0.size : Nat) : Int)), .bool (decide ((0) < (((a0.size : Nat) : Int)))), .bool (decide ((0) < (((a0.size : Nat) : Int)))), .string a0, .int .u8 (bt a0 (0)), .bool (decide ((bt a0 (0)) = (45))), .bool (decide ((bt a0 (0)) = (45))), .int .i64 (0), .bool (decide ((0 : Int) = (1))), .bool (decide ((0 : Int) = (1))), undef, undef, undef, .bool (ff), .bool (ff), undef, undef, undef, .bool (ff), undef, .int .i64 (0), j37_9, j38_9, j39_9, j40_9, j41_9, j42_9, j43_9, j44_9, j45_9, j46_9, j47_9, j48_9, j49_9, j50_9, j51_9, j52_9, j53_9, j54_9, j55_9, j56_9, j57_9, j58_9, j59_9, j60_9, j61_9, j62_9, j63_9, j64_9, j65_9, j66_9, undef, undef, undef, undef, undef, undef, undef, undef, undef, undef, undef, undef, undef, undef, undef, undef, undef, undef, undef, undef, undef, undef, undef, undef, undef, undef, undef, undef, undef, undef, undef, undef, undef, undef, undef, undef, undef, undef, undef, undef, undef, undef], defers := [] } ∧ Zt w W [] [(g1, 24, #[.bool (false), .slice none 0 0])] ∧ (j ≤ (tlS a0 0).size ∧ ∀ k, k < j → badAt (tlS a0 0) k = false)) (fun j => a0.size - j) 0 ⟨_, _, _, _, _, _, _, _, _, _, _, _, _, _, _, _, _, _, _, _, _, _, _, _, _, _, _, _, _, _, _, _, rfl, (Z.retype (Has.nil _ _)), ⟨Nat.zero_le _, fun k h => by omega⟩⟩ ?_
    clear Z; rintro j a W ⟨j3_9, j4_9, j37_9, j38_9, j39_9, j40_9, j41_9, j42_9, j43_9, j44_9, j45_9, j46_9, j47_9, j48_9, j49_9, j50_9, j51_9, j52_9, j53_9, j54_9, j55_9, j56_9, j57_9, j58_9, j59_9, j60_9, j61_9, j62_9, j63_9, j64_9, j65_9, j66_9, rfl, Z, hI⟩
    obtain ⟨hj, hg⟩ := hI
    have hbr := bt_range a0 (((j : Nat) : Int))
    refine wp_seq ?_
    refine wp_seq ?_
    refine wp_region_list ?_
    refine seq_is (v := .int .i64 ((j : Nat) : Int)) rfl (run_move rfl rfl) ?_
    (try simp only [Act.put, List.setIfInBounds_toArray, List.set_cons_zero, List.set_cons_succ])
    refine seq_is (v := .string a0) rfl (run_move rfl rfl) ?_
    (try simp only [Act.put, List.setIfInBounds_toArray, List.set_cons_zero, List.set_cons_succ])
    refine seq_is (v := .int .i64 (((a0.size : Nat) : Int))) rfl (run_lenS rfl rfl) ?_
    (try simp only [Act.put, List.setIfInBounds_toArray, List.set_cons_zero, List.set_cons_succ])
    refine seq_is (v := .bool (decide ((((j : Nat) : Int)) < (((a0.size : Nat) : Int))))) rfl (run_lss rfl rfl rfl) ?_
    (try simp only [Act.put, List.setIfInBounds_toArray, List.set_cons_zero, List.set_cons_succ])
    show Code.wp _ _ _ _ _
    refine wp_cond_split (t := decide ((((j : Nat) : Int)) < (((a0.size : Nat) : Int)))) rfl ?_ ?_
    · intro hc3
      have p_hc3 := of_decide_eq_true hc3
      refine wp_skip ?_
      show Code.wp _ _ _ _ _
      refine wp_seq ?_
      refine wp_block ?_
      refine wp_seq ?_
      rcases Bool.eq_false_or_eq_true (decide ((bt a0 (((j : Nat) : Int))) < (48))) with hk4 | hk4
      · have p_hk4 := of_decide_eq_true hk4
        refine wp_region_list ?_
        refine seq_is (v := .string a0) rfl (run_move rfl rfl) ?_
        (try simp only [Act.put, List.setIfInBounds_toArray, List.set_cons_zero, List.set_cons_succ])
        refine seq_is (v := .int .i64 ((j : Nat) : Int)) rfl (run_move rfl rfl) ?_
        (try simp only [Act.put, List.setIfInBounds_toArray, List.set_cons_zero, List.set_cons_succ])
        refine seq_is (v := .int .u8 (bt a0 (((j : Nat) : Int)))) rfl (run_idxS (by omega) (by omega) rfl rfl rfl) ?_
        (try simp only [Act.put, List.setIfInBounds_toArray, List.set_cons_zero, List.set_cons_succ])
        refine seq_is (v := .bool (decide ((bt a0 (((j : Nat) : Int))) < (48)))) rfl (run_lssY rfl rfl rfl) ?_
        (try simp only [Act.put, List.setIfInBounds_toArray, List.set_cons_zero, List.set_cons_succ])
        refine seq_is (v := .bool (decide ((bt a0 (((j : Nat) : Int))) < (48)))) rfl (run_move rfl rfl) ?_
        (try simp only [Act.put, List.setIfInBounds_toArray, List.set_cons_zero, List.set_cons_succ])
        refine list_unwant rfl rfl (congrArg some (congrArg Value.bool hk4)) (by decide) ?_
        (try simp only [Act.put, List.setIfInBounds_toArray, List.set_cons_zero, List.set_cons_succ])
        refine list_unwant rfl rfl (congrArg some (congrArg Value.bool hk4)) (by decide) ?_
        (try simp only [Act.put, List.setIfInBounds_toArray, List.set_cons_zero, List.set_cons_succ])
        refine list_unwant rfl rfl (congrArg some (congrArg Value.bool hk4)) (by decide) ?_
        (try simp only [Act.put, List.setIfInBounds_toArray, List.set_cons_zero, List.set_cons_succ])
        refine list_unwant rfl rfl (congrArg some (congrArg Value.bool hk4)) (by decide) ?_
        (try simp only [Act.put, List.setIfInBounds_toArray, List.set_cons_zero, List.set_cons_succ])
        refine seq_is (v := .bool (tt)) rfl (run_cast (run_pickT rfl ((show _ = Value.bool (decide ((bt a0 (((j : Nat) : Int))) < (48))) from rfl).trans (congrArg Value.bool hk4)) rfl) htt.symm) ?_
        (try simp only [Act.put, List.setIfInBounds_toArray, List.set_cons_zero, List.set_cons_succ])
        refine seq_is (v := .bool (tt)) rfl (run_move rfl rfl) ?_
        (try simp only [Act.put, List.setIfInBounds_toArray, List.set_cons_zero, List.set_cons_succ])
        refine list_unwant rfl rfl (congrArg some (congrArg Value.bool htt)) (by decide) ?_
        (try simp only [Act.put, List.setIfInBounds_toArray, List.set_cons_zero, List.set_cons_succ])
        refine list_unwant rfl rfl (congrArg some (congrArg Value.bool htt)) (by decide) ?_
        (try simp only [Act.put, List.setIfInBounds_toArray, List.set_cons_zero, List.set_cons_succ])
        refine list_unwant rfl rfl (congrArg some (congrArg Value.bool htt)) (by decide) ?_
        (try simp only [Act.put, List.setIfInBounds_toArray, List.set_cons_zero, List.set_cons_succ])
        refine list_unwant rfl rfl (congrArg some (congrArg Value.bool htt)) (by decide) ?_
        (try simp only [Act.put, List.setIfInBounds_toArray, List.set_cons_zero, List.set_cons_succ])
        refine list_unwant rfl rfl (congrArg some (congrArg Value.bool htt)) (by decide) ?_
        (try simp only [Act.put, List.setIfInBounds_toArray, List.set_cons_zero, List.set_cons_succ])
        refine list_unwantU rfl rfl rfl ?_
        (try simp only [Act.put, List.setIfInBounds_toArray, List.set_cons_zero, List.set_cons_succ])
        refine list_unwantU rfl rfl rfl ?_
        (try simp only [Act.put, List.setIfInBounds_toArray, List.set_cons_zero, List.set_cons_succ])
        refine list_unwantU rfl rfl rfl ?_
        (try simp only [Act.put, List.setIfInBounds_toArray, List.set_cons_zero, List.set_cons_succ])
        refine list_unwantU rfl rfl rfl ?_
        (try simp only [Act.put, List.setIfInBounds_toArray, List.set_cons_zero, List.set_cons_succ])
        refine list_unwant rfl rfl (congrArg some (congrArg Value.bool htt)) (by decide) ?_
        (try simp only [Act.put, List.setIfInBounds_toArray, List.set_cons_zero, List.set_cons_succ])
        refine seq_is (v := .bool (tt)) rfl (run_cast (run_pickT rfl ((show _ = Value.bool (tt) from rfl).trans (congrArg Value.bool htt)) rfl) htt.symm) ?_
        (try simp only [Act.put, List.setIfInBounds_toArray, List.set_cons_zero, List.set_cons_succ])
        show Code.wp _ _ _ _ _
        refine wp_cond_true ((show _ = Value.bool (tt) from rfl).trans (congrArg Value.bool htt)) ?_
        refine wp_seq ?_
        refine wp_region_list ?_
        refine seq_is (v := .agg #[.bool (false), .slice none 0 0]) rfl (run_build0 rfl) ?_
        (try simp only [Act.put, List.setIfInBounds_toArray, List.set_cons_zero, List.set_cons_succ])
        refine seq_is (v := .int .i64 ((j : Nat) : Int)) rfl (run_move rfl rfl) ?_
        (try simp only [Act.put, List.setIfInBounds_toArray, List.set_cons_zero, List.set_cons_succ])
        refine seq_store Z 0 rfl rfl rfl rfl rfl ?_; clear Z; intro W Z
        (try simp only [Act.put, List.setIfInBounds_toArray, List.set_cons_zero, List.set_cons_succ])
        refine seq_is (v := .int .i64 ((j : Nat) : Int)) rfl (run_assign rfl rfl) ?_
        (try simp only [Act.put, List.setIfInBounds_toArray, List.set_cons_zero, List.set_cons_succ])
        refine seq_is (v := .int .i64 (4)) rfl (run_assign rfl rfl) ?_
        (try simp only [Act.put, List.setIfInBounds_toArray, List.set_cons_zero, List.set_cons_succ])
        show Code.wp _ _ _ _ _
        refine wp_ret ?_
        have hR := (readZ_err' (by omega) hA hz (rd_bad (by omega) hg (bad_lo hk4)))
        exact Z.nought.endsIii (u := .int .i64 ((j : Nat) : Int)) (u2 := .int .i64 (4)) 0 0 rfl rfl rfl rfl rfl rfl rfl (by rw [hR]; try rfl) (by rw [hR]; refine congrArg (Value.int .i64) ?_; dsimp only; omega) (by rw [hR]; try rfl)
      · have p_hk4 := of_decide_eq_false hk4
        rcases Bool.eq_false_or_eq_true (decide ((57) < (bt a0 (((j : Nat) : Int))))) with hk5 | hk5
        · have p_hk5 := of_decide_eq_true hk5
          refine wp_region_list ?_
          refine seq_is (v := .string a0) rfl (run_move rfl rfl) ?_
          (try simp only [Act.put, List.setIfInBounds_toArray, List.set_cons_zero, List.set_cons_succ])
          refine seq_is (v := .int .i64 ((j : Nat) : Int)) rfl (run_move rfl rfl) ?_
          (try simp only [Act.put, List.setIfInBounds_toArray, List.set_cons_zero, List.set_cons_succ])
          refine seq_is (v := .int .u8 (bt a0 (((j : Nat) : Int)))) rfl (run_idxS (by omega) (by omega) rfl rfl rfl) ?_
          (try simp only [Act.put, List.setIfInBounds_toArray, List.set_cons_zero, List.set_cons_succ])
          refine seq_is (v := .bool (decide ((bt a0 (((j : Nat) : Int))) < (48)))) rfl (run_lssY rfl rfl rfl) ?_
          (try simp only [Act.put, List.setIfInBounds_toArray, List.set_cons_zero, List.set_cons_succ])
          refine seq_is (v := .bool (decide ((bt a0 (((j : Nat) : Int))) < (48)))) rfl (run_move rfl rfl) ?_
          (try simp only [Act.put, List.setIfInBounds_toArray, List.set_cons_zero, List.set_cons_succ])
          refine list_want rfl rfl (congrArg some (congrArg Value.bool hk4)) (wp_run (v := .string a0) (run_move rfl rfl) ?_)
          (try simp only [Act.put, List.setIfInBounds_toArray, List.set_cons_zero, List.set_cons_succ])
          refine list_want rfl rfl (congrArg some (congrArg Value.bool hk4)) (wp_run (v := .int .i64 ((j : Nat) : Int)) (run_move rfl rfl) ?_)
          (try simp only [Act.put, List.setIfInBounds_toArray, List.set_cons_zero, List.set_cons_succ])
          refine list_want rfl rfl (congrArg some (congrArg Value.bool hk4)) (wp_run (v := .int .u8 (bt a0 (((j : Nat) : Int)))) (run_idxS (by omega) (by omega) rfl rfl rfl) ?_)
          (try simp only [Act.put, List.setIfInBounds_toArray, List.set_cons_zero, List.set_cons_succ])
          refine list_want rfl rfl (congrArg some (congrArg Value.bool hk4)) (wp_run (v := .bool (decide ((57) < (bt a0 (((j : Nat) : Int)))))) (run_gtrY rfl rfl rfl) ?_)
          (try simp only [Act.put, List.setIfInBounds_toArray, List.set_cons_zero, List.set_cons_succ])
          refine seq_is (v := .bool (decide ((57) < (bt a0 (((j : Nat) : Int)))))) rfl (run_pickF rfl ((show _ = Value.bool (decide ((bt a0 (((j : Nat) : Int))) < (48))) from rfl).trans (congrArg Value.bool hk4)) rfl) ?_
          (try simp only [Act.put, List.setIfInBounds_toArray, List.set_cons_zero, List.set_cons_succ])
          refine seq_is (v := .bool (decide ((57) < (bt a0 (((j : Nat) : Int)))))) rfl (run_move rfl rfl) ?_
          (try simp only [Act.put, List.setIfInBounds_toArray, List.set_cons_zero, List.set_cons_succ])
          refine list_unwant rfl rfl (congrArg some (congrArg Value.bool hk5)) (by decide) ?_
          (try simp only [Act.put, List.setIfInBounds_toArray, List.set_cons_zero, List.set_cons_succ])
          refine list_unwant rfl rfl (congrArg some (congrArg Value.bool hk5)) (by decide) ?_
          (try simp only [Act.put, List.setIfInBounds_toArray, List.set_cons_zero, List.set_cons_succ])
          refine list_unwant rfl rfl (congrArg some (congrArg Value.bool hk5)) (by decide) ?_
          (try simp only [Act.put, List.setIfInBounds_toArray, List.set_cons_zero, List.set_cons_succ])
          refine list_unwant rfl rfl (congrArg some (congrArg Value.bool hk5)) (by decide) ?_
          (try simp only [Act.put, List.setIfInBounds_toArray, List.set_cons_zero, List.set_cons_succ])
          refine list_unwant rfl rfl (congrArg some (congrArg Value.bool hk5)) (by decide) ?_
          (try simp only [Act.put, List.setIfInBounds_toArray, List.set_cons_zero, List.set_cons_succ])
          refine list_unwantU rfl rfl rfl ?_
          (try simp only [Act.put, List.setIfInBounds_toArray, List.set_cons_zero, List.set_cons_succ])
          refine list_unwantU rfl rfl rfl ?_
          (try simp only [Act.put, List.setIfInBounds_toArray, List.set_cons_zero, List.set_cons_succ])
          refine list_unwantU rfl rfl rfl ?_
          (try simp only [Act.put, List.setIfInBounds_toArray, List.set_cons_zero, List.set_cons_succ])
          refine list_unwantU rfl rfl rfl ?_
          (try simp only [Act.put, List.setIfInBounds_toArray, List.set_cons_zero, List.set_cons_succ])
          refine list_unwant rfl rfl (congrArg some (congrArg Value.bool hk5)) (by decide) ?_
          (try simp only [Act.put, List.setIfInBounds_toArray, List.set_cons_zero, List.set_cons_succ])
          refine seq_is (v := .bool (tt)) rfl (run_cast (run_pickT rfl ((show _ = Value.bool (decide ((57) < (bt a0 (((j : Nat) : Int))))) from rfl).trans (congrArg Value.bool hk5)) rfl) htt.symm) ?_
          (try simp only [Act.put, List.setIfInBounds_toArray, List.set_cons_zero, List.set_cons_succ])
          show Code.wp _ _ _ _ _
          refine wp_cond_true ((show _ = Value.bool (tt) from rfl).trans (congrArg Value.bool htt)) ?_
          refine wp_seq ?_
          refine wp_region_list ?_
          refine seq_is (v := .agg #[.bool (false), .slice none 0 0]) rfl (run_build0 rfl) ?_
          (try simp only [Act.put, List.setIfInBounds_toArray, List.set_cons_zero, List.set_cons_succ])
          refine seq_is (v := .int .i64 ((j : Nat) : Int)) rfl (run_move rfl rfl) ?_
          (try simp only [Act.put, List.setIfInBounds_toArray, List.set_cons_zero, List.set_cons_succ])
          refine seq_store Z 0 rfl rfl rfl rfl rfl ?_; clear Z; intro W Z
          (try simp only [Act.put, List.setIfInBounds_toArray, List.set_cons_zero, List.set_cons_succ])
          refine seq_is (v := .int .i64 ((j : Nat) : Int)) rfl (run_assign rfl rfl) ?_
          (try simp only [Act.put, List.setIfInBounds_toArray, List.set_cons_zero, List.set_cons_succ])
          refine seq_is (v := .int .i64 (4)) rfl (run_assign rfl rfl) ?_
          (try simp only [Act.put, List.setIfInBounds_toArray, List.set_cons_zero, List.set_cons_succ])
          show Code.wp _ _ _ _ _
          refine wp_ret ?_
          have hR := (readZ_err' (by omega) hA hz (rd_bad (by omega) hg (bad_hi hk5)))
          exact Z.nought.endsIii (u := .int .i64 ((j : Nat) : Int)) (u2 := .int .i64 (4)) 0 0 rfl rfl rfl rfl rfl rfl rfl (by rw [hR]; try rfl) (by rw [hR]; refine congrArg (Value.int .i64) ?_; dsimp only; omega) (by rw [hR]; try rfl)
        · have p_hk5 := of_decide_eq_false hk5
          rcases Bool.eq_false_or_eq_true (decide ((((j : Nat) : Int)) = (1))) with hk6 | hk6
          · have p_hk6 := of_decide_eq_true hk6
            refine wp_region_list ?_
            refine seq_is (v := .string a0) rfl (run_move rfl rfl) ?_
            (try simp only [Act.put, List.setIfInBounds_toArray, List.set_cons_zero, List.set_cons_succ])
            refine seq_is (v := .int .i64 ((j : Nat) : Int)) rfl (run_move rfl rfl) ?_
            (try simp only [Act.put, List.setIfInBounds_toArray, List.set_cons_zero, List.set_cons_succ])
            refine seq_is (v := .int .u8 (bt a0 (((j : Nat) : Int)))) rfl (run_idxS (by omega) (by omega) rfl rfl rfl) ?_
            (try simp only [Act.put, List.setIfInBounds_toArray, List.set_cons_zero, List.set_cons_succ])
            refine seq_is (v := .bool (decide ((bt a0 (((j : Nat) : Int))) < (48)))) rfl (run_lssY rfl rfl rfl) ?_
            (try simp only [Act.put, List.setIfInBounds_toArray, List.set_cons_zero, List.set_cons_succ])
            refine seq_is (v := .bool (decide ((bt a0 (((j : Nat) : Int))) < (48)))) rfl (run_move rfl rfl) ?_
            (try simp only [Act.put, List.setIfInBounds_toArray, List.set_cons_zero, List.set_cons_succ])
            refine list_want rfl rfl (congrArg some (congrArg Value.bool hk4)) (wp_run (v := .string a0) (run_move rfl rfl) ?_)
            (try simp only [Act.put, List.setIfInBounds_toArray, List.set_cons_zero, List.set_cons_succ])
            refine list_want rfl rfl (congrArg some (congrArg Value.bool hk4)) (wp_run (v := .int .i64 ((j : Nat) : Int)) (run_move rfl rfl) ?_)
            (try simp only [Act.put, List.setIfInBounds_toArray, List.set_cons_zero, List.set_cons_succ])
            refine list_want rfl rfl (congrArg some (congrArg Value.bool hk4)) (wp_run (v := .int .u8 (bt a0 (((j : Nat) : Int)))) (run_idxS (by omega) (by omega) rfl rfl rfl) ?_)
            (try simp only [Act.put, List.setIfInBounds_toArray, List.set_cons_zero, List.set_cons_succ])
            refine list_want rfl rfl (congrArg some (congrArg Value.bool hk4)) (wp_run (v := .bool (decide ((57) < (bt a0 (((j : Nat) : Int)))))) (run_gtrY rfl rfl rfl) ?_)
            (try simp only [Act.put, List.setIfInBounds_toArray, List.set_cons_zero, List.set_cons_succ])
            refine seq_is (v := .bool (decide ((57) < (bt a0 (((j : Nat) : Int)))))) rfl (run_pickF rfl ((show _ = Value.bool (decide ((bt a0 (((j : Nat) : Int))) < (48))) from rfl).trans (congrArg Value.bool hk4)) rfl) ?_
            (try simp only [Act.put, List.setIfInBounds_toArray, List.set_cons_zero, List.set_cons_succ])
            refine seq_is (v := .bool (decide ((57) < (bt a0 (((j : Nat) : Int)))))) rfl (run_move rfl rfl) ?_
            (try simp only [Act.put, List.setIfInBounds_toArray, List.set_cons_zero, List.set_cons_succ])
            refine list_want rfl rfl (congrArg some (congrArg Value.bool hk5)) (wp_run (v := .int .i64 ((j : Nat) : Int)) (run_move rfl rfl) ?_)
            (try simp only [Act.put, List.setIfInBounds_toArray, List.set_cons_zero, List.set_cons_succ])
            refine list_want rfl rfl (congrArg some (congrArg Value.bool hk5)) (wp_run (v := .int .i64 (0)) (run_move rfl rfl) ?_)
            (try simp only [Act.put, List.setIfInBounds_toArray, List.set_cons_zero, List.set_cons_succ])
            refine list_want rfl rfl (congrArg some (congrArg Value.bool hk5)) (wp_run (v := .int .i64 (1)) (run_add' (w64 (by decide) (by decide)) rfl rfl rfl) ?_)
            (try simp only [Act.put, List.setIfInBounds_toArray, List.set_cons_zero, List.set_cons_succ])
            refine list_want rfl rfl (congrArg some (congrArg Value.bool hk5)) (wp_run (v := .bool (decide ((((j : Nat) : Int)) = (1)))) (run_eql rfl rfl rfl) ?_)
            (try simp only [Act.put, List.setIfInBounds_toArray, List.set_cons_zero, List.set_cons_succ])
            refine list_want rfl rfl (congrArg some (congrArg Value.bool hk5)) (wp_run (v := .bool (decide ((((j : Nat) : Int)) = (1)))) (run_move rfl rfl) ?_)
            (try simp only [Act.put, List.setIfInBounds_toArray, List.set_cons_zero, List.set_cons_succ])
            refine list_want rfl rfl (congrArg some (congrArg Value.bool hk6)) (wp_run (v := .string a0) (run_move rfl rfl) ?_)
            (try simp only [Act.put, List.setIfInBounds_toArray, List.set_cons_zero, List.set_cons_succ])
            refine list_want rfl rfl (congrArg some (congrArg Value.bool hk6)) (wp_run (v := .int .i64 (0)) (run_move rfl rfl) ?_)
            (try simp only [Act.put, List.setIfInBounds_toArray, List.set_cons_zero, List.set_cons_succ])
            refine list_want rfl rfl (congrArg some (congrArg Value.bool hk6)) (wp_run (v := .int .u8 (bt a0 (0))) (run_idxS (by omega) (by omega) rfl rfl rfl) ?_)
            (try simp only [Act.put, List.setIfInBounds_toArray, List.set_cons_zero, List.set_cons_succ])
            refine list_want rfl rfl (congrArg some (congrArg Value.bool hk6)) (wp_run (v := .bool (decide ((bt a0 (0)) = (48)))) (run_eqlY rfl rfl rfl) ?_)
            (try simp only [Act.put, List.setIfInBounds_toArray, List.set_cons_zero, List.set_cons_succ])
            refine list_want rfl rfl (congrArg some (congrArg Value.bool hk5)) (wp_run (v := .bool (decide ((bt a0 (0)) = (48)))) (run_pickT rfl ((show _ = Value.bool (decide ((((j : Nat) : Int)) = (1))) from rfl).trans (congrArg Value.bool hk6)) rfl) ?_)
            (try simp only [Act.put, List.setIfInBounds_toArray, List.set_cons_zero, List.set_cons_succ])
            refine seq_is (v := .bool (decide ((bt a0 (0)) = (48)))) rfl (run_pickF rfl ((show _ = Value.bool (decide ((57) < (bt a0 (((j : Nat) : Int))))) from rfl).trans (congrArg Value.bool hk5)) rfl) ?_
            (try simp only [Act.put, List.setIfInBounds_toArray, List.set_cons_zero, List.set_cons_succ])
            show Code.wp _ _ _ _ _
            refine wp_cond_split (t := decide ((bt a0 (0)) = (48))) rfl ?_ ?_
            · intro hc7
              have p_hc7 := of_decide_eq_true hc7
              refine wp_seq ?_
              refine wp_region_list ?_
              refine seq_is (v := .agg #[.bool (false), .slice none 0 0]) rfl (run_build0 rfl) ?_
              (try simp only [Act.put, List.setIfInBounds_toArray, List.set_cons_zero, List.set_cons_succ])
              refine seq_is (v := .int .i64 ((j : Nat) : Int)) rfl (run_move rfl rfl) ?_
              (try simp only [Act.put, List.setIfInBounds_toArray, List.set_cons_zero, List.set_cons_succ])
              refine seq_store Z 0 rfl rfl rfl rfl rfl ?_; clear Z; intro W Z
              (try simp only [Act.put, List.setIfInBounds_toArray, List.set_cons_zero, List.set_cons_succ])
              refine seq_is (v := .int .i64 ((j : Nat) : Int)) rfl (run_assign rfl rfl) ?_
              (try simp only [Act.put, List.setIfInBounds_toArray, List.set_cons_zero, List.set_cons_succ])
              refine seq_is (v := .int .i64 (4)) rfl (run_assign rfl rfl) ?_
              (try simp only [Act.put, List.setIfInBounds_toArray, List.set_cons_zero, List.set_cons_succ])
              show Code.wp _ _ _ _ _
              refine wp_ret ?_
              have hR := (readZ_err' (by omega) hA hz (rd_bad (by omega) hg (bad_no (by omega) p_hc7)))
              exact Z.nought.endsIii (u := .int .i64 ((j : Nat) : Int)) (u2 := .int .i64 (4)) 0 0 rfl rfl rfl rfl rfl rfl rfl (by rw [hR]; try rfl) (by rw [hR]; refine congrArg (Value.int .i64) ?_; dsimp only; omega) (by rw [hR]; try rfl)
            · intro hc7
              have p_hc7 := of_decide_eq_false hc7
              refine wp_skip ?_
              show Code.wp _ _ _ _ _
              refine wp_region_list ?_
              refine seq_is (v := .int .i64 ((j : Nat) : Int)) rfl (run_move rfl rfl) ?_
              (try simp only [Act.put, List.setIfInBounds_toArray, List.set_cons_zero, List.set_cons_succ])
              refine seq_is (v := .int .i64 (((j + 1 : Nat) : Int))) rfl (run_inc rfl rfl (by omega)) ?_
              (try simp only [Act.put, List.setIfInBounds_toArray, List.set_cons_zero, List.set_cons_succ])
              refine seq_is (v := .int .i64 (((j + 1 : Nat) : Int))) rfl (run_assign rfl rfl) ?_
              (try simp only [Act.put, List.setIfInBounds_toArray, List.set_cons_zero, List.set_cons_succ])
              exact ⟨j + 1, (show a0.size - (j + 1) < a0.size - j by omega), _, _, _, _, _, _, _, _, _, _, _, _, _, _, _, _, _, _, _, _, _, _, _, _, _, _, _, _, _, _, _, _, rfl, ((Z).retype (Has.nil _ _)), ⟨by omega, fun k h => by by_cases e : k = j; (rw [e]; exact (good_at p_hk4 p_hk5 (fun _ => p_hc7))); exact hg k (by omega)⟩⟩
          · have p_hk6 := of_decide_eq_false hk6
            refine wp_region_list ?_
            refine seq_is (v := .string a0) rfl (run_move rfl rfl) ?_
            (try simp only [Act.put, List.setIfInBounds_toArray, List.set_cons_zero, List.set_cons_succ])
            refine seq_is (v := .int .i64 ((j : Nat) : Int)) rfl (run_move rfl rfl) ?_
            (try simp only [Act.put, List.setIfInBounds_toArray, List.set_cons_zero, List.set_cons_succ])
            refine seq_is (v := .int .u8 (bt a0 (((j : Nat) : Int)))) rfl (run_idxS (by omega) (by omega) rfl rfl rfl) ?_
            (try simp only [Act.put, List.setIfInBounds_toArray, List.set_cons_zero, List.set_cons_succ])
            refine seq_is (v := .bool (decide ((bt a0 (((j : Nat) : Int))) < (48)))) rfl (run_lssY rfl rfl rfl) ?_
            (try simp only [Act.put, List.setIfInBounds_toArray, List.set_cons_zero, List.set_cons_succ])
            refine seq_is (v := .bool (decide ((bt a0 (((j : Nat) : Int))) < (48)))) rfl (run_move rfl rfl) ?_
            (try simp only [Act.put, List.setIfInBounds_toArray, List.set_cons_zero, List.set_cons_succ])
            refine list_want rfl rfl (congrArg some (congrArg Value.bool hk4)) (wp_run (v := .string a0) (run_move rfl rfl) ?_)
            (try simp only [Act.put, List.setIfInBounds_toArray, List.set_cons_zero, List.set_cons_succ])
            refine list_want rfl rfl (congrArg some (congrArg Value.bool hk4)) (wp_run (v := .int .i64 ((j : Nat) : Int)) (run_move rfl rfl) ?_)
            (try simp only [Act.put, List.setIfInBounds_toArray, List.set_cons_zero, List.set_cons_succ])
            refine list_want rfl rfl (congrArg some (congrArg Value.bool hk4)) (wp_run (v := .int .u8 (bt a0 (((j : Nat) : Int)))) (run_idxS (by omega) (by omega) rfl rfl rfl) ?_)
            (try simp only [Act.put, List.setIfInBounds_toArray, List.set_cons_zero, List.set_cons_succ])
            refine list_want rfl rfl (congrArg some (congrArg Value.bool hk4)) (wp_run (v := .bool (decide ((57) < (bt a0 (((j : Nat) : Int)))))) (run_gtrY rfl rfl rfl) ?_)
            (try simp only [Act.put, List.setIfInBounds_toArray, List.set_cons_zero, List.set_cons_succ])
            refine seq_is (v := .bool (decide ((57) < (bt a0 (((j : Nat) : Int)))))) rfl (run_pickF rfl ((show _ = Value.bool (decide ((bt a0 (((j : Nat) : Int))) < (48))) from rfl).trans (congrArg Value.bool hk4)) rfl) ?_
            (try simp only [Act.put, List.setIfInBounds_toArray, List.set_cons_zero, List.set_cons_succ])
            refine seq_is (v := .bool (decide ((57) < (bt a0 (((j : Nat) : Int)))))) rfl (run_move rfl rfl) ?_
            (try simp only [Act.put, List.setIfInBounds_toArray, List.set_cons_zero, List.set_cons_succ])
            refine list_want rfl rfl (congrArg some (congrArg Value.bool hk5)) (wp_run (v := .int .i64 ((j : Nat) : Int)) (run_move rfl rfl) ?_)
            (try simp only [Act.put, List.setIfInBounds_toArray, List.set_cons_zero, List.set_cons_succ])
            refine list_want rfl rfl (congrArg some (congrArg Value.bool hk5)) (wp_run (v := .int .i64 (0)) (run_move rfl rfl) ?_)
            (try simp only [Act.put, List.setIfInBounds_toArray, List.set_cons_zero, List.set_cons_succ])
            refine list_want rfl rfl (congrArg some (congrArg Value.bool hk5)) (wp_run (v := .int .i64 (1)) (run_add' (w64 (by decide) (by decide)) rfl rfl rfl) ?_)
            (try simp only [Act.put, List.setIfInBounds_toArray, List.set_cons_zero, List.set_cons_succ])
            refine list_want rfl rfl (congrArg some (congrArg Value.bool hk5)) (wp_run (v := .bool (decide ((((j : Nat) : Int)) = (1)))) (run_eql rfl rfl rfl) ?_)
            (try simp only [Act.put, List.setIfInBounds_toArray, List.set_cons_zero, List.set_cons_succ])
            refine list_want rfl rfl (congrArg some (congrArg Value.bool hk5)) (wp_run (v := .bool (decide ((((j : Nat) : Int)) = (1)))) (run_move rfl rfl) ?_)
            (try simp only [Act.put, List.setIfInBounds_toArray, List.set_cons_zero, List.set_cons_succ])
            refine list_unwant rfl rfl (congrArg some (congrArg Value.bool hk6)) (by decide) ?_
            (try simp only [Act.put, List.setIfInBounds_toArray, List.set_cons_zero, List.set_cons_succ])
            refine list_unwant rfl rfl (congrArg some (congrArg Value.bool hk6)) (by decide) ?_
            (try simp only [Act.put, List.setIfInBounds_toArray, List.set_cons_zero, List.set_cons_succ])
            refine list_unwant rfl rfl (congrArg some (congrArg Value.bool hk6)) (by decide) ?_
            (try simp only [Act.put, List.setIfInBounds_toArray, List.set_cons_zero, List.set_cons_succ])
            refine list_unwant rfl rfl (congrArg some (congrArg Value.bool hk6)) (by decide) ?_
            (try simp only [Act.put, List.setIfInBounds_toArray, List.set_cons_zero, List.set_cons_succ])
            refine list_want rfl rfl (congrArg some (congrArg Value.bool hk5)) (wp_run (v := .bool (ff)) (run_cast (run_pickF rfl ((show _ = Value.bool (decide ((((j : Nat) : Int)) = (1))) from rfl).trans (congrArg Value.bool hk6)) rfl) hff.symm) ?_)
            (try simp only [Act.put, List.setIfInBounds_toArray, List.set_cons_zero, List.set_cons_succ])
            refine seq_is (v := .bool (ff)) rfl (run_pickF rfl ((show _ = Value.bool (decide ((57) < (bt a0 (((j : Nat) : Int))))) from rfl).trans (congrArg Value.bool hk5)) rfl) ?_
            (try simp only [Act.put, List.setIfInBounds_toArray, List.set_cons_zero, List.set_cons_succ])
            show Code.wp _ _ _ _ _
            refine wp_cond_false ((show _ = Value.bool (ff) from rfl).trans (congrArg Value.bool hff)) ?_
            refine wp_skip ?_
            show Code.wp _ _ _ _ _
            refine wp_region_list ?_
            refine seq_is (v := .int .i64 ((j : Nat) : Int)) rfl (run_move rfl rfl) ?_
            (try simp only [Act.put, List.setIfInBounds_toArray, List.set_cons_zero, List.set_cons_succ])
            refine seq_is (v := .int .i64 (((j + 1 : Nat) : Int))) rfl (run_inc rfl rfl (by omega)) ?_
            (try simp only [Act.put, List.setIfInBounds_toArray, List.set_cons_zero, List.set_cons_succ])
            refine seq_is (v := .int .i64 (((j + 1 : Nat) : Int))) rfl (run_assign rfl rfl) ?_
            (try simp only [Act.put, List.setIfInBounds_toArray, List.set_cons_zero, List.set_cons_succ])
            exact ⟨j + 1, (show a0.size - (j + 1) < a0.size - j by omega), _, _, _, _, _, _, _, _, _, _, _, _, _, _, _, _, _, _, _, _, _, _, _, _, _, _, _, _, _, _, _, _, rfl, ((Z).retype (Has.nil _ _)), ⟨by omega, fun k h => by by_cases e : k = j; (rw [e]; exact (good_at p_hk4 p_hk5 (fun e => absurd e (by omega)))); exact hg k (by omega)⟩⟩
    · intro hc3
      have p_hc3 := of_decide_eq_false hc3
      refine wp_exit ?_
      show Code.wp _ _ _ _ _
      refine wp_seq ?_
      refine wp_seq ?_
      refine wp_region_list ?_
      refine seq_is (v := .int .i64 (0)) rfl (run_move rfl rfl) ?_
      (try simp only [Act.put, List.setIfInBounds_toArray, List.set_cons_zero, List.set_cons_succ])
      refine seq_is (v := .string a0) rfl (run_move rfl rfl) ?_
      (try simp only [Act.put, List.setIfInBounds_toArray, List.set_cons_zero, List.set_cons_succ])
      refine seq_is (v := .int .i64 (((a0.size : Nat) : Int))) rfl (run_lenS rfl rfl) ?_
      (try simp only [Act.put, List.setIfInBounds_toArray, List.set_cons_zero, List.set_cons_succ])
      refine seq_is (v := .bool (decide ((0) = (((a0.size : Nat) : Int))))) rfl (run_eql rfl rfl rfl) ?_
      (try simp only [Act.put, List.setIfInBounds_toArray, List.set_cons_zero, List.set_cons_succ])
      show Code.wp _ _ _ _ _
      refine wp_cond_split (t := decide ((0) = (((a0.size : Nat) : Int)))) rfl ?_ ?_
      · intro hc8
        have p_hc8 := of_decide_eq_true hc8
        refine wp_seq ?_
        refine wp_region_list ?_
        refine seq_is (v := .agg #[.bool (false), .slice none 0 0]) rfl (run_build0 rfl) ?_
        (try simp only [Act.put, List.setIfInBounds_toArray, List.set_cons_zero, List.set_cons_succ])
        refine seq_is (v := .int .i64 (0)) rfl (run_move rfl rfl) ?_
        (try simp only [Act.put, List.setIfInBounds_toArray, List.set_cons_zero, List.set_cons_succ])
        refine seq_store Z 0 rfl rfl rfl rfl rfl ?_; clear Z; intro W Z
        (try simp only [Act.put, List.setIfInBounds_toArray, List.set_cons_zero, List.set_cons_succ])
        refine seq_is (v := .int .i64 (0)) rfl (run_assign rfl rfl) ?_
        (try simp only [Act.put, List.setIfInBounds_toArray, List.set_cons_zero, List.set_cons_succ])
        refine seq_is (v := .int .i64 (4)) rfl (run_assign rfl rfl) ?_
        (try simp only [Act.put, List.setIfInBounds_toArray, List.set_cons_zero, List.set_cons_succ])
        show Code.wp _ _ _ _ _
        refine wp_ret ?_
        have hR := (readZ_err' (p := 0) (by omega) hA hz (rd_none (by omega)))
        exact Z.nought.endsIii (u := .int .i64 (0)) (u2 := .int .i64 (4)) 0 0 rfl rfl rfl rfl rfl rfl rfl (by rw [hR]; try rfl) (by rw [hR]; try rfl) (by rw [hR]; try rfl)
      · intro hc8
        have p_hc8 := of_decide_eq_false hc8
        refine wp_skip ?_
        show Code.wp _ _ _ _ _
        refine wp_seq ?_
        have hgA : ∀ k, k < (tlS a0 0).size → badAt (tlS a0 0) k = false := fun k h => hg k (by omega)
        refine wp_region_list ?_
        refine seq_is (v := .slice none 0 0) rfl (run_assign rfl rfl) ?_
        (try simp only [Act.put, List.setIfInBounds_toArray, List.set_cons_zero, List.set_cons_succ])
        show Code.wp _ _ _ _ _
        refine wp_seq ?_
        refine wp_seq ?_
        refine wp_region_list ?_
        refine seq_is (v := .int .i64 (0)) rfl (run_move rfl rfl) ?_
        (try simp only [Act.put, List.setIfInBounds_toArray, List.set_cons_zero, List.set_cons_succ])
        refine seq_is (v := .int .i64 (0)) rfl (run_assign rfl rfl) ?_
        (try simp only [Act.put, List.setIfInBounds_toArray, List.set_cons_zero, List.set_cons_succ])
        show Code.wp _ _ _ _ _
        refine wp_block ?_
        replace Z := Z.nought
        refine wp_loop_s (α := Nat × Sl) (fun (i, pm) a W => ∃ (j9_17 j10_17 j74_17 j75_17 j76_17 j77_17 j78_17 j79_17 j80_17 j81_17 j82_17 j83_17 j84_17 j85_17 j86_17 j87_17 j88_17 j89_17 j90_17 j91_17 j92_17 j93_17 j94_17 j95_17 j96_17 j97_17 j98_17 j99_17 j100_17 j101_17 j102_17 j103_17 j104_17 : Value), a = { tmps := #[.string a0, undef, .pointer (some ⟨g1, 0, none⟩), j3_9, j4_9, .int .i64 (0), .int .i64 ((j : Nat) : Int), pm.v, .int .i64 ((i : Nat) : Int), j9_17, j10_17, .string a0, .int .i64 (((a0.size : Nat) : Int)), .bool (decide ((65536) < (((a0.size : Nat) : Int)))), undef, .string a0, .int .i64 (((a0.size : Nat) : Int)), .bool (decide ((0) < (((a0.size : Nat) : Int)))), .bool (decide ((0) < (((a0.size : Nat) : Int)))), .string a0, .int .u8 (bt a0 (0)), .bool (decide ((bt a0 (0)) = (45))), .bool (decide ((bt a0 (0)) = (45))), .int .i64 (0), .bool (decide ((0 : Int) = (1))), .bool (decide ((0 : Int) = (1))), undef, undef, undef, .bool (ff), .bool (ff), undef, undef, undef, .bool (ff), undef, .int .i64 (0), .int .i64 ((j : Nat) : Int), .string a0, .int .i64 (((a0.size : Nat) : Int)), .bool (decide ((((j : Nat) : Int)) < (((a0.size : Nat) : Int)))), j41_9, j42_9, j43_9, j44_9, j45_9, j46_9, j47_9, j48_9, j49_9, j50_9, j51_9, j52_9, j53_9, j54_9, j55_9, j56_9, j57_9, j58_9, j59_9, j60_9, j61_9, j62_9, j63_9, j64_9, j65_9, j66_9, .int .i64 (0), .string a0, .int .i64 (((a0.size : Nat) : Int)), .bool (decide ((0) = (((a0.size : Nat) : Int)))), undef, undef, .int .i64 (0), j74_17, j75_17, j76_17, j77_17, j78_17, j79_17, j80_17, j81_17, j82_17, j83_17, j84_17, j85_17, j86_17, j87_17, j88_17, j89_17, j90_17, j91_17, j92_17, j93_17, j94_17, j95_17, j96_17, j97_17, j98_17, j99_17, j100_17, j101_17, j102_17, j103_17, j104_17, undef, undef, undef, undef], defers := [] } ∧ Zt w W [(pm.v, tyO w (lm (numv (tlS a0 0) i)))] [(g1, 24, #[.bool (false), .slice none 0 0])] ∧ (i ≤ (tlS a0 0).size)) (fun (i, pm) => a0.size - i) (0, ⟨none, 0, 0⟩) ⟨_, _, _, _, _, _, _, _, _, _, _, _, _, _, _, _, _, _, _, _, _, _, _, _, _, _, _, _, _, _, _, _, _, rfl, (Z.retype (has_cons (Z.has 0 rfl) (Has.nil _ _))), Nat.zero_le _⟩ ?_
        clear Z; rintro ⟨i, pm⟩ a W ⟨j9_17, j10_17, j74_17, j75_17, j76_17, j77_17, j78_17, j79_17, j80_17, j81_17, j82_17, j83_17, j84_17, j85_17, j86_17, j87_17, j88_17, j89_17, j90_17, j91_17, j92_17, j93_17, j94_17, j95_17, j96_17, j97_17, j98_17, j99_17, j100_17, j101_17, j102_17, j103_17, j104_17, rfl, Z, hI⟩
        obtain ⟨hi0, hi2⟩ := numv_rng hgA i hI
        have hi1 := fm_ten hi0 hi2 (by omega)
        have hI0 := hI
        refine wp_seq ?_
        refine wp_seq ?_
        refine wp_region_list ?_
        refine seq_is (v := .int .i64 ((i : Nat) : Int)) rfl (run_move rfl rfl) ?_
        (try simp only [Act.put, List.setIfInBounds_toArray, List.set_cons_zero, List.set_cons_succ])
        refine seq_is (v := .string a0) rfl (run_move rfl rfl) ?_
        (try simp only [Act.put, List.setIfInBounds_toArray, List.set_cons_zero, List.set_cons_succ])
        refine seq_is (v := .int .i64 (((a0.size : Nat) : Int))) rfl (run_lenS rfl rfl) ?_
        (try simp only [Act.put, List.setIfInBounds_toArray, List.set_cons_zero, List.set_cons_succ])
        refine seq_is (v := .bool (decide ((((i : Nat) : Int)) < (((a0.size : Nat) : Int))))) rfl (run_lss rfl rfl rfl) ?_
        (try simp only [Act.put, List.setIfInBounds_toArray, List.set_cons_zero, List.set_cons_succ])
        show Code.wp _ _ _ _ _
        refine wp_cond_split (t := decide ((((i : Nat) : Int)) < (((a0.size : Nat) : Int)))) rfl ?_ ?_
        · intro hc9
          have p_hc9 := of_decide_eq_true hc9
          refine wp_skip ?_
          show Code.wp _ _ _ _ _
          refine wp_block ?_
          refine wp_seq ?_
          have hch := chunk_rng (s := a0) (k := 0) (i := i) (by omega)
          refine wp_region_list ?_
          refine seq_is (v := .string a0) rfl (run_move rfl rfl) ?_
          (try simp only [Act.put, List.setIfInBounds_toArray, List.set_cons_zero, List.set_cons_succ])
          refine seq_is (v := .int .i64 (((a0.size : Nat) : Int))) rfl (run_lenS rfl rfl) ?_
          (try simp only [Act.put, List.setIfInBounds_toArray, List.set_cons_zero, List.set_cons_succ])
          refine seq_is (v := .int .i64 ((i : Nat) : Int)) rfl (run_move rfl rfl) ?_
          (try simp only [Act.put, List.setIfInBounds_toArray, List.set_cons_zero, List.set_cons_succ])
          refine seq_is (v := .int .i64 (((a0.size : Nat) : Int) - ((i : Nat) : Int))) rfl (run_sub' (w64 (by omega) (by omega)) rfl rfl rfl) ?_
          (try simp only [Act.put, List.setIfInBounds_toArray, List.set_cons_zero, List.set_cons_succ])
          refine seq_is (v := .int .i64 ((chunk a0 0 i : Nat) : Int)) rfl (run_min (chunk_min (by omega) (by omega)) rfl rfl rfl) ?_
          (try simp only [Act.put, List.setIfInBounds_toArray, List.set_cons_zero, List.set_cons_succ])
          refine seq_is (v := .int .i64 ((chunk a0 0 i : Nat) : Int)) rfl (run_assign rfl rfl) ?_
          (try simp only [Act.put, List.setIfInBounds_toArray, List.set_cons_zero, List.set_cons_succ])
          show Code.wp _ _ _ _ _
          refine wp_seq ?_
          refine wp_region_list ?_
          refine seq_is (v := .int .u32 (0)) rfl (run_assign rfl rfl) ?_
          (try simp only [Act.put, List.setIfInBounds_toArray, List.set_cons_zero, List.set_cons_succ])
          show Code.wp _ _ _ _ _
          refine wp_seq ?_
          refine wp_seq ?_
          refine wp_region_list ?_
          refine seq_is (v := .int .i64 ((chunk a0 0 i : Nat) : Int)) rfl (run_move rfl rfl) ?_
          (try simp only [Act.put, List.setIfInBounds_toArray, List.set_cons_zero, List.set_cons_succ])
          refine seq_is (v := .int .i64 (0)) rfl (run_move rfl rfl) ?_
          (try simp only [Act.put, List.setIfInBounds_toArray, List.set_cons_zero, List.set_cons_succ])
          show Code.wp _ _ _ _ _
          refine wp_block ?_
          refine wp_loop_s (α := Nat × Int) (fun (c, v) a W => ∃ (j85_21 j86_21 j87_21 j88_21 j89_21 j90_21 j91_21 j92_21 j93_21 j94_21 j95_21 j96_21 : Value), a = { tmps := #[.string a0, undef, .pointer (some ⟨g1, 0, none⟩), j3_9, j4_9, .int .i64 (0), .int .i64 ((j : Nat) : Int), pm.v, .int .i64 ((i + c : Nat) : Int), .int .i64 ((chunk a0 0 i : Nat) : Int), .int .u32 (v), .string a0, .int .i64 (((a0.size : Nat) : Int)), .bool (decide ((65536) < (((a0.size : Nat) : Int)))), undef, .string a0, .int .i64 (((a0.size : Nat) : Int)), .bool (decide ((0) < (((a0.size : Nat) : Int)))), .bool (decide ((0) < (((a0.size : Nat) : Int)))), .string a0, .int .u8 (bt a0 (0)), .bool (decide ((bt a0 (0)) = (45))), .bool (decide ((bt a0 (0)) = (45))), .int .i64 (0), .bool (decide ((0 : Int) = (1))), .bool (decide ((0 : Int) = (1))), undef, undef, undef, .bool (ff), .bool (ff), undef, undef, undef, .bool (ff), undef, .int .i64 (0), .int .i64 ((j : Nat) : Int), .string a0, .int .i64 (((a0.size : Nat) : Int)), .bool (decide ((((j : Nat) : Int)) < (((a0.size : Nat) : Int)))), j41_9, j42_9, j43_9, j44_9, j45_9, j46_9, j47_9, j48_9, j49_9, j50_9, j51_9, j52_9, j53_9, j54_9, j55_9, j56_9, j57_9, j58_9, j59_9, j60_9, j61_9, j62_9, j63_9, j64_9, j65_9, j66_9, .int .i64 (0), .string a0, .int .i64 (((a0.size : Nat) : Int)), .bool (decide ((0) = (((a0.size : Nat) : Int)))), undef, undef, .int .i64 (0), .int .i64 ((i : Nat) : Int), .string a0, .int .i64 (((a0.size : Nat) : Int)), .bool (decide ((((i : Nat) : Int)) < (((a0.size : Nat) : Int)))), .string a0, .int .i64 (((a0.size : Nat) : Int)), .int .i64 ((i : Nat) : Int), .int .i64 (((a0.size : Nat) : Int) - ((i : Nat) : Int)), .int .i64 ((chunk a0 0 i : Nat) : Int), .int .i64 ((chunk a0 0 i : Nat) : Int), .int .i64 ((c : Nat) : Int), j85_21, j86_21, j87_21, j88_21, j89_21, j90_21, j91_21, j92_21, j93_21, j94_21, j95_21, j96_21, j97_17, j98_17, j99_17, j100_17, j101_17, j102_17, j103_17, j104_17, undef, undef, undef, undef], defers := [] } ∧ Zt w W [(pm.v, tyO w (lm (numv (tlS a0 0) i)))] [(g1, 24, #[.bool (false), .slice none 0 0])] ∧ (RC (tlS a0 0) i c v ∧ c ≤ chunk a0 0 i)) (fun (c, v) => chunk a0 0 i - c) (0, 0) ⟨_, _, _, _, _, _, _, _, _, _, _, _, rfl, (Z.retype (has_cons (Z.has 0 rfl) (Has.nil _ _))), ⟨RC.start hI, Nat.zero_le _⟩⟩ ?_
          clear Z; rintro ⟨c, v⟩ a W ⟨j85_21, j86_21, j87_21, j88_21, j89_21, j90_21, j91_21, j92_21, j93_21, j94_21, j95_21, j96_21, rfl, Z, hI⟩
          obtain ⟨hI, hc⟩ := hI
          have hbr := bt_range a0 (((i + c : Nat) : Int))
          have hv0 := hI.v0
          have hle := hI.le
          refine wp_seq ?_
          refine wp_region_list ?_
          refine seq_is (v := .bool (decide ((((c : Nat) : Int)) < (((chunk a0 0 i : Nat) : Int))))) rfl (run_lss rfl rfl rfl) ?_
          (try simp only [Act.put, List.setIfInBounds_toArray, List.set_cons_zero, List.set_cons_succ])
          show Code.wp _ _ _ _ _
          refine wp_seq ?_
          refine wp_cond_split (t := decide ((((c : Nat) : Int)) < (((chunk a0 0 i : Nat) : Int)))) rfl ?_ ?_
          · intro hc10
            have p_hc10 := of_decide_eq_true hc10
            refine wp_skip ?_
            show Code.wp _ _ _ _ _
            refine wp_seq ?_
            refine wp_block ?_
            refine wp_seq ?_
            have hdg : 48 ≤ bt a0 (((i + c : Nat) : Int)) ∧ bt a0 (((i + c : Nat) : Int)) ≤ 57 := dig_at (k := 0) (hgA (i + c) (by omega))
            have hv8 := hI.small (by omega)
            refine wp_region_list ?_
            refine seq_is (v := .int .u32 (v)) rfl (run_move rfl rfl) ?_
            (try simp only [Act.put, List.setIfInBounds_toArray, List.set_cons_zero, List.set_cons_succ])
            refine seq_is (v := .int .u32 (10 * v)) rfl (run_mul4 (w32 (by omega) (by omega)) rfl rfl rfl) ?_
            (try simp only [Act.put, List.setIfInBounds_toArray, List.set_cons_zero, List.set_cons_succ])
            refine seq_is (v := .string a0) rfl (run_move rfl rfl) ?_
            (try simp only [Act.put, List.setIfInBounds_toArray, List.set_cons_zero, List.set_cons_succ])
            refine seq_is (v := .int .i64 ((i + c : Nat) : Int)) rfl (run_move rfl rfl) ?_
            (try simp only [Act.put, List.setIfInBounds_toArray, List.set_cons_zero, List.set_cons_succ])
            refine seq_is (v := .int .u8 (bt a0 (((i + c : Nat) : Int)))) rfl (run_idxS (by omega) (by omega) rfl rfl rfl) ?_
            (try simp only [Act.put, List.setIfInBounds_toArray, List.set_cons_zero, List.set_cons_succ])
            refine seq_is (v := .int .u8 (bt a0 (((i + c : Nat) : Int)) - 48)) rfl (run_subY (w8 (by omega) (by omega)) rfl rfl rfl) ?_
            (try simp only [Act.put, List.setIfInBounds_toArray, List.set_cons_zero, List.set_cons_succ])
            refine seq_is (v := .int .u32 (bt a0 (((i + c : Nat) : Int)) - 48)) rfl (run_convY (w32 (by omega) (by omega)) rfl rfl) ?_
            (try simp only [Act.put, List.setIfInBounds_toArray, List.set_cons_zero, List.set_cons_succ])
            refine seq_is (v := .int .u32 (10 * v + (bt a0 (((i + c : Nat) : Int)) - 48))) rfl (run_add4 (w32 (by omega) (by omega)) rfl rfl rfl) ?_
            (try simp only [Act.put, List.setIfInBounds_toArray, List.set_cons_zero, List.set_cons_succ])
            refine seq_is (v := .int .u32 (10 * v + (bt a0 (((i + c : Nat) : Int)) - 48))) rfl (run_assign rfl rfl) ?_
            (try simp only [Act.put, List.setIfInBounds_toArray, List.set_cons_zero, List.set_cons_succ])
            show Code.wp _ _ _ _ _
            refine wp_region_list ?_
            refine seq_is (v := .int .i64 ((i + c : Nat) : Int)) rfl (run_move rfl rfl) ?_
            (try simp only [Act.put, List.setIfInBounds_toArray, List.set_cons_zero, List.set_cons_succ])
            refine seq_is (v := .int .i64 (((i + c + 1 : Nat) : Int))) rfl (run_inc rfl rfl (by omega)) ?_
            (try simp only [Act.put, List.setIfInBounds_toArray, List.set_cons_zero, List.set_cons_succ])
            refine seq_is (v := .int .i64 (((i + c + 1 : Nat) : Int))) rfl (run_assign rfl rfl) ?_
            (try simp only [Act.put, List.setIfInBounds_toArray, List.set_cons_zero, List.set_cons_succ])
            show Code.wp _ _ _ _ _
            refine wp_region_list ?_
            refine seq_is (v := .int .i64 (((c + 1 : Nat) : Int))) rfl (run_inc rfl rfl (by omega)) ?_
            (try simp only [Act.put, List.setIfInBounds_toArray, List.set_cons_zero, List.set_cons_succ])
            refine seq_is (v := .int .i64 (((c + 1 : Nat) : Int))) rfl (run_move rfl rfl) ?_
            (try simp only [Act.put, List.setIfInBounds_toArray, List.set_cons_zero, List.set_cons_succ])
            exact ⟨(c + 1, 10 * v + (bt a0 ((i + c : Nat) : Int) - 48)), (show chunk a0 0 i - (c + 1) < chunk a0 0 i - c by omega), _, _, _, _, _, _, _, _, _, _, _, _, rfl, ((Z).retype (has_cons (Z.has 0 rfl) (Has.nil _ _))), ⟨(bt_tl (s := a0) (k := 0) (i := i + c)) ▸ hI.step (by omega) (by omega) (hgA _ (by omega)), by omega⟩⟩
          · intro hc10
            have p_hc10 := of_decide_eq_false hc10
            refine wp_exit ?_
            show Code.wp _ _ _ _ _
            have hcn : chunk a0 0 i = c := by omega
            have hc9 := ten9 hI.nine
            have hv9 := hI.v1
            have hcf := RC.fms hi0 hi2 hI (by omega)
            refine wp_region_list ?_
            refine seq_is (v := pm.v) rfl (run_move rfl rfl) ?_
            (try simp only [Act.put, List.setIfInBounds_toArray, List.set_cons_zero, List.set_cons_succ])
            refine seq_is (v := .int .i64 ((chunk a0 0 i : Nat) : Int)) rfl (run_move rfl rfl) ?_
            (try simp only [Act.put, List.setIfInBounds_toArray, List.set_cons_zero, List.set_cons_succ])
            refine seq_call Z rfl rfl Try.func111 rfl rfl (args1 rfl) (Z.callV (zint_nines.at (by omega) hcn hI.nine)) ?_; clear Z; intro x11 W Z
            (try simp only [Act.put, List.setIfInBounds_toArray, List.set_cons_zero, List.set_cons_succ])
            refine seq_one Z rfl rfl rfl rfl ?_; clear Z; intro x12 W Z
            (try simp only [Act.put, List.setIfInBounds_toArray, List.set_cons_zero, List.set_cons_succ])
            refine seq_call Z rfl rfl Try.func91 rfl rfl (args2 rfl rfl) (Z.callM (nat_Mul.sem (Z.ownM 1 rfl hi0 hi1) (Z.magL 0 rfl (ok_one (ten9 hI.nine).1 (ten9 hI.nine).2).1 (by simp) (ok_one (ten9 hI.nine).1 (ten9 hI.nine).2).2))) ?_; clear Z; intro x13 W Z
            (try simp only [Act.put, List.setIfInBounds_toArray, List.set_cons_zero, List.set_cons_succ])
            refine seq_is (v := .int .u32 (v)) rfl (run_move rfl rfl) ?_
            (try simp only [Act.put, List.setIfInBounds_toArray, List.set_cons_zero, List.set_cons_succ])
            refine seq_one Z rfl rfl rfl rfl ?_; clear Z; intro x14 W Z
            (try simp only [Act.put, List.setIfInBounds_toArray, List.set_cons_zero, List.set_cons_succ])
            refine seq_call Z rfl rfl Try.func92 rfl rfl (args2 rfl rfl) (Z.callM (nat_Add.sem (Z.ownM 1 rfl hcf.1 hcf.2.1) (Z.magL 0 rfl (ok_one hI.v0 (by have := hI.v1; have := (ten9 hI.nine).2; omega)).1 (by simp) (ok_one hI.v0 (by have := hI.v1; have := (ten9 hI.nine).2; omega)).2))) ?_; clear Z; intro x15 W Z
            (try simp only [Act.put, List.setIfInBounds_toArray, List.set_cons_zero, List.set_cons_succ])
            refine seq_is (v := x15.v) rfl (run_assign rfl rfl) ?_
            (try simp only [Act.put, List.setIfInBounds_toArray, List.set_cons_zero, List.set_cons_succ])
            rw [← hI.num] at Z
            exact ⟨(i + c, x15), (show a0.size - (i + c) < a0.size - i by omega), _, _, _, _, _, _, _, _, _, _, _, _, _, _, _, _, _, _, _, _, _, _, _, _, _, _, _, _, _, _, _, _, _, rfl, ((Z).retype (has_cons (Z.has 0 rfl) (Has.nil _ _))), hI.le⟩
        · intro hc9
          have p_hc9 := of_decide_eq_false hc9
          refine wp_exit ?_
          show Code.wp _ _ _ _ _
          refine wp_seq ?_
          have hie : i = (tlS a0 0).size := by omega
          refine wp_region_list ?_
          refine seq_is (v := .int .i64 (0)) rfl (run_move rfl rfl) ?_
          (try simp only [Act.put, List.setIfInBounds_toArray, List.set_cons_zero, List.set_cons_succ])
          refine seq_is (v := .bool (decide ((0 : Int) = (1)))) rfl (run_eql rfl rfl rfl) ?_
          (try simp only [Act.put, List.setIfInBounds_toArray, List.set_cons_zero, List.set_cons_succ])
          refine seq_is (v := pm.v) rfl (run_move rfl rfl) ?_
          (try simp only [Act.put, List.setIfInBounds_toArray, List.set_cons_zero, List.set_cons_succ])
          refine seq_call Z rfl rfl Try.func76 rfl rfl (args2 rfl rfl) (Z.callI (zint_made.res (Z.ownM 0 rfl hi0 hi1))) ?_; clear Z; intro x16 W Z
          (try simp only [Act.put, List.setIfInBounds_toArray, List.set_cons_zero, List.set_cons_succ])
          refine seq_store Z 0 rfl rfl rfl rfl rfl ?_; clear Z; intro W Z
          (try simp only [Act.put, List.setIfInBounds_toArray, List.set_cons_zero, List.set_cons_succ])
          refine seq_is (v := .int .i64 (0)) rfl (run_assign rfl rfl) ?_
          (try simp only [Act.put, List.setIfInBounds_toArray, List.set_cons_zero, List.set_cons_succ])
          refine seq_is (v := .int .i64 (0)) rfl (run_assign rfl rfl) ?_
          (try simp only [Act.put, List.setIfInBounds_toArray, List.set_cons_zero, List.set_cons_succ])
          show Code.wp _ _ _ _ _
          refine wp_ret ?_
          have hR := (readZ_ok' (by omega) hA hz (rd_good (by omega) hgA) hie)
          exact Z.endsIii (u := .int .i64 (0)) (u2 := .int .i64 (0)) 0 0 rfl rfl rfl rfl rfl rfl rfl (by rw [hR]; try rfl) (by rw [hR]; try rfl) (by rw [hR]; try rfl)
end Go.Proofs.Ytndopanohhdfgaa.PA


/- The walk of Read behind a sign. -/
namespace Go.Proofs.Ytndopanohhdfgaa.PA
open Go Go.Proofs.Ytndopanohhdfgaa.Nums Go.RowKit Go.Proofs.YtndopanohhdfgaaW.PrintWords Go.Proofs.YtndopanohhdfgaaW.PrintLast Go.Proofs.YtndopanohhdfgaaW.PrintMore
set_option linter.unusedVariables false
set_option linter.unusedSimpArgs false
set_option maxHeartbeats 16000000 in
set_option maxRecDepth 100000 in
theorem zint_Read.sem1 {w : World} {a0 : ByteArray} (hs : a0.size ≤ 4611686018427387903) (hq : 0 < a0.size) (p_hq2 : bt a0 0 = 45) : Calls Try.prog 99 #[.string a0] w (ResIii w (readZ a0).1 (.int .i64 (readZ a0).2.1) (.int .i64 (readZ a0).2.2)) := by
  have p_hq1 : (0 : Int) < ((a0.size : Nat) : Int) := by omega
  have hq1 : decide ((0 : Int) < ((a0.size : Nat) : Int)) = true := decide_eq_true p_hq1
  have hq2 : decide (bt a0 0 = 45) = true := decide_eq_true p_hq2
  obtain ⟨tt, htt⟩ : ∃ b : Bool, b = true := ⟨true, rfl⟩
  obtain ⟨ff, hff⟩ : ∃ b : Bool, b = false := ⟨false, rfl⟩
  have Z := Zt.start w (Has.nil w w)
  go_enter Try.func99, Try.ntmps99
  refine wp_seq ?_
  refine wp_region_list ?_
  refine seq_alloc Z rfl rfl ?_; clear Z; intro g1 W Z
  (try simp only [Act.put, List.setIfInBounds_toArray, List.set_cons_zero, List.set_cons_succ])
  refine seq_is (v := .int .i64 (0)) rfl (run_assign rfl rfl) ?_
  (try simp only [Act.put, List.setIfInBounds_toArray, List.set_cons_zero, List.set_cons_succ])
  refine seq_is (v := .int .i64 (0)) rfl (run_assign rfl rfl) ?_
  (try simp only [Act.put, List.setIfInBounds_toArray, List.set_cons_zero, List.set_cons_succ])
  show Code.wp _ _ _ _ _
  refine wp_seq ?_
  refine wp_seq ?_
  refine wp_region_list ?_
  refine seq_is (v := .string a0) rfl (run_move rfl rfl) ?_
  (try simp only [Act.put, List.setIfInBounds_toArray, List.set_cons_zero, List.set_cons_succ])
  refine seq_is (v := .int .i64 (((a0.size : Nat) : Int))) rfl (run_lenS rfl rfl) ?_
  (try simp only [Act.put, List.setIfInBounds_toArray, List.set_cons_zero, List.set_cons_succ])
  refine seq_is (v := .bool (decide ((65536) < (((a0.size : Nat) : Int))))) rfl (run_gtr rfl rfl rfl) ?_
  (try simp only [Act.put, List.setIfInBounds_toArray, List.set_cons_zero, List.set_cons_succ])
  show Code.wp _ _ _ _ _
  refine wp_cond_split (t := decide ((65536) < (((a0.size : Nat) : Int)))) rfl ?_ ?_
  · intro hc2
    have p_hc2 := of_decide_eq_true hc2
    refine wp_seq ?_
    refine wp_region_list ?_
    refine seq_is (v := .agg #[.bool (false), .slice none 0 0]) rfl (run_build0 rfl) ?_
    (try simp only [Act.put, List.setIfInBounds_toArray, List.set_cons_zero, List.set_cons_succ])
    refine seq_store Z 0 rfl rfl rfl rfl rfl ?_; clear Z; intro W Z
    (try simp only [Act.put, List.setIfInBounds_toArray, List.set_cons_zero, List.set_cons_succ])
    refine seq_is (v := .int .i64 (0)) rfl (run_assign rfl rfl) ?_
    (try simp only [Act.put, List.setIfInBounds_toArray, List.set_cons_zero, List.set_cons_succ])
    refine seq_is (v := .int .i64 (2)) rfl (run_assign rfl rfl) ?_
    (try simp only [Act.put, List.setIfInBounds_toArray, List.set_cons_zero, List.set_cons_succ])
    show Code.wp _ _ _ _ _
    refine wp_ret ?_
    have hR := readZ_long (s := a0) (by omega)
    exact Z.nought.endsIii (u := .int .i64 (0)) (u2 := .int .i64 (2)) 0 0 rfl rfl rfl rfl rfl rfl rfl (by rw [hR]; try rfl) (by rw [hR]; try rfl) (by rw [hR]; try rfl)
  · intro hc2
    have p_hc2 := of_decide_eq_false hc2
    refine wp_skip ?_
    show Code.wp _ _ _ _ _
    refine wp_seq ?_
    refine wp_region_list ?_
    refine seq_is (v := .int .i64 (0)) rfl (run_assign rfl rfl) ?_
    (try simp only [Act.put, List.setIfInBounds_toArray, List.set_cons_zero, List.set_cons_succ])
    show Code.wp _ _ _ _ _
    refine wp_seq ?_
    refine wp_seq ?_
    refine wp_region_list ?_
    refine seq_is (v := .string a0) rfl (run_move rfl rfl) ?_
    (try simp only [Act.put, List.setIfInBounds_toArray, List.set_cons_zero, List.set_cons_succ])
    refine seq_is (v := .int .i64 (((a0.size : Nat) : Int))) rfl (run_lenS rfl rfl) ?_
    (try simp only [Act.put, List.setIfInBounds_toArray, List.set_cons_zero, List.set_cons_succ])
    refine seq_is (v := .bool (decide ((0) < (((a0.size : Nat) : Int))))) rfl (run_gtr rfl rfl rfl) ?_
    (try simp only [Act.put, List.setIfInBounds_toArray, List.set_cons_zero, List.set_cons_succ])
    refine seq_is (v := .bool (decide ((0) < (((a0.size : Nat) : Int))))) rfl (run_move rfl rfl) ?_
    (try simp only [Act.put, List.setIfInBounds_toArray, List.set_cons_zero, List.set_cons_succ])
    refine list_want rfl rfl (congrArg some (congrArg Value.bool hq1)) (wp_run (v := .string a0) (run_move rfl rfl) ?_)
    (try simp only [Act.put, List.setIfInBounds_toArray, List.set_cons_zero, List.set_cons_succ])
    refine list_want rfl rfl (congrArg some (congrArg Value.bool hq1)) (wp_run (v := .int .u8 (bt a0 (0))) (run_idxS (by omega) (by omega) rfl rfl rfl) ?_)
    (try simp only [Act.put, List.setIfInBounds_toArray, List.set_cons_zero, List.set_cons_succ])
    refine list_want rfl rfl (congrArg some (congrArg Value.bool hq1)) (wp_run (v := .bool (decide ((bt a0 (0)) = (45)))) (run_eqlY rfl rfl rfl) ?_)
    (try simp only [Act.put, List.setIfInBounds_toArray, List.set_cons_zero, List.set_cons_succ])
    refine seq_is (v := .bool (decide ((bt a0 (0)) = (45)))) rfl (run_pickT rfl ((show _ = Value.bool (decide ((0) < (((a0.size : Nat) : Int)))) from rfl).trans (congrArg Value.bool hq1)) rfl) ?_
    (try simp only [Act.put, List.setIfInBounds_toArray, List.set_cons_zero, List.set_cons_succ])
    show Code.wp _ _ _ _ _
    refine wp_cond_true ((show _ = Value.bool (decide ((bt a0 (0)) = (45))) from rfl).trans (congrArg Value.bool hq2)) ?_
    refine wp_region_list ?_
    refine seq_is (v := .int .i64 (1)) rfl (run_assign rfl rfl) ?_
    (try simp only [Act.put, List.setIfInBounds_toArray, List.set_cons_zero, List.set_cons_succ])
    show Code.wp _ _ _ _ _
    refine wp_seq ?_
    refine wp_seq ?_
    have hA : rdAt a0 = 1 := rdAt_yes (by omega) p_hq2
    have hT := tlS_size (s := a0) (k := 1)
    rcases Bool.eq_false_or_eq_true (decide ((1) < (((a0.size : Nat) : Int)))) with hk3 | hk3
    · have p_hk3 := of_decide_eq_true hk3
      have hA : rdAt a0 = 1 := rdAt_yes (by omega) p_hq2
      have hT := tlS_size (s := a0) (k := 1)
      refine wp_region_list ?_
      refine seq_is (v := .int .i64 (1)) rfl (run_move rfl rfl) ?_
      (try simp only [Act.put, List.setIfInBounds_toArray, List.set_cons_zero, List.set_cons_succ])
      refine seq_is (v := .bool (decide ((1 : Int) = (1)))) rfl (run_eql rfl rfl rfl) ?_
      (try simp only [Act.put, List.setIfInBounds_toArray, List.set_cons_zero, List.set_cons_succ])
      refine seq_is (v := .bool (decide ((1 : Int) = (1)))) rfl (run_move rfl rfl) ?_
      (try simp only [Act.put, List.setIfInBounds_toArray, List.set_cons_zero, List.set_cons_succ])
      refine list_want rfl rfl (congrArg some (congrArg Value.bool (Eq.refl true))) (wp_run (v := .string a0) (run_move rfl rfl) ?_)
      (try simp only [Act.put, List.setIfInBounds_toArray, List.set_cons_zero, List.set_cons_succ])
      refine list_want rfl rfl (congrArg some (congrArg Value.bool (Eq.refl true))) (wp_run (v := .int .i64 (((a0.size : Nat) : Int))) (run_lenS rfl rfl) ?_)
      (try simp only [Act.put, List.setIfInBounds_toArray, List.set_cons_zero, List.set_cons_succ])
      refine list_want rfl rfl (congrArg some (congrArg Value.bool (Eq.refl true))) (wp_run (v := .bool (decide ((1) < (((a0.size : Nat) : Int))))) (run_gtr rfl rfl rfl) ?_)
      (try simp only [Act.put, List.setIfInBounds_toArray, List.set_cons_zero, List.set_cons_succ])
      refine seq_is (v := .bool (decide ((1) < (((a0.size : Nat) : Int))))) rfl (run_pickT rfl rfl rfl) ?_
      (try simp only [Act.put, List.setIfInBounds_toArray, List.set_cons_zero, List.set_cons_succ])
      refine seq_is (v := .bool (decide ((1) < (((a0.size : Nat) : Int))))) rfl (run_move rfl rfl) ?_
      (try simp only [Act.put, List.setIfInBounds_toArray, List.set_cons_zero, List.set_cons_succ])
      refine list_want rfl rfl (congrArg some (congrArg Value.bool hk3)) (wp_run (v := .string a0) (run_move rfl rfl) ?_)
      (try simp only [Act.put, List.setIfInBounds_toArray, List.set_cons_zero, List.set_cons_succ])
      refine list_want rfl rfl (congrArg some (congrArg Value.bool hk3)) (wp_run (v := .int .u8 (bt a0 (1))) (run_idxS (by omega) (by omega) rfl rfl rfl) ?_)
      (try simp only [Act.put, List.setIfInBounds_toArray, List.set_cons_zero, List.set_cons_succ])
      refine list_want rfl rfl (congrArg some (congrArg Value.bool hk3)) (wp_run (v := .bool (decide ((bt a0 (1)) = (48)))) (run_eqlY rfl rfl rfl) ?_)
      (try simp only [Act.put, List.setIfInBounds_toArray, List.set_cons_zero, List.set_cons_succ])
      refine seq_is (v := .bool (decide ((bt a0 (1)) = (48)))) rfl (run_pickT rfl ((show _ = Value.bool (decide ((1) < (((a0.size : Nat) : Int)))) from rfl).trans (congrArg Value.bool hk3)) rfl) ?_
      (try simp only [Act.put, List.setIfInBounds_toArray, List.set_cons_zero, List.set_cons_succ])
      show Code.wp _ _ _ _ _
      refine wp_cond_split (t := decide ((bt a0 (1)) = (48))) rfl ?_ ?_
      · intro hc4
        have p_hc4 := of_decide_eq_true hc4
        refine wp_seq ?_
        refine wp_region_list ?_
        refine seq_is (v := .agg #[.bool (false), .slice none 0 0]) rfl (run_build0 rfl) ?_
        (try simp only [Act.put, List.setIfInBounds_toArray, List.set_cons_zero, List.set_cons_succ])
        refine seq_store Z 0 rfl rfl rfl rfl rfl ?_; clear Z; intro W Z
        (try simp only [Act.put, List.setIfInBounds_toArray, List.set_cons_zero, List.set_cons_succ])
        refine seq_is (v := .int .i64 (1)) rfl (run_assign rfl rfl) ?_
        (try simp only [Act.put, List.setIfInBounds_toArray, List.set_cons_zero, List.set_cons_succ])
        refine seq_is (v := .int .i64 (4)) rfl (run_assign rfl rfl) ?_
        (try simp only [Act.put, List.setIfInBounds_toArray, List.set_cons_zero, List.set_cons_succ])
        show Code.wp _ _ _ _ _
        refine wp_ret ?_
        have hR := readZ_zero (by omega) hA (by omega) p_hc4
        exact Z.nought.endsIii (u := .int .i64 (1)) (u2 := .int .i64 (4)) 0 0 rfl rfl rfl rfl rfl rfl rfl (by rw [hR]; try rfl) (by rw [hR]; try rfl) (by rw [hR]; try rfl)
      · intro hc4
        have p_hc4 := of_decide_eq_false hc4
        refine wp_skip ?_
        show Code.wp _ _ _ _ _
        refine wp_seq ?_
        refine wp_seq ?_
        have hz : ¬ (1 = 1 ∧ 1 < a0.size ∧ bt a0 1 = 48) := by intro h; exact p_hc4 h.2.2
        refine wp_region_list ?_
        refine seq_is (v := .int .i64 (1)) rfl (run_move rfl rfl) ?_
        (try simp only [Act.put, List.setIfInBounds_toArray, List.set_cons_zero, List.set_cons_succ])
        refine seq_is (v := .int .i64 (1)) rfl (run_assign rfl rfl) ?_
        (try simp only [Act.put, List.setIfInBounds_toArray, List.set_cons_zero, List.set_cons_succ])
        show Code.wp _ _ _ _ _
        refine wp_block ?_
        refine wp_loop_s (α := Nat) (fun j a W => ∃ (j3_9 j4_9 j37_9 j38_9 j39_9 j40_9 j41_9 j42_9 j43_9 j44_9 j45_9 j46_9 j47_9 j48_9 j49_9 j50_9 j51_9 j52_9 j53_9 j54_9 j55_9 j56_9 j57_9 j58_9 j59_9 j60_9 j61_9 j62_9 j63_9 j64_9 j65_9 j66_9 : Value), a = { tmps := #[.string a0, undef, .pointer (some ⟨g1, 0, none⟩), j3_9, j4_9, .int .i64 (1), .int .i64 ((j + 1 : Nat) : Int), undef, undef, undef, undef, .string a0, .int .i64 (((a0.size : Nat) : Int)), .bool (decide ((65536) < (((a0.size : Nat) : Int)))), undef, .string a0, .int .i64 (((a0.size : Nat) : Int)), .bool (decide ((0) < (((a0.size : Nat) : Int)))), .bool (decide ((0) < (((a0.size : Nat) : Int)))), .string a0, .int .u8 (bt a0 (0)), .bool (decide ((bt a0 (0)) = (45))), .bool (decide ((bt a0 (0)) = (45))), .int .i64 (1), .bool (decide ((1 : Int) = (1))), .bool (decide ((1 : Int) = (1))), .string a0, .int .i64 (((a0.size : Nat) : Int)), .bool (decide ((1) < (((a0.size : Nat) : Int)))), .bool (decide ((1) < (((a0.size : Nat) : Int)))), .bool (decide ((1) < (((a0.size : Nat) : Int)))), .string a0, .int .u8 (bt a0 (1)), .bool (decide ((bt a0 (1)) = (48))), .bool (decide ((bt a0 (1)) = (48))), undef, .int .i64 (1), j37_9, j38_9, j39_9, j40_9, j41_9, j42_9, j43_9, j44_9, j45_9, j46_9, j47_9, j48_9, j49_9, j50_9, j51_9, j52_9, j53_9, j54_9, j55_9, j56_9, j57_9, j58_9, j59_9, j60_9, j61_9, j62_9, j63_9, j64_9, j65_9, j66_9, undef, undef, undef, undef, undef, undef, undef, undef, undef, undef, undef, undef, undef, undef, undef, undef, undef, undef, undef, undef, undef, undef, undef, undef, undef, undef, undef, undef, undef, undef, undef, undef, undef, undef, undef, undef, undef, undef, undef, undef, undef, undef], defers := [] } ∧ Zt w W [] [(g1, 24, #[.bool (false), .slice none 0 0])] ∧ (j ≤ (tlS a0 1).size ∧ ∀ k, k < j → badAt (tlS a0 1) k = false)) (fun j => a0.size - j) 0 ⟨_, _, _, _, _, _, _, _, _, _, _, _, _, _, _, _, _, _, _, _, _, _, _, _, _, _, _, _, _, _, _, _, rfl, (Z.retype (Has.nil _ _)), ⟨Nat.zero_le _, fun k h => by omega⟩⟩ ?_
        clear Z; rintro j a W ⟨j3_9, j4_9, j37_9, j38_9, j39_9, j40_9, j41_9, j42_9, j43_9, j44_9, j45_9, j46_9, j47_9, j48_9, j49_9, j50_9, j51_9, j52_9, j53_9, j54_9, j55_9, j56_9, j57_9, j58_9, j59_9, j60_9, j61_9, j62_9, j63_9, j64_9, j65_9, j66_9, rfl, Z, hI⟩
        obtain ⟨hj, hg⟩ := hI
        have hbr := bt_range a0 (((j + 1 : Nat) : Int))
        refine wp_seq ?_
        refine wp_seq ?_
        refine wp_region_list ?_
        refine seq_is (v := .int .i64 ((j + 1 : Nat) : Int)) rfl (run_move rfl rfl) ?_
        (try simp only [Act.put, List.setIfInBounds_toArray, List.set_cons_zero, List.set_cons_succ])
        refine seq_is (v := .string a0) rfl (run_move rfl rfl) ?_
        (try simp only [Act.put, List.setIfInBounds_toArray, List.set_cons_zero, List.set_cons_succ])
        refine seq_is (v := .int .i64 (((a0.size : Nat) : Int))) rfl (run_lenS rfl rfl) ?_
        (try simp only [Act.put, List.setIfInBounds_toArray, List.set_cons_zero, List.set_cons_succ])
        refine seq_is (v := .bool (decide ((((j + 1 : Nat) : Int)) < (((a0.size : Nat) : Int))))) rfl (run_lss rfl rfl rfl) ?_
        (try simp only [Act.put, List.setIfInBounds_toArray, List.set_cons_zero, List.set_cons_succ])
        show Code.wp _ _ _ _ _
        refine wp_cond_split (t := decide ((((j + 1 : Nat) : Int)) < (((a0.size : Nat) : Int)))) rfl ?_ ?_
        · intro hc5
          have p_hc5 := of_decide_eq_true hc5
          refine wp_skip ?_
          show Code.wp _ _ _ _ _
          refine wp_seq ?_
          refine wp_block ?_
          refine wp_seq ?_
          rcases Bool.eq_false_or_eq_true (decide ((bt a0 (((j + 1 : Nat) : Int))) < (48))) with hk6 | hk6
          · have p_hk6 := of_decide_eq_true hk6
            refine wp_region_list ?_
            refine seq_is (v := .string a0) rfl (run_move rfl rfl) ?_
            (try simp only [Act.put, List.setIfInBounds_toArray, List.set_cons_zero, List.set_cons_succ])
            refine seq_is (v := .int .i64 ((j + 1 : Nat) : Int)) rfl (run_move rfl rfl) ?_
            (try simp only [Act.put, List.setIfInBounds_toArray, List.set_cons_zero, List.set_cons_succ])
            refine seq_is (v := .int .u8 (bt a0 (((j + 1 : Nat) : Int)))) rfl (run_idxS (by omega) (by omega) rfl rfl rfl) ?_
            (try simp only [Act.put, List.setIfInBounds_toArray, List.set_cons_zero, List.set_cons_succ])
            refine seq_is (v := .bool (decide ((bt a0 (((j + 1 : Nat) : Int))) < (48)))) rfl (run_lssY rfl rfl rfl) ?_
            (try simp only [Act.put, List.setIfInBounds_toArray, List.set_cons_zero, List.set_cons_succ])
            refine seq_is (v := .bool (decide ((bt a0 (((j + 1 : Nat) : Int))) < (48)))) rfl (run_move rfl rfl) ?_
            (try simp only [Act.put, List.setIfInBounds_toArray, List.set_cons_zero, List.set_cons_succ])
            refine list_unwant rfl rfl (congrArg some (congrArg Value.bool hk6)) (by decide) ?_
            (try simp only [Act.put, List.setIfInBounds_toArray, List.set_cons_zero, List.set_cons_succ])
            refine list_unwant rfl rfl (congrArg some (congrArg Value.bool hk6)) (by decide) ?_
            (try simp only [Act.put, List.setIfInBounds_toArray, List.set_cons_zero, List.set_cons_succ])
            refine list_unwant rfl rfl (congrArg some (congrArg Value.bool hk6)) (by decide) ?_
            (try simp only [Act.put, List.setIfInBounds_toArray, List.set_cons_zero, List.set_cons_succ])
            refine list_unwant rfl rfl (congrArg some (congrArg Value.bool hk6)) (by decide) ?_
            (try simp only [Act.put, List.setIfInBounds_toArray, List.set_cons_zero, List.set_cons_succ])
            refine seq_is (v := .bool (tt)) rfl (run_cast (run_pickT rfl ((show _ = Value.bool (decide ((bt a0 (((j + 1 : Nat) : Int))) < (48))) from rfl).trans (congrArg Value.bool hk6)) rfl) htt.symm) ?_
            (try simp only [Act.put, List.setIfInBounds_toArray, List.set_cons_zero, List.set_cons_succ])
            refine seq_is (v := .bool (tt)) rfl (run_move rfl rfl) ?_
            (try simp only [Act.put, List.setIfInBounds_toArray, List.set_cons_zero, List.set_cons_succ])
            refine list_unwant rfl rfl (congrArg some (congrArg Value.bool htt)) (by decide) ?_
            (try simp only [Act.put, List.setIfInBounds_toArray, List.set_cons_zero, List.set_cons_succ])
            refine list_unwant rfl rfl (congrArg some (congrArg Value.bool htt)) (by decide) ?_
            (try simp only [Act.put, List.setIfInBounds_toArray, List.set_cons_zero, List.set_cons_succ])
            refine list_unwant rfl rfl (congrArg some (congrArg Value.bool htt)) (by decide) ?_
            (try simp only [Act.put, List.setIfInBounds_toArray, List.set_cons_zero, List.set_cons_succ])
            refine list_unwant rfl rfl (congrArg some (congrArg Value.bool htt)) (by decide) ?_
            (try simp only [Act.put, List.setIfInBounds_toArray, List.set_cons_zero, List.set_cons_succ])
            refine list_unwant rfl rfl (congrArg some (congrArg Value.bool htt)) (by decide) ?_
            (try simp only [Act.put, List.setIfInBounds_toArray, List.set_cons_zero, List.set_cons_succ])
            refine list_unwantU rfl rfl rfl ?_
            (try simp only [Act.put, List.setIfInBounds_toArray, List.set_cons_zero, List.set_cons_succ])
            refine list_unwantU rfl rfl rfl ?_
            (try simp only [Act.put, List.setIfInBounds_toArray, List.set_cons_zero, List.set_cons_succ])
            refine list_unwantU rfl rfl rfl ?_
            (try simp only [Act.put, List.setIfInBounds_toArray, List.set_cons_zero, List.set_cons_succ])
            refine list_unwantU rfl rfl rfl ?_
            (try simp only [Act.put, List.setIfInBounds_toArray, List.set_cons_zero, List.set_cons_succ])
            refine list_unwant rfl rfl (congrArg some (congrArg Value.bool htt)) (by decide) ?_
            (try simp only [Act.put, List.setIfInBounds_toArray, List.set_cons_zero, List.set_cons_succ])
            refine seq_is (v := .bool (tt)) rfl (run_cast (run_pickT rfl ((show _ = Value.bool (tt) from rfl).trans (congrArg Value.bool htt)) rfl) htt.symm) ?_
            (try simp only [Act.put, List.setIfInBounds_toArray, List.set_cons_zero, List.set_cons_succ])
            show Code.wp _ _ _ _ _
            refine wp_cond_true ((show _ = Value.bool (tt) from rfl).trans (congrArg Value.bool htt)) ?_
            refine wp_seq ?_
            refine wp_region_list ?_
            refine seq_is (v := .agg #[.bool (false), .slice none 0 0]) rfl (run_build0 rfl) ?_
            (try simp only [Act.put, List.setIfInBounds_toArray, List.set_cons_zero, List.set_cons_succ])
            refine seq_is (v := .int .i64 ((j + 1 : Nat) : Int)) rfl (run_move rfl rfl) ?_
            (try simp only [Act.put, List.setIfInBounds_toArray, List.set_cons_zero, List.set_cons_succ])
            refine seq_store Z 0 rfl rfl rfl rfl rfl ?_; clear Z; intro W Z
            (try simp only [Act.put, List.setIfInBounds_toArray, List.set_cons_zero, List.set_cons_succ])
            refine seq_is (v := .int .i64 ((j + 1 : Nat) : Int)) rfl (run_assign rfl rfl) ?_
            (try simp only [Act.put, List.setIfInBounds_toArray, List.set_cons_zero, List.set_cons_succ])
            refine seq_is (v := .int .i64 (4)) rfl (run_assign rfl rfl) ?_
            (try simp only [Act.put, List.setIfInBounds_toArray, List.set_cons_zero, List.set_cons_succ])
            show Code.wp _ _ _ _ _
            refine wp_ret ?_
            have hR := (readZ_err' (by omega) hA hz (rd_bad (by omega) hg (bad_lo hk6)))
            exact Z.nought.endsIii (u := .int .i64 ((j + 1 : Nat) : Int)) (u2 := .int .i64 (4)) 0 0 rfl rfl rfl rfl rfl rfl rfl (by rw [hR]; try rfl) (by rw [hR]; refine congrArg (Value.int .i64) ?_; dsimp only; omega) (by rw [hR]; try rfl)
          · have p_hk6 := of_decide_eq_false hk6
            rcases Bool.eq_false_or_eq_true (decide ((57) < (bt a0 (((j + 1 : Nat) : Int))))) with hk7 | hk7
            · have p_hk7 := of_decide_eq_true hk7
              refine wp_region_list ?_
              refine seq_is (v := .string a0) rfl (run_move rfl rfl) ?_
              (try simp only [Act.put, List.setIfInBounds_toArray, List.set_cons_zero, List.set_cons_succ])
              refine seq_is (v := .int .i64 ((j + 1 : Nat) : Int)) rfl (run_move rfl rfl) ?_
              (try simp only [Act.put, List.setIfInBounds_toArray, List.set_cons_zero, List.set_cons_succ])
              refine seq_is (v := .int .u8 (bt a0 (((j + 1 : Nat) : Int)))) rfl (run_idxS (by omega) (by omega) rfl rfl rfl) ?_
              (try simp only [Act.put, List.setIfInBounds_toArray, List.set_cons_zero, List.set_cons_succ])
              refine seq_is (v := .bool (decide ((bt a0 (((j + 1 : Nat) : Int))) < (48)))) rfl (run_lssY rfl rfl rfl) ?_
              (try simp only [Act.put, List.setIfInBounds_toArray, List.set_cons_zero, List.set_cons_succ])
              refine seq_is (v := .bool (decide ((bt a0 (((j + 1 : Nat) : Int))) < (48)))) rfl (run_move rfl rfl) ?_
              (try simp only [Act.put, List.setIfInBounds_toArray, List.set_cons_zero, List.set_cons_succ])
              refine list_want rfl rfl (congrArg some (congrArg Value.bool hk6)) (wp_run (v := .string a0) (run_move rfl rfl) ?_)
              (try simp only [Act.put, List.setIfInBounds_toArray, List.set_cons_zero, List.set_cons_succ])
              refine list_want rfl rfl (congrArg some (congrArg Value.bool hk6)) (wp_run (v := .int .i64 ((j + 1 : Nat) : Int)) (run_move rfl rfl) ?_)
              (try simp only [Act.put, List.setIfInBounds_toArray, List.set_cons_zero, List.set_cons_succ])
              refine list_want rfl rfl (congrArg some (congrArg Value.bool hk6)) (wp_run (v := .int .u8 (bt a0 (((j + 1 : Nat) : Int)))) (run_idxS (by omega) (by omega) rfl rfl rfl) ?_)
              (try simp only [Act.put, List.setIfInBounds_toArray, List.set_cons_zero, List.set_cons_succ])
              refine list_want rfl rfl (congrArg some (congrArg Value.bool hk6)) (wp_run (v := .bool (decide ((57) < (bt a0 (((j + 1 : Nat) : Int)))))) (run_gtrY rfl rfl rfl) ?_)
              (try simp only [Act.put, List.setIfInBounds_toArray, List.set_cons_zero, List.set_cons_succ])
              refine seq_is (v := .bool (decide ((57) < (bt a0 (((j + 1 : Nat) : Int)))))) rfl (run_pickF rfl ((show _ = Value.bool (decide ((bt a0 (((j + 1 : Nat) : Int))) < (48))) from rfl).trans (congrArg Value.bool hk6)) rfl) ?_
              (try simp only [Act.put, List.setIfInBounds_toArray, List.set_cons_zero, List.set_cons_succ])
              refine seq_is (v := .bool (decide ((57) < (bt a0 (((j + 1 : Nat) : Int)))))) rfl (run_move rfl rfl) ?_
              (try simp only [Act.put, List.setIfInBounds_toArray, List.set_cons_zero, List.set_cons_succ])
              refine list_unwant rfl rfl (congrArg some (congrArg Value.bool hk7)) (by decide) ?_
              (try simp only [Act.put, List.setIfInBounds_toArray, List.set_cons_zero, List.set_cons_succ])
              refine list_unwant rfl rfl (congrArg some (congrArg Value.bool hk7)) (by decide) ?_
              (try simp only [Act.put, List.setIfInBounds_toArray, List.set_cons_zero, List.set_cons_succ])
              refine list_unwant rfl rfl (congrArg some (congrArg Value.bool hk7)) (by decide) ?_
              (try simp only [Act.put, List.setIfInBounds_toArray, List.set_cons_zero, List.set_cons_succ])
              refine list_unwant rfl rfl (congrArg some (congrArg Value.bool hk7)) (by decide) ?_
              (try simp only [Act.put, List.setIfInBounds_toArray, List.set_cons_zero, List.set_cons_succ])
              refine list_unwant rfl rfl (congrArg some (congrArg Value.bool hk7)) (by decide) ?_
              (try simp only [Act.put, List.setIfInBounds_toArray, List.set_cons_zero, List.set_cons_succ])
              refine list_unwantU rfl rfl rfl ?_
              (try simp only [Act.put, List.setIfInBounds_toArray, List.set_cons_zero, List.set_cons_succ])
              refine list_unwantU rfl rfl rfl ?_
              (try simp only [Act.put, List.setIfInBounds_toArray, List.set_cons_zero, List.set_cons_succ])
              refine list_unwantU rfl rfl rfl ?_
              (try simp only [Act.put, List.setIfInBounds_toArray, List.set_cons_zero, List.set_cons_succ])
              refine list_unwantU rfl rfl rfl ?_
              (try simp only [Act.put, List.setIfInBounds_toArray, List.set_cons_zero, List.set_cons_succ])
              refine list_unwant rfl rfl (congrArg some (congrArg Value.bool hk7)) (by decide) ?_
              (try simp only [Act.put, List.setIfInBounds_toArray, List.set_cons_zero, List.set_cons_succ])
              refine seq_is (v := .bool (tt)) rfl (run_cast (run_pickT rfl ((show _ = Value.bool (decide ((57) < (bt a0 (((j + 1 : Nat) : Int))))) from rfl).trans (congrArg Value.bool hk7)) rfl) htt.symm) ?_
              (try simp only [Act.put, List.setIfInBounds_toArray, List.set_cons_zero, List.set_cons_succ])
              show Code.wp _ _ _ _ _
              refine wp_cond_true ((show _ = Value.bool (tt) from rfl).trans (congrArg Value.bool htt)) ?_
              refine wp_seq ?_
              refine wp_region_list ?_
              refine seq_is (v := .agg #[.bool (false), .slice none 0 0]) rfl (run_build0 rfl) ?_
              (try simp only [Act.put, List.setIfInBounds_toArray, List.set_cons_zero, List.set_cons_succ])
              refine seq_is (v := .int .i64 ((j + 1 : Nat) : Int)) rfl (run_move rfl rfl) ?_
              (try simp only [Act.put, List.setIfInBounds_toArray, List.set_cons_zero, List.set_cons_succ])
              refine seq_store Z 0 rfl rfl rfl rfl rfl ?_; clear Z; intro W Z
              (try simp only [Act.put, List.setIfInBounds_toArray, List.set_cons_zero, List.set_cons_succ])
              refine seq_is (v := .int .i64 ((j + 1 : Nat) : Int)) rfl (run_assign rfl rfl) ?_
              (try simp only [Act.put, List.setIfInBounds_toArray, List.set_cons_zero, List.set_cons_succ])
              refine seq_is (v := .int .i64 (4)) rfl (run_assign rfl rfl) ?_
              (try simp only [Act.put, List.setIfInBounds_toArray, List.set_cons_zero, List.set_cons_succ])
              show Code.wp _ _ _ _ _
              refine wp_ret ?_
              have hR := (readZ_err' (by omega) hA hz (rd_bad (by omega) hg (bad_hi hk7)))
              exact Z.nought.endsIii (u := .int .i64 ((j + 1 : Nat) : Int)) (u2 := .int .i64 (4)) 0 0 rfl rfl rfl rfl rfl rfl rfl (by rw [hR]; try rfl) (by rw [hR]; refine congrArg (Value.int .i64) ?_; dsimp only; omega) (by rw [hR]; try rfl)
            · have p_hk7 := of_decide_eq_false hk7
              rcases Bool.eq_false_or_eq_true (decide ((((j + 1 : Nat) : Int)) = (2))) with hk8 | hk8
              · have p_hk8 := of_decide_eq_true hk8
                refine wp_region_list ?_
                refine seq_is (v := .string a0) rfl (run_move rfl rfl) ?_
                (try simp only [Act.put, List.setIfInBounds_toArray, List.set_cons_zero, List.set_cons_succ])
                refine seq_is (v := .int .i64 ((j + 1 : Nat) : Int)) rfl (run_move rfl rfl) ?_
                (try simp only [Act.put, List.setIfInBounds_toArray, List.set_cons_zero, List.set_cons_succ])
                refine seq_is (v := .int .u8 (bt a0 (((j + 1 : Nat) : Int)))) rfl (run_idxS (by omega) (by omega) rfl rfl rfl) ?_
                (try simp only [Act.put, List.setIfInBounds_toArray, List.set_cons_zero, List.set_cons_succ])
                refine seq_is (v := .bool (decide ((bt a0 (((j + 1 : Nat) : Int))) < (48)))) rfl (run_lssY rfl rfl rfl) ?_
                (try simp only [Act.put, List.setIfInBounds_toArray, List.set_cons_zero, List.set_cons_succ])
                refine seq_is (v := .bool (decide ((bt a0 (((j + 1 : Nat) : Int))) < (48)))) rfl (run_move rfl rfl) ?_
                (try simp only [Act.put, List.setIfInBounds_toArray, List.set_cons_zero, List.set_cons_succ])
                refine list_want rfl rfl (congrArg some (congrArg Value.bool hk6)) (wp_run (v := .string a0) (run_move rfl rfl) ?_)
                (try simp only [Act.put, List.setIfInBounds_toArray, List.set_cons_zero, List.set_cons_succ])
                refine list_want rfl rfl (congrArg some (congrArg Value.bool hk6)) (wp_run (v := .int .i64 ((j + 1 : Nat) : Int)) (run_move rfl rfl) ?_)
                (try simp only [Act.put, List.setIfInBounds_toArray, List.set_cons_zero, List.set_cons_succ])
                refine list_want rfl rfl (congrArg some (congrArg Value.bool hk6)) (wp_run (v := .int .u8 (bt a0 (((j + 1 : Nat) : Int)))) (run_idxS (by omega) (by omega) rfl rfl rfl) ?_)
                (try simp only [Act.put, List.setIfInBounds_toArray, List.set_cons_zero, List.set_cons_succ])
                refine list_want rfl rfl (congrArg some (congrArg Value.bool hk6)) (wp_run (v := .bool (decide ((57) < (bt a0 (((j + 1 : Nat) : Int)))))) (run_gtrY rfl rfl rfl) ?_)
                (try simp only [Act.put, List.setIfInBounds_toArray, List.set_cons_zero, List.set_cons_succ])
                refine seq_is (v := .bool (decide ((57) < (bt a0 (((j + 1 : Nat) : Int)))))) rfl (run_pickF rfl ((show _ = Value.bool (decide ((bt a0 (((j + 1 : Nat) : Int))) < (48))) from rfl).trans (congrArg Value.bool hk6)) rfl) ?_
                (try simp only [Act.put, List.setIfInBounds_toArray, List.set_cons_zero, List.set_cons_succ])
                refine seq_is (v := .bool (decide ((57) < (bt a0 (((j + 1 : Nat) : Int)))))) rfl (run_move rfl rfl) ?_
                (try simp only [Act.put, List.setIfInBounds_toArray, List.set_cons_zero, List.set_cons_succ])
                refine list_want rfl rfl (congrArg some (congrArg Value.bool hk7)) (wp_run (v := .int .i64 ((j + 1 : Nat) : Int)) (run_move rfl rfl) ?_)
                (try simp only [Act.put, List.setIfInBounds_toArray, List.set_cons_zero, List.set_cons_succ])
                refine list_want rfl rfl (congrArg some (congrArg Value.bool hk7)) (wp_run (v := .int .i64 (1)) (run_move rfl rfl) ?_)
                (try simp only [Act.put, List.setIfInBounds_toArray, List.set_cons_zero, List.set_cons_succ])
                refine list_want rfl rfl (congrArg some (congrArg Value.bool hk7)) (wp_run (v := .int .i64 (2)) (run_add' (w64 (by decide) (by decide)) rfl rfl rfl) ?_)
                (try simp only [Act.put, List.setIfInBounds_toArray, List.set_cons_zero, List.set_cons_succ])
                refine list_want rfl rfl (congrArg some (congrArg Value.bool hk7)) (wp_run (v := .bool (decide ((((j + 1 : Nat) : Int)) = (2)))) (run_eql rfl rfl rfl) ?_)
                (try simp only [Act.put, List.setIfInBounds_toArray, List.set_cons_zero, List.set_cons_succ])
                refine list_want rfl rfl (congrArg some (congrArg Value.bool hk7)) (wp_run (v := .bool (decide ((((j + 1 : Nat) : Int)) = (2)))) (run_move rfl rfl) ?_)
                (try simp only [Act.put, List.setIfInBounds_toArray, List.set_cons_zero, List.set_cons_succ])
                refine list_want rfl rfl (congrArg some (congrArg Value.bool hk8)) (wp_run (v := .string a0) (run_move rfl rfl) ?_)
                (try simp only [Act.put, List.setIfInBounds_toArray, List.set_cons_zero, List.set_cons_succ])
                refine list_want rfl rfl (congrArg some (congrArg Value.bool hk8)) (wp_run (v := .int .i64 (1)) (run_move rfl rfl) ?_)
                (try simp only [Act.put, List.setIfInBounds_toArray, List.set_cons_zero, List.set_cons_succ])
                refine list_want rfl rfl (congrArg some (congrArg Value.bool hk8)) (wp_run (v := .int .u8 (bt a0 (1))) (run_idxS (by omega) (by omega) rfl rfl rfl) ?_)
                (try simp only [Act.put, List.setIfInBounds_toArray, List.set_cons_zero, List.set_cons_succ])
                refine list_want rfl rfl (congrArg some (congrArg Value.bool hk8)) (wp_run (v := .bool (decide ((bt a0 (1)) = (48)))) (run_eqlY rfl rfl rfl) ?_)
                (try simp only [Act.put, List.setIfInBounds_toArray, List.set_cons_zero, List.set_cons_succ])
                refine list_want rfl rfl (congrArg some (congrArg Value.bool hk7)) (wp_run (v := .bool (decide ((bt a0 (1)) = (48)))) (run_pickT rfl ((show _ = Value.bool (decide ((((j + 1 : Nat) : Int)) = (2))) from rfl).trans (congrArg Value.bool hk8)) rfl) ?_)
                (try simp only [Act.put, List.setIfInBounds_toArray, List.set_cons_zero, List.set_cons_succ])
                refine seq_is (v := .bool (decide ((bt a0 (1)) = (48)))) rfl (run_pickF rfl ((show _ = Value.bool (decide ((57) < (bt a0 (((j + 1 : Nat) : Int))))) from rfl).trans (congrArg Value.bool hk7)) rfl) ?_
                (try simp only [Act.put, List.setIfInBounds_toArray, List.set_cons_zero, List.set_cons_succ])
                show Code.wp _ _ _ _ _
                refine wp_cond_false ((show _ = Value.bool (decide ((bt a0 (1)) = (48))) from rfl).trans (congrArg Value.bool hc4)) ?_
                refine wp_skip ?_
                show Code.wp _ _ _ _ _
                refine wp_region_list ?_
                refine seq_is (v := .int .i64 ((j + 1 : Nat) : Int)) rfl (run_move rfl rfl) ?_
                (try simp only [Act.put, List.setIfInBounds_toArray, List.set_cons_zero, List.set_cons_succ])
                refine seq_is (v := .int .i64 (((j + 1 + 1 : Nat) : Int))) rfl (run_inc rfl rfl (by omega)) ?_
                (try simp only [Act.put, List.setIfInBounds_toArray, List.set_cons_zero, List.set_cons_succ])
                refine seq_is (v := .int .i64 (((j + 1 + 1 : Nat) : Int))) rfl (run_assign rfl rfl) ?_
                (try simp only [Act.put, List.setIfInBounds_toArray, List.set_cons_zero, List.set_cons_succ])
                exact ⟨j + 1, (show a0.size - (j + 1) < a0.size - j by omega), _, _, _, _, _, _, _, _, _, _, _, _, _, _, _, _, _, _, _, _, _, _, _, _, _, _, _, _, _, _, _, _, rfl, ((Z).retype (Has.nil _ _)), ⟨by omega, fun k h => by by_cases e : k = j; (rw [e]; exact (good_at p_hk6 p_hk7 (fun _ => p_hc4))); exact hg k (by omega)⟩⟩
              · have p_hk8 := of_decide_eq_false hk8
                refine wp_region_list ?_
                refine seq_is (v := .string a0) rfl (run_move rfl rfl) ?_
                (try simp only [Act.put, List.setIfInBounds_toArray, List.set_cons_zero, List.set_cons_succ])
                refine seq_is (v := .int .i64 ((j + 1 : Nat) : Int)) rfl (run_move rfl rfl) ?_
                (try simp only [Act.put, List.setIfInBounds_toArray, List.set_cons_zero, List.set_cons_succ])
                refine seq_is (v := .int .u8 (bt a0 (((j + 1 : Nat) : Int)))) rfl (run_idxS (by omega) (by omega) rfl rfl rfl) ?_
                (try simp only [Act.put, List.setIfInBounds_toArray, List.set_cons_zero, List.set_cons_succ])
                refine seq_is (v := .bool (decide ((bt a0 (((j + 1 : Nat) : Int))) < (48)))) rfl (run_lssY rfl rfl rfl) ?_
                (try simp only [Act.put, List.setIfInBounds_toArray, List.set_cons_zero, List.set_cons_succ])
                refine seq_is (v := .bool (decide ((bt a0 (((j + 1 : Nat) : Int))) < (48)))) rfl (run_move rfl rfl) ?_
                (try simp only [Act.put, List.setIfInBounds_toArray, List.set_cons_zero, List.set_cons_succ])
                refine list_want rfl rfl (congrArg some (congrArg Value.bool hk6)) (wp_run (v := .string a0) (run_move rfl rfl) ?_)
                (try simp only [Act.put, List.setIfInBounds_toArray, List.set_cons_zero, List.set_cons_succ])
                refine list_want rfl rfl (congrArg some (congrArg Value.bool hk6)) (wp_run (v := .int .i64 ((j + 1 : Nat) : Int)) (run_move rfl rfl) ?_)
                (try simp only [Act.put, List.setIfInBounds_toArray, List.set_cons_zero, List.set_cons_succ])
                refine list_want rfl rfl (congrArg some (congrArg Value.bool hk6)) (wp_run (v := .int .u8 (bt a0 (((j + 1 : Nat) : Int)))) (run_idxS (by omega) (by omega) rfl rfl rfl) ?_)
                (try simp only [Act.put, List.setIfInBounds_toArray, List.set_cons_zero, List.set_cons_succ])
                refine list_want rfl rfl (congrArg some (congrArg Value.bool hk6)) (wp_run (v := .bool (decide ((57) < (bt a0 (((j + 1 : Nat) : Int)))))) (run_gtrY rfl rfl rfl) ?_)
                (try simp only [Act.put, List.setIfInBounds_toArray, List.set_cons_zero, List.set_cons_succ])
                refine seq_is (v := .bool (decide ((57) < (bt a0 (((j + 1 : Nat) : Int)))))) rfl (run_pickF rfl ((show _ = Value.bool (decide ((bt a0 (((j + 1 : Nat) : Int))) < (48))) from rfl).trans (congrArg Value.bool hk6)) rfl) ?_
                (try simp only [Act.put, List.setIfInBounds_toArray, List.set_cons_zero, List.set_cons_succ])
                refine seq_is (v := .bool (decide ((57) < (bt a0 (((j + 1 : Nat) : Int)))))) rfl (run_move rfl rfl) ?_
                (try simp only [Act.put, List.setIfInBounds_toArray, List.set_cons_zero, List.set_cons_succ])
                refine list_want rfl rfl (congrArg some (congrArg Value.bool hk7)) (wp_run (v := .int .i64 ((j + 1 : Nat) : Int)) (run_move rfl rfl) ?_)
                (try simp only [Act.put, List.setIfInBounds_toArray, List.set_cons_zero, List.set_cons_succ])
                refine list_want rfl rfl (congrArg some (congrArg Value.bool hk7)) (wp_run (v := .int .i64 (1)) (run_move rfl rfl) ?_)
                (try simp only [Act.put, List.setIfInBounds_toArray, List.set_cons_zero, List.set_cons_succ])
                refine list_want rfl rfl (congrArg some (congrArg Value.bool hk7)) (wp_run (v := .int .i64 (2)) (run_add' (w64 (by decide) (by decide)) rfl rfl rfl) ?_)
                (try simp only [Act.put, List.setIfInBounds_toArray, List.set_cons_zero, List.set_cons_succ])
                refine list_want rfl rfl (congrArg some (congrArg Value.bool hk7)) (wp_run (v := .bool (decide ((((j + 1 : Nat) : Int)) = (2)))) (run_eql rfl rfl rfl) ?_)
                (try simp only [Act.put, List.setIfInBounds_toArray, List.set_cons_zero, List.set_cons_succ])
                refine list_want rfl rfl (congrArg some (congrArg Value.bool hk7)) (wp_run (v := .bool (decide ((((j + 1 : Nat) : Int)) = (2)))) (run_move rfl rfl) ?_)
                (try simp only [Act.put, List.setIfInBounds_toArray, List.set_cons_zero, List.set_cons_succ])
                refine list_unwant rfl rfl (congrArg some (congrArg Value.bool hk8)) (by decide) ?_
                (try simp only [Act.put, List.setIfInBounds_toArray, List.set_cons_zero, List.set_cons_succ])
                refine list_unwant rfl rfl (congrArg some (congrArg Value.bool hk8)) (by decide) ?_
                (try simp only [Act.put, List.setIfInBounds_toArray, List.set_cons_zero, List.set_cons_succ])
                refine list_unwant rfl rfl (congrArg some (congrArg Value.bool hk8)) (by decide) ?_
                (try simp only [Act.put, List.setIfInBounds_toArray, List.set_cons_zero, List.set_cons_succ])
                refine list_unwant rfl rfl (congrArg some (congrArg Value.bool hk8)) (by decide) ?_
                (try simp only [Act.put, List.setIfInBounds_toArray, List.set_cons_zero, List.set_cons_succ])
                refine list_want rfl rfl (congrArg some (congrArg Value.bool hk7)) (wp_run (v := .bool (ff)) (run_cast (run_pickF rfl ((show _ = Value.bool (decide ((((j + 1 : Nat) : Int)) = (2))) from rfl).trans (congrArg Value.bool hk8)) rfl) hff.symm) ?_)
                (try simp only [Act.put, List.setIfInBounds_toArray, List.set_cons_zero, List.set_cons_succ])
                refine seq_is (v := .bool (ff)) rfl (run_pickF rfl ((show _ = Value.bool (decide ((57) < (bt a0 (((j + 1 : Nat) : Int))))) from rfl).trans (congrArg Value.bool hk7)) rfl) ?_
                (try simp only [Act.put, List.setIfInBounds_toArray, List.set_cons_zero, List.set_cons_succ])
                show Code.wp _ _ _ _ _
                refine wp_cond_false ((show _ = Value.bool (ff) from rfl).trans (congrArg Value.bool hff)) ?_
                refine wp_skip ?_
                show Code.wp _ _ _ _ _
                refine wp_region_list ?_
                refine seq_is (v := .int .i64 ((j + 1 : Nat) : Int)) rfl (run_move rfl rfl) ?_
                (try simp only [Act.put, List.setIfInBounds_toArray, List.set_cons_zero, List.set_cons_succ])
                refine seq_is (v := .int .i64 (((j + 1 + 1 : Nat) : Int))) rfl (run_inc rfl rfl (by omega)) ?_
                (try simp only [Act.put, List.setIfInBounds_toArray, List.set_cons_zero, List.set_cons_succ])
                refine seq_is (v := .int .i64 (((j + 1 + 1 : Nat) : Int))) rfl (run_assign rfl rfl) ?_
                (try simp only [Act.put, List.setIfInBounds_toArray, List.set_cons_zero, List.set_cons_succ])
                exact ⟨j + 1, (show a0.size - (j + 1) < a0.size - j by omega), _, _, _, _, _, _, _, _, _, _, _, _, _, _, _, _, _, _, _, _, _, _, _, _, _, _, _, _, _, _, _, _, rfl, ((Z).retype (Has.nil _ _)), ⟨by omega, fun k h => by by_cases e : k = j; (rw [e]; exact (good_at p_hk6 p_hk7 (fun e => absurd e (by omega)))); exact hg k (by omega)⟩⟩
        · intro hc5
          have p_hc5 := of_decide_eq_false hc5
          refine wp_exit ?_
          show Code.wp _ _ _ _ _
          refine wp_seq ?_
          refine wp_seq ?_
          refine wp_region_list ?_
          refine seq_is (v := .int .i64 (1)) rfl (run_move rfl rfl) ?_
          (try simp only [Act.put, List.setIfInBounds_toArray, List.set_cons_zero, List.set_cons_succ])
          refine seq_is (v := .string a0) rfl (run_move rfl rfl) ?_
          (try simp only [Act.put, List.setIfInBounds_toArray, List.set_cons_zero, List.set_cons_succ])
          refine seq_is (v := .int .i64 (((a0.size : Nat) : Int))) rfl (run_lenS rfl rfl) ?_
          (try simp only [Act.put, List.setIfInBounds_toArray, List.set_cons_zero, List.set_cons_succ])
          refine seq_is (v := .bool (decide ((1) = (((a0.size : Nat) : Int))))) rfl (run_eql rfl rfl rfl) ?_
          (try simp only [Act.put, List.setIfInBounds_toArray, List.set_cons_zero, List.set_cons_succ])
          show Code.wp _ _ _ _ _
          refine wp_cond_split (t := decide ((1) = (((a0.size : Nat) : Int)))) rfl ?_ ?_
          · intro hc9
            have p_hc9 := of_decide_eq_true hc9
            refine wp_seq ?_
            refine wp_region_list ?_
            refine seq_is (v := .agg #[.bool (false), .slice none 0 0]) rfl (run_build0 rfl) ?_
            (try simp only [Act.put, List.setIfInBounds_toArray, List.set_cons_zero, List.set_cons_succ])
            refine seq_is (v := .int .i64 (1)) rfl (run_move rfl rfl) ?_
            (try simp only [Act.put, List.setIfInBounds_toArray, List.set_cons_zero, List.set_cons_succ])
            refine seq_store Z 0 rfl rfl rfl rfl rfl ?_; clear Z; intro W Z
            (try simp only [Act.put, List.setIfInBounds_toArray, List.set_cons_zero, List.set_cons_succ])
            refine seq_is (v := .int .i64 (1)) rfl (run_assign rfl rfl) ?_
            (try simp only [Act.put, List.setIfInBounds_toArray, List.set_cons_zero, List.set_cons_succ])
            refine seq_is (v := .int .i64 (4)) rfl (run_assign rfl rfl) ?_
            (try simp only [Act.put, List.setIfInBounds_toArray, List.set_cons_zero, List.set_cons_succ])
            show Code.wp _ _ _ _ _
            refine wp_ret ?_
            have hR := (readZ_err' (p := 0) (by omega) hA hz (rd_none (by omega)))
            exact Z.nought.endsIii (u := .int .i64 (1)) (u2 := .int .i64 (4)) 0 0 rfl rfl rfl rfl rfl rfl rfl (by rw [hR]; try rfl) (by rw [hR]; try rfl) (by rw [hR]; try rfl)
          · intro hc9
            have p_hc9 := of_decide_eq_false hc9
            refine wp_skip ?_
            show Code.wp _ _ _ _ _
            refine wp_seq ?_
            have hgA : ∀ k, k < (tlS a0 1).size → badAt (tlS a0 1) k = false := fun k h => hg k (by omega)
            refine wp_region_list ?_
            refine seq_is (v := .slice none 0 0) rfl (run_assign rfl rfl) ?_
            (try simp only [Act.put, List.setIfInBounds_toArray, List.set_cons_zero, List.set_cons_succ])
            show Code.wp _ _ _ _ _
            refine wp_seq ?_
            refine wp_seq ?_
            refine wp_region_list ?_
            refine seq_is (v := .int .i64 (1)) rfl (run_move rfl rfl) ?_
            (try simp only [Act.put, List.setIfInBounds_toArray, List.set_cons_zero, List.set_cons_succ])
            refine seq_is (v := .int .i64 (1)) rfl (run_assign rfl rfl) ?_
            (try simp only [Act.put, List.setIfInBounds_toArray, List.set_cons_zero, List.set_cons_succ])
            show Code.wp _ _ _ _ _
            refine wp_block ?_
            replace Z := Z.nought
            refine wp_loop_s (α := Nat × Sl) (fun (i, pm) a W => ∃ (j9_17 j10_17 j74_17 j75_17 j76_17 j77_17 j78_17 j79_17 j80_17 j81_17 j82_17 j83_17 j84_17 j85_17 j86_17 j87_17 j88_17 j89_17 j90_17 j91_17 j92_17 j93_17 j94_17 j95_17 j96_17 j97_17 j98_17 j99_17 j100_17 j101_17 j102_17 j103_17 j104_17 : Value), a = { tmps := #[.string a0, undef, .pointer (some ⟨g1, 0, none⟩), j3_9, j4_9, .int .i64 (1), .int .i64 ((j + 1 : Nat) : Int), pm.v, .int .i64 ((i + 1 : Nat) : Int), j9_17, j10_17, .string a0, .int .i64 (((a0.size : Nat) : Int)), .bool (decide ((65536) < (((a0.size : Nat) : Int)))), undef, .string a0, .int .i64 (((a0.size : Nat) : Int)), .bool (decide ((0) < (((a0.size : Nat) : Int)))), .bool (decide ((0) < (((a0.size : Nat) : Int)))), .string a0, .int .u8 (bt a0 (0)), .bool (decide ((bt a0 (0)) = (45))), .bool (decide ((bt a0 (0)) = (45))), .int .i64 (1), .bool (decide ((1 : Int) = (1))), .bool (decide ((1 : Int) = (1))), .string a0, .int .i64 (((a0.size : Nat) : Int)), .bool (decide ((1) < (((a0.size : Nat) : Int)))), .bool (decide ((1) < (((a0.size : Nat) : Int)))), .bool (decide ((1) < (((a0.size : Nat) : Int)))), .string a0, .int .u8 (bt a0 (1)), .bool (decide ((bt a0 (1)) = (48))), .bool (decide ((bt a0 (1)) = (48))), undef, .int .i64 (1), .int .i64 ((j + 1 : Nat) : Int), .string a0, .int .i64 (((a0.size : Nat) : Int)), .bool (decide ((((j + 1 : Nat) : Int)) < (((a0.size : Nat) : Int)))), j41_9, j42_9, j43_9, j44_9, j45_9, j46_9, j47_9, j48_9, j49_9, j50_9, j51_9, j52_9, j53_9, j54_9, j55_9, j56_9, j57_9, j58_9, j59_9, j60_9, j61_9, j62_9, j63_9, j64_9, j65_9, j66_9, .int .i64 (1), .string a0, .int .i64 (((a0.size : Nat) : Int)), .bool (decide ((1) = (((a0.size : Nat) : Int)))), undef, undef, .int .i64 (1), j74_17, j75_17, j76_17, j77_17, j78_17, j79_17, j80_17, j81_17, j82_17, j83_17, j84_17, j85_17, j86_17, j87_17, j88_17, j89_17, j90_17, j91_17, j92_17, j93_17, j94_17, j95_17, j96_17, j97_17, j98_17, j99_17, j100_17, j101_17, j102_17, j103_17, j104_17, undef, undef, undef, undef], defers := [] } ∧ Zt w W [(pm.v, tyO w (lm (numv (tlS a0 1) i)))] [(g1, 24, #[.bool (false), .slice none 0 0])] ∧ (i ≤ (tlS a0 1).size)) (fun (i, pm) => a0.size - i) (0, ⟨none, 0, 0⟩) ⟨_, _, _, _, _, _, _, _, _, _, _, _, _, _, _, _, _, _, _, _, _, _, _, _, _, _, _, _, _, _, _, _, _, rfl, (Z.retype (has_cons (Z.has 0 rfl) (Has.nil _ _))), Nat.zero_le _⟩ ?_
            clear Z; rintro ⟨i, pm⟩ a W ⟨j9_17, j10_17, j74_17, j75_17, j76_17, j77_17, j78_17, j79_17, j80_17, j81_17, j82_17, j83_17, j84_17, j85_17, j86_17, j87_17, j88_17, j89_17, j90_17, j91_17, j92_17, j93_17, j94_17, j95_17, j96_17, j97_17, j98_17, j99_17, j100_17, j101_17, j102_17, j103_17, j104_17, rfl, Z, hI⟩
            obtain ⟨hi0, hi2⟩ := numv_rng hgA i hI
            have hi1 := fm_ten hi0 hi2 (by omega)
            have hI0 := hI
            refine wp_seq ?_
            refine wp_seq ?_
            refine wp_region_list ?_
            refine seq_is (v := .int .i64 ((i + 1 : Nat) : Int)) rfl (run_move rfl rfl) ?_
            (try simp only [Act.put, List.setIfInBounds_toArray, List.set_cons_zero, List.set_cons_succ])
            refine seq_is (v := .string a0) rfl (run_move rfl rfl) ?_
            (try simp only [Act.put, List.setIfInBounds_toArray, List.set_cons_zero, List.set_cons_succ])
            refine seq_is (v := .int .i64 (((a0.size : Nat) : Int))) rfl (run_lenS rfl rfl) ?_
            (try simp only [Act.put, List.setIfInBounds_toArray, List.set_cons_zero, List.set_cons_succ])
            refine seq_is (v := .bool (decide ((((i + 1 : Nat) : Int)) < (((a0.size : Nat) : Int))))) rfl (run_lss rfl rfl rfl) ?_
            (try simp only [Act.put, List.setIfInBounds_toArray, List.set_cons_zero, List.set_cons_succ])
            show Code.wp _ _ _ _ _
            refine wp_cond_split (t := decide ((((i + 1 : Nat) : Int)) < (((a0.size : Nat) : Int)))) rfl ?_ ?_
            · intro hc10
              have p_hc10 := of_decide_eq_true hc10
              refine wp_skip ?_
              show Code.wp _ _ _ _ _
              refine wp_block ?_
              refine wp_seq ?_
              have hch := chunk_rng (s := a0) (k := 1) (i := i) (by omega)
              refine wp_region_list ?_
              refine seq_is (v := .string a0) rfl (run_move rfl rfl) ?_
              (try simp only [Act.put, List.setIfInBounds_toArray, List.set_cons_zero, List.set_cons_succ])
              refine seq_is (v := .int .i64 (((a0.size : Nat) : Int))) rfl (run_lenS rfl rfl) ?_
              (try simp only [Act.put, List.setIfInBounds_toArray, List.set_cons_zero, List.set_cons_succ])
              refine seq_is (v := .int .i64 ((i + 1 : Nat) : Int)) rfl (run_move rfl rfl) ?_
              (try simp only [Act.put, List.setIfInBounds_toArray, List.set_cons_zero, List.set_cons_succ])
              refine seq_is (v := .int .i64 (((a0.size : Nat) : Int) - ((i + 1 : Nat) : Int))) rfl (run_sub' (w64 (by omega) (by omega)) rfl rfl rfl) ?_
              (try simp only [Act.put, List.setIfInBounds_toArray, List.set_cons_zero, List.set_cons_succ])
              refine seq_is (v := .int .i64 ((chunk a0 1 i : Nat) : Int)) rfl (run_min (chunk_min (by omega) (by omega)) rfl rfl rfl) ?_
              (try simp only [Act.put, List.setIfInBounds_toArray, List.set_cons_zero, List.set_cons_succ])
              refine seq_is (v := .int .i64 ((chunk a0 1 i : Nat) : Int)) rfl (run_assign rfl rfl) ?_
              (try simp only [Act.put, List.setIfInBounds_toArray, List.set_cons_zero, List.set_cons_succ])
              show Code.wp _ _ _ _ _
              refine wp_seq ?_
              refine wp_region_list ?_
              refine seq_is (v := .int .u32 (0)) rfl (run_assign rfl rfl) ?_
              (try simp only [Act.put, List.setIfInBounds_toArray, List.set_cons_zero, List.set_cons_succ])
              show Code.wp _ _ _ _ _
              refine wp_seq ?_
              refine wp_seq ?_
              refine wp_region_list ?_
              refine seq_is (v := .int .i64 ((chunk a0 1 i : Nat) : Int)) rfl (run_move rfl rfl) ?_
              (try simp only [Act.put, List.setIfInBounds_toArray, List.set_cons_zero, List.set_cons_succ])
              refine seq_is (v := .int .i64 (0)) rfl (run_move rfl rfl) ?_
              (try simp only [Act.put, List.setIfInBounds_toArray, List.set_cons_zero, List.set_cons_succ])
              show Code.wp _ _ _ _ _
              refine wp_block ?_
              refine wp_loop_s (α := Nat × Int) (fun (c, v) a W => ∃ (j85_21 j86_21 j87_21 j88_21 j89_21 j90_21 j91_21 j92_21 j93_21 j94_21 j95_21 j96_21 : Value), a = { tmps := #[.string a0, undef, .pointer (some ⟨g1, 0, none⟩), j3_9, j4_9, .int .i64 (1), .int .i64 ((j + 1 : Nat) : Int), pm.v, .int .i64 ((i + c + 1 : Nat) : Int), .int .i64 ((chunk a0 1 i : Nat) : Int), .int .u32 (v), .string a0, .int .i64 (((a0.size : Nat) : Int)), .bool (decide ((65536) < (((a0.size : Nat) : Int)))), undef, .string a0, .int .i64 (((a0.size : Nat) : Int)), .bool (decide ((0) < (((a0.size : Nat) : Int)))), .bool (decide ((0) < (((a0.size : Nat) : Int)))), .string a0, .int .u8 (bt a0 (0)), .bool (decide ((bt a0 (0)) = (45))), .bool (decide ((bt a0 (0)) = (45))), .int .i64 (1), .bool (decide ((1 : Int) = (1))), .bool (decide ((1 : Int) = (1))), .string a0, .int .i64 (((a0.size : Nat) : Int)), .bool (decide ((1) < (((a0.size : Nat) : Int)))), .bool (decide ((1) < (((a0.size : Nat) : Int)))), .bool (decide ((1) < (((a0.size : Nat) : Int)))), .string a0, .int .u8 (bt a0 (1)), .bool (decide ((bt a0 (1)) = (48))), .bool (decide ((bt a0 (1)) = (48))), undef, .int .i64 (1), .int .i64 ((j + 1 : Nat) : Int), .string a0, .int .i64 (((a0.size : Nat) : Int)), .bool (decide ((((j + 1 : Nat) : Int)) < (((a0.size : Nat) : Int)))), j41_9, j42_9, j43_9, j44_9, j45_9, j46_9, j47_9, j48_9, j49_9, j50_9, j51_9, j52_9, j53_9, j54_9, j55_9, j56_9, j57_9, j58_9, j59_9, j60_9, j61_9, j62_9, j63_9, j64_9, j65_9, j66_9, .int .i64 (1), .string a0, .int .i64 (((a0.size : Nat) : Int)), .bool (decide ((1) = (((a0.size : Nat) : Int)))), undef, undef, .int .i64 (1), .int .i64 ((i + 1 : Nat) : Int), .string a0, .int .i64 (((a0.size : Nat) : Int)), .bool (decide ((((i + 1 : Nat) : Int)) < (((a0.size : Nat) : Int)))), .string a0, .int .i64 (((a0.size : Nat) : Int)), .int .i64 ((i + 1 : Nat) : Int), .int .i64 (((a0.size : Nat) : Int) - ((i + 1 : Nat) : Int)), .int .i64 ((chunk a0 1 i : Nat) : Int), .int .i64 ((chunk a0 1 i : Nat) : Int), .int .i64 ((c : Nat) : Int), j85_21, j86_21, j87_21, j88_21, j89_21, j90_21, j91_21, j92_21, j93_21, j94_21, j95_21, j96_21, j97_17, j98_17, j99_17, j100_17, j101_17, j102_17, j103_17, j104_17, undef, undef, undef, undef], defers := [] } ∧ Zt w W [(pm.v, tyO w (lm (numv (tlS a0 1) i)))] [(g1, 24, #[.bool (false), .slice none 0 0])] ∧ (RC (tlS a0 1) i c v ∧ c ≤ chunk a0 1 i)) (fun (c, v) => chunk a0 1 i - c) (0, 0) ⟨_, _, _, _, _, _, _, _, _, _, _, _, rfl, (Z.retype (has_cons (Z.has 0 rfl) (Has.nil _ _))), ⟨RC.start hI, Nat.zero_le _⟩⟩ ?_
              clear Z; rintro ⟨c, v⟩ a W ⟨j85_21, j86_21, j87_21, j88_21, j89_21, j90_21, j91_21, j92_21, j93_21, j94_21, j95_21, j96_21, rfl, Z, hI⟩
              obtain ⟨hI, hc⟩ := hI
              have hbr := bt_range a0 (((i + c + 1 : Nat) : Int))
              have hv0 := hI.v0
              have hle := hI.le
              refine wp_seq ?_
              refine wp_region_list ?_
              refine seq_is (v := .bool (decide ((((c : Nat) : Int)) < (((chunk a0 1 i : Nat) : Int))))) rfl (run_lss rfl rfl rfl) ?_
              (try simp only [Act.put, List.setIfInBounds_toArray, List.set_cons_zero, List.set_cons_succ])
              show Code.wp _ _ _ _ _
              refine wp_seq ?_
              refine wp_cond_split (t := decide ((((c : Nat) : Int)) < (((chunk a0 1 i : Nat) : Int)))) rfl ?_ ?_
              · intro hc11
                have p_hc11 := of_decide_eq_true hc11
                refine wp_skip ?_
                show Code.wp _ _ _ _ _
                refine wp_seq ?_
                refine wp_block ?_
                refine wp_seq ?_
                have hdg : 48 ≤ bt a0 (((i + c + 1 : Nat) : Int)) ∧ bt a0 (((i + c + 1 : Nat) : Int)) ≤ 57 := dig_at (k := 1) (hgA (i + c) (by omega))
                have hv8 := hI.small (by omega)
                refine wp_region_list ?_
                refine seq_is (v := .int .u32 (v)) rfl (run_move rfl rfl) ?_
                (try simp only [Act.put, List.setIfInBounds_toArray, List.set_cons_zero, List.set_cons_succ])
                refine seq_is (v := .int .u32 (10 * v)) rfl (run_mul4 (w32 (by omega) (by omega)) rfl rfl rfl) ?_
                (try simp only [Act.put, List.setIfInBounds_toArray, List.set_cons_zero, List.set_cons_succ])
                refine seq_is (v := .string a0) rfl (run_move rfl rfl) ?_
                (try simp only [Act.put, List.setIfInBounds_toArray, List.set_cons_zero, List.set_cons_succ])
                refine seq_is (v := .int .i64 ((i + c + 1 : Nat) : Int)) rfl (run_move rfl rfl) ?_
                (try simp only [Act.put, List.setIfInBounds_toArray, List.set_cons_zero, List.set_cons_succ])
                refine seq_is (v := .int .u8 (bt a0 (((i + c + 1 : Nat) : Int)))) rfl (run_idxS (by omega) (by omega) rfl rfl rfl) ?_
                (try simp only [Act.put, List.setIfInBounds_toArray, List.set_cons_zero, List.set_cons_succ])
                refine seq_is (v := .int .u8 (bt a0 (((i + c + 1 : Nat) : Int)) - 48)) rfl (run_subY (w8 (by omega) (by omega)) rfl rfl rfl) ?_
                (try simp only [Act.put, List.setIfInBounds_toArray, List.set_cons_zero, List.set_cons_succ])
                refine seq_is (v := .int .u32 (bt a0 (((i + c + 1 : Nat) : Int)) - 48)) rfl (run_convY (w32 (by omega) (by omega)) rfl rfl) ?_
                (try simp only [Act.put, List.setIfInBounds_toArray, List.set_cons_zero, List.set_cons_succ])
                refine seq_is (v := .int .u32 (10 * v + (bt a0 (((i + c + 1 : Nat) : Int)) - 48))) rfl (run_add4 (w32 (by omega) (by omega)) rfl rfl rfl) ?_
                (try simp only [Act.put, List.setIfInBounds_toArray, List.set_cons_zero, List.set_cons_succ])
                refine seq_is (v := .int .u32 (10 * v + (bt a0 (((i + c + 1 : Nat) : Int)) - 48))) rfl (run_assign rfl rfl) ?_
                (try simp only [Act.put, List.setIfInBounds_toArray, List.set_cons_zero, List.set_cons_succ])
                show Code.wp _ _ _ _ _
                refine wp_region_list ?_
                refine seq_is (v := .int .i64 ((i + c + 1 : Nat) : Int)) rfl (run_move rfl rfl) ?_
                (try simp only [Act.put, List.setIfInBounds_toArray, List.set_cons_zero, List.set_cons_succ])
                refine seq_is (v := .int .i64 (((i + c + 1 + 1 : Nat) : Int))) rfl (run_inc rfl rfl (by omega)) ?_
                (try simp only [Act.put, List.setIfInBounds_toArray, List.set_cons_zero, List.set_cons_succ])
                refine seq_is (v := .int .i64 (((i + c + 1 + 1 : Nat) : Int))) rfl (run_assign rfl rfl) ?_
                (try simp only [Act.put, List.setIfInBounds_toArray, List.set_cons_zero, List.set_cons_succ])
                show Code.wp _ _ _ _ _
                refine wp_region_list ?_
                refine seq_is (v := .int .i64 (((c + 1 : Nat) : Int))) rfl (run_inc rfl rfl (by omega)) ?_
                (try simp only [Act.put, List.setIfInBounds_toArray, List.set_cons_zero, List.set_cons_succ])
                refine seq_is (v := .int .i64 (((c + 1 : Nat) : Int))) rfl (run_move rfl rfl) ?_
                (try simp only [Act.put, List.setIfInBounds_toArray, List.set_cons_zero, List.set_cons_succ])
                exact ⟨(c + 1, 10 * v + (bt a0 ((i + c + 1 : Nat) : Int) - 48)), (show chunk a0 1 i - (c + 1) < chunk a0 1 i - c by omega), _, _, _, _, _, _, _, _, _, _, _, _, rfl, ((Z).retype (has_cons (Z.has 0 rfl) (Has.nil _ _))), ⟨(bt_tl (s := a0) (k := 1) (i := i + c)) ▸ hI.step (by omega) (by omega) (hgA _ (by omega)), by omega⟩⟩
              · intro hc11
                have p_hc11 := of_decide_eq_false hc11
                refine wp_exit ?_
                show Code.wp _ _ _ _ _
                have hcn : chunk a0 1 i = c := by omega
                have hc9 := ten9 hI.nine
                have hv9 := hI.v1
                have hcf := RC.fms hi0 hi2 hI (by omega)
                refine wp_region_list ?_
                refine seq_is (v := pm.v) rfl (run_move rfl rfl) ?_
                (try simp only [Act.put, List.setIfInBounds_toArray, List.set_cons_zero, List.set_cons_succ])
                refine seq_is (v := .int .i64 ((chunk a0 1 i : Nat) : Int)) rfl (run_move rfl rfl) ?_
                (try simp only [Act.put, List.setIfInBounds_toArray, List.set_cons_zero, List.set_cons_succ])
                refine seq_call Z rfl rfl Try.func111 rfl rfl (args1 rfl) (Z.callV (zint_nines.at (by omega) hcn hI.nine)) ?_; clear Z; intro x12 W Z
                (try simp only [Act.put, List.setIfInBounds_toArray, List.set_cons_zero, List.set_cons_succ])
                refine seq_one Z rfl rfl rfl rfl ?_; clear Z; intro x13 W Z
                (try simp only [Act.put, List.setIfInBounds_toArray, List.set_cons_zero, List.set_cons_succ])
                refine seq_call Z rfl rfl Try.func91 rfl rfl (args2 rfl rfl) (Z.callM (nat_Mul.sem (Z.ownM 1 rfl hi0 hi1) (Z.magL 0 rfl (ok_one (ten9 hI.nine).1 (ten9 hI.nine).2).1 (by simp) (ok_one (ten9 hI.nine).1 (ten9 hI.nine).2).2))) ?_; clear Z; intro x14 W Z
                (try simp only [Act.put, List.setIfInBounds_toArray, List.set_cons_zero, List.set_cons_succ])
                refine seq_is (v := .int .u32 (v)) rfl (run_move rfl rfl) ?_
                (try simp only [Act.put, List.setIfInBounds_toArray, List.set_cons_zero, List.set_cons_succ])
                refine seq_one Z rfl rfl rfl rfl ?_; clear Z; intro x15 W Z
                (try simp only [Act.put, List.setIfInBounds_toArray, List.set_cons_zero, List.set_cons_succ])
                refine seq_call Z rfl rfl Try.func92 rfl rfl (args2 rfl rfl) (Z.callM (nat_Add.sem (Z.ownM 1 rfl hcf.1 hcf.2.1) (Z.magL 0 rfl (ok_one hI.v0 (by have := hI.v1; have := (ten9 hI.nine).2; omega)).1 (by simp) (ok_one hI.v0 (by have := hI.v1; have := (ten9 hI.nine).2; omega)).2))) ?_; clear Z; intro x16 W Z
                (try simp only [Act.put, List.setIfInBounds_toArray, List.set_cons_zero, List.set_cons_succ])
                refine seq_is (v := x16.v) rfl (run_assign rfl rfl) ?_
                (try simp only [Act.put, List.setIfInBounds_toArray, List.set_cons_zero, List.set_cons_succ])
                rw [← hI.num] at Z
                exact ⟨(i + c, x16), (show a0.size - (i + c) < a0.size - i by omega), _, _, _, _, _, _, _, _, _, _, _, _, _, _, _, _, _, _, _, _, _, _, _, _, _, _, _, _, _, _, _, _, _, rfl, ((Z).retype (has_cons (Z.has 0 rfl) (Has.nil _ _))), hI.le⟩
            · intro hc10
              have p_hc10 := of_decide_eq_false hc10
              refine wp_exit ?_
              show Code.wp _ _ _ _ _
              refine wp_seq ?_
              have hie : i = (tlS a0 1).size := by omega
              refine wp_region_list ?_
              refine seq_is (v := .int .i64 (1)) rfl (run_move rfl rfl) ?_
              (try simp only [Act.put, List.setIfInBounds_toArray, List.set_cons_zero, List.set_cons_succ])
              refine seq_is (v := .bool (decide ((1 : Int) = (1)))) rfl (run_eql rfl rfl rfl) ?_
              (try simp only [Act.put, List.setIfInBounds_toArray, List.set_cons_zero, List.set_cons_succ])
              refine seq_is (v := pm.v) rfl (run_move rfl rfl) ?_
              (try simp only [Act.put, List.setIfInBounds_toArray, List.set_cons_zero, List.set_cons_succ])
              refine seq_call Z rfl rfl Try.func76 rfl rfl (args2 rfl rfl) (Z.callI (zint_made.res (Z.ownM 0 rfl hi0 hi1))) ?_; clear Z; intro x17 W Z
              (try simp only [Act.put, List.setIfInBounds_toArray, List.set_cons_zero, List.set_cons_succ])
              refine seq_store Z 0 rfl rfl rfl rfl rfl ?_; clear Z; intro W Z
              (try simp only [Act.put, List.setIfInBounds_toArray, List.set_cons_zero, List.set_cons_succ])
              refine seq_is (v := .int .i64 (0)) rfl (run_assign rfl rfl) ?_
              (try simp only [Act.put, List.setIfInBounds_toArray, List.set_cons_zero, List.set_cons_succ])
              refine seq_is (v := .int .i64 (0)) rfl (run_assign rfl rfl) ?_
              (try simp only [Act.put, List.setIfInBounds_toArray, List.set_cons_zero, List.set_cons_succ])
              show Code.wp _ _ _ _ _
              refine wp_ret ?_
              have hR := (readZ_ok' (by omega) hA hz (rd_good (by omega) hgA) hie)
              exact Z.endsIii (u := .int .i64 (0)) (u2 := .int .i64 (0)) 0 0 rfl rfl rfl rfl rfl rfl rfl (by rw [hR]; try rfl) (by rw [hR]; try rfl) (by rw [hR]; try rfl)
    · have p_hk3 := of_decide_eq_false hk3
      have hA : rdAt a0 = 1 := rdAt_yes (by omega) p_hq2
      have hT := tlS_size (s := a0) (k := 1)
      refine wp_region_list ?_
      refine seq_is (v := .int .i64 (1)) rfl (run_move rfl rfl) ?_
      (try simp only [Act.put, List.setIfInBounds_toArray, List.set_cons_zero, List.set_cons_succ])
      refine seq_is (v := .bool (decide ((1 : Int) = (1)))) rfl (run_eql rfl rfl rfl) ?_
      (try simp only [Act.put, List.setIfInBounds_toArray, List.set_cons_zero, List.set_cons_succ])
      refine seq_is (v := .bool (decide ((1 : Int) = (1)))) rfl (run_move rfl rfl) ?_
      (try simp only [Act.put, List.setIfInBounds_toArray, List.set_cons_zero, List.set_cons_succ])
      refine list_want rfl rfl (congrArg some (congrArg Value.bool (Eq.refl true))) (wp_run (v := .string a0) (run_move rfl rfl) ?_)
      (try simp only [Act.put, List.setIfInBounds_toArray, List.set_cons_zero, List.set_cons_succ])
      refine list_want rfl rfl (congrArg some (congrArg Value.bool (Eq.refl true))) (wp_run (v := .int .i64 (((a0.size : Nat) : Int))) (run_lenS rfl rfl) ?_)
      (try simp only [Act.put, List.setIfInBounds_toArray, List.set_cons_zero, List.set_cons_succ])
      refine list_want rfl rfl (congrArg some (congrArg Value.bool (Eq.refl true))) (wp_run (v := .bool (decide ((1) < (((a0.size : Nat) : Int))))) (run_gtr rfl rfl rfl) ?_)
      (try simp only [Act.put, List.setIfInBounds_toArray, List.set_cons_zero, List.set_cons_succ])
      refine seq_is (v := .bool (decide ((1) < (((a0.size : Nat) : Int))))) rfl (run_pickT rfl rfl rfl) ?_
      (try simp only [Act.put, List.setIfInBounds_toArray, List.set_cons_zero, List.set_cons_succ])
      refine seq_is (v := .bool (decide ((1) < (((a0.size : Nat) : Int))))) rfl (run_move rfl rfl) ?_
      (try simp only [Act.put, List.setIfInBounds_toArray, List.set_cons_zero, List.set_cons_succ])
      refine list_unwant rfl rfl (congrArg some (congrArg Value.bool hk3)) (by decide) ?_
      (try simp only [Act.put, List.setIfInBounds_toArray, List.set_cons_zero, List.set_cons_succ])
      refine list_unwant rfl rfl (congrArg some (congrArg Value.bool hk3)) (by decide) ?_
      (try simp only [Act.put, List.setIfInBounds_toArray, List.set_cons_zero, List.set_cons_succ])
      refine list_unwant rfl rfl (congrArg some (congrArg Value.bool hk3)) (by decide) ?_
      (try simp only [Act.put, List.setIfInBounds_toArray, List.set_cons_zero, List.set_cons_succ])
      refine seq_is (v := .bool (ff)) rfl (run_cast (run_pickF rfl ((show _ = Value.bool (decide ((1) < (((a0.size : Nat) : Int)))) from rfl).trans (congrArg Value.bool hk3)) rfl) hff.symm) ?_
      (try simp only [Act.put, List.setIfInBounds_toArray, List.set_cons_zero, List.set_cons_succ])
      show Code.wp _ _ _ _ _
      refine wp_cond_false ((show _ = Value.bool (ff) from rfl).trans (congrArg Value.bool hff)) ?_
      refine wp_skip ?_
      show Code.wp _ _ _ _ _
      refine wp_seq ?_
      refine wp_seq ?_
      have hz : ¬ (1 = 1 ∧ 1 < a0.size ∧ bt a0 1 = 48) := by omega
      refine wp_region_list ?_
      refine seq_is (v := .int .i64 (1)) rfl (run_move rfl rfl) ?_
      (try simp only [Act.put, List.setIfInBounds_toArray, List.set_cons_zero, List.set_cons_succ])
      refine seq_is (v := .int .i64 (1)) rfl (run_assign rfl rfl) ?_
      (try simp only [Act.put, List.setIfInBounds_toArray, List.set_cons_zero, List.set_cons_succ])
      show Code.wp _ _ _ _ _
      refine wp_block ?_
      refine wp_loop_s (α := Nat) (fun j a W => ∃ (j3_9 j4_9 j37_9 j38_9 j39_9 j40_9 j41_9 j42_9 j43_9 j44_9 j45_9 j46_9 j47_9 j48_9 j49_9 j50_9 j51_9 j52_9 j53_9 j54_9 j55_9 j56_9 j57_9 j58_9 j59_9 j60_9 j61_9 j62_9 j63_9 j64_9 j65_9 j66_9 : Value), a = { tmps := #[.string a0, undef, .pointer (some ⟨g1, 0, none⟩), j3_9, j4_9, .int .i64 (1), .int .i64 ((j + 1 : Nat) : Int), undef, undef, undef, undef, .string a0, .int .i64 (((a0.size : Nat) : Int)), .bool (decide ((65536) < (((a0.size : Nat) : Int)))), undef, .string a0, .int .i64 (((a0.size : Nat) : Int)), .bool (decide ((0) < (((a0.size : Nat) : Int)))), .bool (decide ((0) < (((a0.size : Nat) : Int)))), .string a0, .int .u8 (bt a0 (0)), .bool (decide ((bt a0 (0)) = (45))), .bool (decide ((bt a0 (0)) = (45))), .int .i64 (1), .bool (decide ((1 : Int) = (1))), .bool (decide ((1 : Int) = (1))), .string a0, .int .i64 (((a0.size : Nat) : Int)), .bool (decide ((1) < (((a0.size : Nat) : Int)))), .bool (decide ((1) < (((a0.size : Nat) : Int)))), .bool (decide ((1) < (((a0.size : Nat) : Int)))), undef, undef, undef, .bool (ff), undef, .int .i64 (1), j37_9, j38_9, j39_9, j40_9, j41_9, j42_9, j43_9, j44_9, j45_9, j46_9, j47_9, j48_9, j49_9, j50_9, j51_9, j52_9, j53_9, j54_9, j55_9, j56_9, j57_9, j58_9, j59_9, j60_9, j61_9, j62_9, j63_9, j64_9, j65_9, j66_9, undef, undef, undef, undef, undef, undef, undef, undef, undef, undef, undef, undef, undef, undef, undef, undef, undef, undef, undef, undef, undef, undef, undef, undef, undef, undef, undef, undef, undef, undef, undef, undef, undef, undef, undef, undef, undef, undef, undef, undef, undef, undef], defers := [] } ∧ Zt w W [] [(g1, 24, #[.bool (false), .slice none 0 0])] ∧ (j ≤ (tlS a0 1).size ∧ ∀ k, k < j → badAt (tlS a0 1) k = false)) (fun j => a0.size - j) 0 ⟨_, _, _, _, _, _, _, _, _, _, _, _, _, _, _, _, _, _, _, _, _, _, _, _, _, _, _, _, _, _, _, _, rfl, (Z.retype (Has.nil _ _)), ⟨Nat.zero_le _, fun k h => by omega⟩⟩ ?_
      clear Z; rintro j a W ⟨j3_9, j4_9, j37_9, j38_9, j39_9, j40_9, j41_9, j42_9, j43_9, j44_9, j45_9, j46_9, j47_9, j48_9, j49_9, j50_9, j51_9, j52_9, j53_9, j54_9, j55_9, j56_9, j57_9, j58_9, j59_9, j60_9, j61_9, j62_9, j63_9, j64_9, j65_9, j66_9, rfl, Z, hI⟩
      obtain ⟨hj, hg⟩ := hI
      have hbr := bt_range a0 (((j + 1 : Nat) : Int))
      refine wp_seq ?_
      refine wp_seq ?_
      refine wp_region_list ?_
      refine seq_is (v := .int .i64 ((j + 1 : Nat) : Int)) rfl (run_move rfl rfl) ?_
      (try simp only [Act.put, List.setIfInBounds_toArray, List.set_cons_zero, List.set_cons_succ])
      refine seq_is (v := .string a0) rfl (run_move rfl rfl) ?_
      (try simp only [Act.put, List.setIfInBounds_toArray, List.set_cons_zero, List.set_cons_succ])
      refine seq_is (v := .int .i64 (((a0.size : Nat) : Int))) rfl (run_lenS rfl rfl) ?_
      (try simp only [Act.put, List.setIfInBounds_toArray, List.set_cons_zero, List.set_cons_succ])
      refine seq_is (v := .bool (decide ((((j + 1 : Nat) : Int)) < (((a0.size : Nat) : Int))))) rfl (run_lss rfl rfl rfl) ?_
      (try simp only [Act.put, List.setIfInBounds_toArray, List.set_cons_zero, List.set_cons_succ])
      show Code.wp _ _ _ _ _
      refine wp_cond_split (t := decide ((((j + 1 : Nat) : Int)) < (((a0.size : Nat) : Int)))) rfl ?_ ?_
      · intro hc18
        have p_hc18 := of_decide_eq_true hc18
        refine wp_skip ?_
        show Code.wp _ _ _ _ _
        refine wp_seq ?_
        refine wp_block ?_
        refine wp_seq ?_
        rcases Bool.eq_false_or_eq_true (decide ((bt a0 (((j + 1 : Nat) : Int))) < (48))) with hk19 | hk19
        · have p_hk19 := of_decide_eq_true hk19
          refine wp_region_list ?_
          refine seq_is (v := .string a0) rfl (run_move rfl rfl) ?_
          (try simp only [Act.put, List.setIfInBounds_toArray, List.set_cons_zero, List.set_cons_succ])
          refine seq_is (v := .int .i64 ((j + 1 : Nat) : Int)) rfl (run_move rfl rfl) ?_
          (try simp only [Act.put, List.setIfInBounds_toArray, List.set_cons_zero, List.set_cons_succ])
          refine seq_is (v := .int .u8 (bt a0 (((j + 1 : Nat) : Int)))) rfl (run_idxS (by omega) (by omega) rfl rfl rfl) ?_
          (try simp only [Act.put, List.setIfInBounds_toArray, List.set_cons_zero, List.set_cons_succ])
          refine seq_is (v := .bool (decide ((bt a0 (((j + 1 : Nat) : Int))) < (48)))) rfl (run_lssY rfl rfl rfl) ?_
          (try simp only [Act.put, List.setIfInBounds_toArray, List.set_cons_zero, List.set_cons_succ])
          refine seq_is (v := .bool (decide ((bt a0 (((j + 1 : Nat) : Int))) < (48)))) rfl (run_move rfl rfl) ?_
          (try simp only [Act.put, List.setIfInBounds_toArray, List.set_cons_zero, List.set_cons_succ])
          refine list_unwant rfl rfl (congrArg some (congrArg Value.bool hk19)) (by decide) ?_
          (try simp only [Act.put, List.setIfInBounds_toArray, List.set_cons_zero, List.set_cons_succ])
          refine list_unwant rfl rfl (congrArg some (congrArg Value.bool hk19)) (by decide) ?_
          (try simp only [Act.put, List.setIfInBounds_toArray, List.set_cons_zero, List.set_cons_succ])
          refine list_unwant rfl rfl (congrArg some (congrArg Value.bool hk19)) (by decide) ?_
          (try simp only [Act.put, List.setIfInBounds_toArray, List.set_cons_zero, List.set_cons_succ])
          refine list_unwant rfl rfl (congrArg some (congrArg Value.bool hk19)) (by decide) ?_
          (try simp only [Act.put, List.setIfInBounds_toArray, List.set_cons_zero, List.set_cons_succ])
          refine seq_is (v := .bool (tt)) rfl (run_cast (run_pickT rfl ((show _ = Value.bool (decide ((bt a0 (((j + 1 : Nat) : Int))) < (48))) from rfl).trans (congrArg Value.bool hk19)) rfl) htt.symm) ?_
          (try simp only [Act.put, List.setIfInBounds_toArray, List.set_cons_zero, List.set_cons_succ])
          refine seq_is (v := .bool (tt)) rfl (run_move rfl rfl) ?_
          (try simp only [Act.put, List.setIfInBounds_toArray, List.set_cons_zero, List.set_cons_succ])
          refine list_unwant rfl rfl (congrArg some (congrArg Value.bool htt)) (by decide) ?_
          (try simp only [Act.put, List.setIfInBounds_toArray, List.set_cons_zero, List.set_cons_succ])
          refine list_unwant rfl rfl (congrArg some (congrArg Value.bool htt)) (by decide) ?_
          (try simp only [Act.put, List.setIfInBounds_toArray, List.set_cons_zero, List.set_cons_succ])
          refine list_unwant rfl rfl (congrArg some (congrArg Value.bool htt)) (by decide) ?_
          (try simp only [Act.put, List.setIfInBounds_toArray, List.set_cons_zero, List.set_cons_succ])
          refine list_unwant rfl rfl (congrArg some (congrArg Value.bool htt)) (by decide) ?_
          (try simp only [Act.put, List.setIfInBounds_toArray, List.set_cons_zero, List.set_cons_succ])
          refine list_unwant rfl rfl (congrArg some (congrArg Value.bool htt)) (by decide) ?_
          (try simp only [Act.put, List.setIfInBounds_toArray, List.set_cons_zero, List.set_cons_succ])
          refine list_unwantU rfl rfl rfl ?_
          (try simp only [Act.put, List.setIfInBounds_toArray, List.set_cons_zero, List.set_cons_succ])
          refine list_unwantU rfl rfl rfl ?_
          (try simp only [Act.put, List.setIfInBounds_toArray, List.set_cons_zero, List.set_cons_succ])
          refine list_unwantU rfl rfl rfl ?_
          (try simp only [Act.put, List.setIfInBounds_toArray, List.set_cons_zero, List.set_cons_succ])
          refine list_unwantU rfl rfl rfl ?_
          (try simp only [Act.put, List.setIfInBounds_toArray, List.set_cons_zero, List.set_cons_succ])
          refine list_unwant rfl rfl (congrArg some (congrArg Value.bool htt)) (by decide) ?_
          (try simp only [Act.put, List.setIfInBounds_toArray, List.set_cons_zero, List.set_cons_succ])
          refine seq_is (v := .bool (tt)) rfl (run_cast (run_pickT rfl ((show _ = Value.bool (tt) from rfl).trans (congrArg Value.bool htt)) rfl) htt.symm) ?_
          (try simp only [Act.put, List.setIfInBounds_toArray, List.set_cons_zero, List.set_cons_succ])
          show Code.wp _ _ _ _ _
          refine wp_cond_true ((show _ = Value.bool (tt) from rfl).trans (congrArg Value.bool htt)) ?_
          refine wp_seq ?_
          refine wp_region_list ?_
          refine seq_is (v := .agg #[.bool (false), .slice none 0 0]) rfl (run_build0 rfl) ?_
          (try simp only [Act.put, List.setIfInBounds_toArray, List.set_cons_zero, List.set_cons_succ])
          refine seq_is (v := .int .i64 ((j + 1 : Nat) : Int)) rfl (run_move rfl rfl) ?_
          (try simp only [Act.put, List.setIfInBounds_toArray, List.set_cons_zero, List.set_cons_succ])
          refine seq_store Z 0 rfl rfl rfl rfl rfl ?_; clear Z; intro W Z
          (try simp only [Act.put, List.setIfInBounds_toArray, List.set_cons_zero, List.set_cons_succ])
          refine seq_is (v := .int .i64 ((j + 1 : Nat) : Int)) rfl (run_assign rfl rfl) ?_
          (try simp only [Act.put, List.setIfInBounds_toArray, List.set_cons_zero, List.set_cons_succ])
          refine seq_is (v := .int .i64 (4)) rfl (run_assign rfl rfl) ?_
          (try simp only [Act.put, List.setIfInBounds_toArray, List.set_cons_zero, List.set_cons_succ])
          show Code.wp _ _ _ _ _
          refine wp_ret ?_
          have hR := (readZ_err' (by omega) hA hz (rd_bad (by omega) hg (bad_lo hk19)))
          exact Z.nought.endsIii (u := .int .i64 ((j + 1 : Nat) : Int)) (u2 := .int .i64 (4)) 0 0 rfl rfl rfl rfl rfl rfl rfl (by rw [hR]; try rfl) (by rw [hR]; refine congrArg (Value.int .i64) ?_; dsimp only; omega) (by rw [hR]; try rfl)
        · have p_hk19 := of_decide_eq_false hk19
          rcases Bool.eq_false_or_eq_true (decide ((57) < (bt a0 (((j + 1 : Nat) : Int))))) with hk20 | hk20
          · have p_hk20 := of_decide_eq_true hk20
            refine wp_region_list ?_
            refine seq_is (v := .string a0) rfl (run_move rfl rfl) ?_
            (try simp only [Act.put, List.setIfInBounds_toArray, List.set_cons_zero, List.set_cons_succ])
            refine seq_is (v := .int .i64 ((j + 1 : Nat) : Int)) rfl (run_move rfl rfl) ?_
            (try simp only [Act.put, List.setIfInBounds_toArray, List.set_cons_zero, List.set_cons_succ])
            refine seq_is (v := .int .u8 (bt a0 (((j + 1 : Nat) : Int)))) rfl (run_idxS (by omega) (by omega) rfl rfl rfl) ?_
            (try simp only [Act.put, List.setIfInBounds_toArray, List.set_cons_zero, List.set_cons_succ])
            refine seq_is (v := .bool (decide ((bt a0 (((j + 1 : Nat) : Int))) < (48)))) rfl (run_lssY rfl rfl rfl) ?_
            (try simp only [Act.put, List.setIfInBounds_toArray, List.set_cons_zero, List.set_cons_succ])
            refine seq_is (v := .bool (decide ((bt a0 (((j + 1 : Nat) : Int))) < (48)))) rfl (run_move rfl rfl) ?_
            (try simp only [Act.put, List.setIfInBounds_toArray, List.set_cons_zero, List.set_cons_succ])
            refine list_want rfl rfl (congrArg some (congrArg Value.bool hk19)) (wp_run (v := .string a0) (run_move rfl rfl) ?_)
            (try simp only [Act.put, List.setIfInBounds_toArray, List.set_cons_zero, List.set_cons_succ])
            refine list_want rfl rfl (congrArg some (congrArg Value.bool hk19)) (wp_run (v := .int .i64 ((j + 1 : Nat) : Int)) (run_move rfl rfl) ?_)
            (try simp only [Act.put, List.setIfInBounds_toArray, List.set_cons_zero, List.set_cons_succ])
            refine list_want rfl rfl (congrArg some (congrArg Value.bool hk19)) (wp_run (v := .int .u8 (bt a0 (((j + 1 : Nat) : Int)))) (run_idxS (by omega) (by omega) rfl rfl rfl) ?_)
            (try simp only [Act.put, List.setIfInBounds_toArray, List.set_cons_zero, List.set_cons_succ])
            refine list_want rfl rfl (congrArg some (congrArg Value.bool hk19)) (wp_run (v := .bool (decide ((57) < (bt a0 (((j + 1 : Nat) : Int)))))) (run_gtrY rfl rfl rfl) ?_)
            (try simp only [Act.put, List.setIfInBounds_toArray, List.set_cons_zero, List.set_cons_succ])
            refine seq_is (v := .bool (decide ((57) < (bt a0 (((j + 1 : Nat) : Int)))))) rfl (run_pickF rfl ((show _ = Value.bool (decide ((bt a0 (((j + 1 : Nat) : Int))) < (48))) from rfl).trans (congrArg Value.bool hk19)) rfl) ?_
            (try simp only [Act.put, List.setIfInBounds_toArray, List.set_cons_zero, List.set_cons_succ])
            refine seq_is (v := .bool (decide ((57) < (bt a0 (((j + 1 : Nat) : Int)))))) rfl (run_move rfl rfl) ?_
            (try simp only [Act.put, List.setIfInBounds_toArray, List.set_cons_zero, List.set_cons_succ])
            refine list_unwant rfl rfl (congrArg some (congrArg Value.bool hk20)) (by decide) ?_
            (try simp only [Act.put, List.setIfInBounds_toArray, List.set_cons_zero, List.set_cons_succ])
            refine list_unwant rfl rfl (congrArg some (congrArg Value.bool hk20)) (by decide) ?_
            (try simp only [Act.put, List.setIfInBounds_toArray, List.set_cons_zero, List.set_cons_succ])
            refine list_unwant rfl rfl (congrArg some (congrArg Value.bool hk20)) (by decide) ?_
            (try simp only [Act.put, List.setIfInBounds_toArray, List.set_cons_zero, List.set_cons_succ])
            refine list_unwant rfl rfl (congrArg some (congrArg Value.bool hk20)) (by decide) ?_
            (try simp only [Act.put, List.setIfInBounds_toArray, List.set_cons_zero, List.set_cons_succ])
            refine list_unwant rfl rfl (congrArg some (congrArg Value.bool hk20)) (by decide) ?_
            (try simp only [Act.put, List.setIfInBounds_toArray, List.set_cons_zero, List.set_cons_succ])
            refine list_unwantU rfl rfl rfl ?_
            (try simp only [Act.put, List.setIfInBounds_toArray, List.set_cons_zero, List.set_cons_succ])
            refine list_unwantU rfl rfl rfl ?_
            (try simp only [Act.put, List.setIfInBounds_toArray, List.set_cons_zero, List.set_cons_succ])
            refine list_unwantU rfl rfl rfl ?_
            (try simp only [Act.put, List.setIfInBounds_toArray, List.set_cons_zero, List.set_cons_succ])
            refine list_unwantU rfl rfl rfl ?_
            (try simp only [Act.put, List.setIfInBounds_toArray, List.set_cons_zero, List.set_cons_succ])
            refine list_unwant rfl rfl (congrArg some (congrArg Value.bool hk20)) (by decide) ?_
            (try simp only [Act.put, List.setIfInBounds_toArray, List.set_cons_zero, List.set_cons_succ])
            refine seq_is (v := .bool (tt)) rfl (run_cast (run_pickT rfl ((show _ = Value.bool (decide ((57) < (bt a0 (((j + 1 : Nat) : Int))))) from rfl).trans (congrArg Value.bool hk20)) rfl) htt.symm) ?_
            (try simp only [Act.put, List.setIfInBounds_toArray, List.set_cons_zero, List.set_cons_succ])
            show Code.wp _ _ _ _ _
            refine wp_cond_true ((show _ = Value.bool (tt) from rfl).trans (congrArg Value.bool htt)) ?_
            refine wp_seq ?_
            refine wp_region_list ?_
            refine seq_is (v := .agg #[.bool (false), .slice none 0 0]) rfl (run_build0 rfl) ?_
            (try simp only [Act.put, List.setIfInBounds_toArray, List.set_cons_zero, List.set_cons_succ])
            refine seq_is (v := .int .i64 ((j + 1 : Nat) : Int)) rfl (run_move rfl rfl) ?_
            (try simp only [Act.put, List.setIfInBounds_toArray, List.set_cons_zero, List.set_cons_succ])
            refine seq_store Z 0 rfl rfl rfl rfl rfl ?_; clear Z; intro W Z
            (try simp only [Act.put, List.setIfInBounds_toArray, List.set_cons_zero, List.set_cons_succ])
            refine seq_is (v := .int .i64 ((j + 1 : Nat) : Int)) rfl (run_assign rfl rfl) ?_
            (try simp only [Act.put, List.setIfInBounds_toArray, List.set_cons_zero, List.set_cons_succ])
            refine seq_is (v := .int .i64 (4)) rfl (run_assign rfl rfl) ?_
            (try simp only [Act.put, List.setIfInBounds_toArray, List.set_cons_zero, List.set_cons_succ])
            show Code.wp _ _ _ _ _
            refine wp_ret ?_
            have hR := (readZ_err' (by omega) hA hz (rd_bad (by omega) hg (bad_hi hk20)))
            exact Z.nought.endsIii (u := .int .i64 ((j + 1 : Nat) : Int)) (u2 := .int .i64 (4)) 0 0 rfl rfl rfl rfl rfl rfl rfl (by rw [hR]; try rfl) (by rw [hR]; refine congrArg (Value.int .i64) ?_; dsimp only; omega) (by rw [hR]; try rfl)
          · have p_hk20 := of_decide_eq_false hk20
            rcases Bool.eq_false_or_eq_true (decide ((((j + 1 : Nat) : Int)) = (2))) with hk21 | hk21
            · have p_hk21 := of_decide_eq_true hk21
              refine wp_region_list ?_
              refine seq_is (v := .string a0) rfl (run_move rfl rfl) ?_
              (try simp only [Act.put, List.setIfInBounds_toArray, List.set_cons_zero, List.set_cons_succ])
              refine seq_is (v := .int .i64 ((j + 1 : Nat) : Int)) rfl (run_move rfl rfl) ?_
              (try simp only [Act.put, List.setIfInBounds_toArray, List.set_cons_zero, List.set_cons_succ])
              refine seq_is (v := .int .u8 (bt a0 (((j + 1 : Nat) : Int)))) rfl (run_idxS (by omega) (by omega) rfl rfl rfl) ?_
              (try simp only [Act.put, List.setIfInBounds_toArray, List.set_cons_zero, List.set_cons_succ])
              refine seq_is (v := .bool (decide ((bt a0 (((j + 1 : Nat) : Int))) < (48)))) rfl (run_lssY rfl rfl rfl) ?_
              (try simp only [Act.put, List.setIfInBounds_toArray, List.set_cons_zero, List.set_cons_succ])
              refine seq_is (v := .bool (decide ((bt a0 (((j + 1 : Nat) : Int))) < (48)))) rfl (run_move rfl rfl) ?_
              (try simp only [Act.put, List.setIfInBounds_toArray, List.set_cons_zero, List.set_cons_succ])
              refine list_want rfl rfl (congrArg some (congrArg Value.bool hk19)) (wp_run (v := .string a0) (run_move rfl rfl) ?_)
              (try simp only [Act.put, List.setIfInBounds_toArray, List.set_cons_zero, List.set_cons_succ])
              refine list_want rfl rfl (congrArg some (congrArg Value.bool hk19)) (wp_run (v := .int .i64 ((j + 1 : Nat) : Int)) (run_move rfl rfl) ?_)
              (try simp only [Act.put, List.setIfInBounds_toArray, List.set_cons_zero, List.set_cons_succ])
              refine list_want rfl rfl (congrArg some (congrArg Value.bool hk19)) (wp_run (v := .int .u8 (bt a0 (((j + 1 : Nat) : Int)))) (run_idxS (by omega) (by omega) rfl rfl rfl) ?_)
              (try simp only [Act.put, List.setIfInBounds_toArray, List.set_cons_zero, List.set_cons_succ])
              refine list_want rfl rfl (congrArg some (congrArg Value.bool hk19)) (wp_run (v := .bool (decide ((57) < (bt a0 (((j + 1 : Nat) : Int)))))) (run_gtrY rfl rfl rfl) ?_)
              (try simp only [Act.put, List.setIfInBounds_toArray, List.set_cons_zero, List.set_cons_succ])
              refine seq_is (v := .bool (decide ((57) < (bt a0 (((j + 1 : Nat) : Int)))))) rfl (run_pickF rfl ((show _ = Value.bool (decide ((bt a0 (((j + 1 : Nat) : Int))) < (48))) from rfl).trans (congrArg Value.bool hk19)) rfl) ?_
              (try simp only [Act.put, List.setIfInBounds_toArray, List.set_cons_zero, List.set_cons_succ])
              refine seq_is (v := .bool (decide ((57) < (bt a0 (((j + 1 : Nat) : Int)))))) rfl (run_move rfl rfl) ?_
              (try simp only [Act.put, List.setIfInBounds_toArray, List.set_cons_zero, List.set_cons_succ])
              refine list_want rfl rfl (congrArg some (congrArg Value.bool hk20)) (wp_run (v := .int .i64 ((j + 1 : Nat) : Int)) (run_move rfl rfl) ?_)
              (try simp only [Act.put, List.setIfInBounds_toArray, List.set_cons_zero, List.set_cons_succ])
              refine list_want rfl rfl (congrArg some (congrArg Value.bool hk20)) (wp_run (v := .int .i64 (1)) (run_move rfl rfl) ?_)
              (try simp only [Act.put, List.setIfInBounds_toArray, List.set_cons_zero, List.set_cons_succ])
              refine list_want rfl rfl (congrArg some (congrArg Value.bool hk20)) (wp_run (v := .int .i64 (2)) (run_add' (w64 (by decide) (by decide)) rfl rfl rfl) ?_)
              (try simp only [Act.put, List.setIfInBounds_toArray, List.set_cons_zero, List.set_cons_succ])
              refine list_want rfl rfl (congrArg some (congrArg Value.bool hk20)) (wp_run (v := .bool (decide ((((j + 1 : Nat) : Int)) = (2)))) (run_eql rfl rfl rfl) ?_)
              (try simp only [Act.put, List.setIfInBounds_toArray, List.set_cons_zero, List.set_cons_succ])
              refine list_want rfl rfl (congrArg some (congrArg Value.bool hk20)) (wp_run (v := .bool (decide ((((j + 1 : Nat) : Int)) = (2)))) (run_move rfl rfl) ?_)
              (try simp only [Act.put, List.setIfInBounds_toArray, List.set_cons_zero, List.set_cons_succ])
              refine list_want rfl rfl (congrArg some (congrArg Value.bool hk21)) (wp_run (v := .string a0) (run_move rfl rfl) ?_)
              (try simp only [Act.put, List.setIfInBounds_toArray, List.set_cons_zero, List.set_cons_succ])
              refine list_want rfl rfl (congrArg some (congrArg Value.bool hk21)) (wp_run (v := .int .i64 (1)) (run_move rfl rfl) ?_)
              (try simp only [Act.put, List.setIfInBounds_toArray, List.set_cons_zero, List.set_cons_succ])
              refine list_want rfl rfl (congrArg some (congrArg Value.bool hk21)) (wp_run (v := .int .u8 (bt a0 (1))) (run_idxS (by omega) (by omega) rfl rfl rfl) ?_)
              (try simp only [Act.put, List.setIfInBounds_toArray, List.set_cons_zero, List.set_cons_succ])
              refine list_want rfl rfl (congrArg some (congrArg Value.bool hk21)) (wp_run (v := .bool (decide ((bt a0 (1)) = (48)))) (run_eqlY rfl rfl rfl) ?_)
              (try simp only [Act.put, List.setIfInBounds_toArray, List.set_cons_zero, List.set_cons_succ])
              refine list_want rfl rfl (congrArg some (congrArg Value.bool hk20)) (wp_run (v := .bool (decide ((bt a0 (1)) = (48)))) (run_pickT rfl ((show _ = Value.bool (decide ((((j + 1 : Nat) : Int)) = (2))) from rfl).trans (congrArg Value.bool hk21)) rfl) ?_)
              (try simp only [Act.put, List.setIfInBounds_toArray, List.set_cons_zero, List.set_cons_succ])
              refine seq_is (v := .bool (decide ((bt a0 (1)) = (48)))) rfl (run_pickF rfl ((show _ = Value.bool (decide ((57) < (bt a0 (((j + 1 : Nat) : Int))))) from rfl).trans (congrArg Value.bool hk20)) rfl) ?_
              (try simp only [Act.put, List.setIfInBounds_toArray, List.set_cons_zero, List.set_cons_succ])
              show Code.wp _ _ _ _ _
              refine wp_cond_split (t := decide ((bt a0 (1)) = (48))) rfl ?_ ?_
              · intro hc22
                have p_hc22 := of_decide_eq_true hc22
                refine wp_seq ?_
                refine wp_region_list ?_
                refine seq_is (v := .agg #[.bool (false), .slice none 0 0]) rfl (run_build0 rfl) ?_
                (try simp only [Act.put, List.setIfInBounds_toArray, List.set_cons_zero, List.set_cons_succ])
                refine seq_is (v := .int .i64 ((j + 1 : Nat) : Int)) rfl (run_move rfl rfl) ?_
                (try simp only [Act.put, List.setIfInBounds_toArray, List.set_cons_zero, List.set_cons_succ])
                refine seq_store Z 0 rfl rfl rfl rfl rfl ?_; clear Z; intro W Z
                (try simp only [Act.put, List.setIfInBounds_toArray, List.set_cons_zero, List.set_cons_succ])
                refine seq_is (v := .int .i64 ((j + 1 : Nat) : Int)) rfl (run_assign rfl rfl) ?_
                (try simp only [Act.put, List.setIfInBounds_toArray, List.set_cons_zero, List.set_cons_succ])
                refine seq_is (v := .int .i64 (4)) rfl (run_assign rfl rfl) ?_
                (try simp only [Act.put, List.setIfInBounds_toArray, List.set_cons_zero, List.set_cons_succ])
                show Code.wp _ _ _ _ _
                refine wp_ret ?_
                have hR := (readZ_err' (by omega) hA hz (rd_bad (by omega) hg (bad_no (by omega) p_hc22)))
                exact Z.nought.endsIii (u := .int .i64 ((j + 1 : Nat) : Int)) (u2 := .int .i64 (4)) 0 0 rfl rfl rfl rfl rfl rfl rfl (by rw [hR]; try rfl) (by rw [hR]; refine congrArg (Value.int .i64) ?_; dsimp only; omega) (by rw [hR]; try rfl)
              · intro hc22
                have p_hc22 := of_decide_eq_false hc22
                refine wp_skip ?_
                show Code.wp _ _ _ _ _
                refine wp_region_list ?_
                refine seq_is (v := .int .i64 ((j + 1 : Nat) : Int)) rfl (run_move rfl rfl) ?_
                (try simp only [Act.put, List.setIfInBounds_toArray, List.set_cons_zero, List.set_cons_succ])
                refine seq_is (v := .int .i64 (((j + 1 + 1 : Nat) : Int))) rfl (run_inc rfl rfl (by omega)) ?_
                (try simp only [Act.put, List.setIfInBounds_toArray, List.set_cons_zero, List.set_cons_succ])
                refine seq_is (v := .int .i64 (((j + 1 + 1 : Nat) : Int))) rfl (run_assign rfl rfl) ?_
                (try simp only [Act.put, List.setIfInBounds_toArray, List.set_cons_zero, List.set_cons_succ])
                exact ⟨j + 1, (show a0.size - (j + 1) < a0.size - j by omega), _, _, _, _, _, _, _, _, _, _, _, _, _, _, _, _, _, _, _, _, _, _, _, _, _, _, _, _, _, _, _, _, rfl, ((Z).retype (Has.nil _ _)), ⟨by omega, fun k h => by by_cases e : k = j; (rw [e]; exact (good_at p_hk19 p_hk20 (fun _ => p_hc22))); exact hg k (by omega)⟩⟩
            · have p_hk21 := of_decide_eq_false hk21
              refine wp_region_list ?_
              refine seq_is (v := .string a0) rfl (run_move rfl rfl) ?_
              (try simp only [Act.put, List.setIfInBounds_toArray, List.set_cons_zero, List.set_cons_succ])
              refine seq_is (v := .int .i64 ((j + 1 : Nat) : Int)) rfl (run_move rfl rfl) ?_
              (try simp only [Act.put, List.setIfInBounds_toArray, List.set_cons_zero, List.set_cons_succ])
              refine seq_is (v := .int .u8 (bt a0 (((j + 1 : Nat) : Int)))) rfl (run_idxS (by omega) (by omega) rfl rfl rfl) ?_
              (try simp only [Act.put, List.setIfInBounds_toArray, List.set_cons_zero, List.set_cons_succ])
              refine seq_is (v := .bool (decide ((bt a0 (((j + 1 : Nat) : Int))) < (48)))) rfl (run_lssY rfl rfl rfl) ?_
              (try simp only [Act.put, List.setIfInBounds_toArray, List.set_cons_zero, List.set_cons_succ])
              refine seq_is (v := .bool (decide ((bt a0 (((j + 1 : Nat) : Int))) < (48)))) rfl (run_move rfl rfl) ?_
              (try simp only [Act.put, List.setIfInBounds_toArray, List.set_cons_zero, List.set_cons_succ])
              refine list_want rfl rfl (congrArg some (congrArg Value.bool hk19)) (wp_run (v := .string a0) (run_move rfl rfl) ?_)
              (try simp only [Act.put, List.setIfInBounds_toArray, List.set_cons_zero, List.set_cons_succ])
              refine list_want rfl rfl (congrArg some (congrArg Value.bool hk19)) (wp_run (v := .int .i64 ((j + 1 : Nat) : Int)) (run_move rfl rfl) ?_)
              (try simp only [Act.put, List.setIfInBounds_toArray, List.set_cons_zero, List.set_cons_succ])
              refine list_want rfl rfl (congrArg some (congrArg Value.bool hk19)) (wp_run (v := .int .u8 (bt a0 (((j + 1 : Nat) : Int)))) (run_idxS (by omega) (by omega) rfl rfl rfl) ?_)
              (try simp only [Act.put, List.setIfInBounds_toArray, List.set_cons_zero, List.set_cons_succ])
              refine list_want rfl rfl (congrArg some (congrArg Value.bool hk19)) (wp_run (v := .bool (decide ((57) < (bt a0 (((j + 1 : Nat) : Int)))))) (run_gtrY rfl rfl rfl) ?_)
              (try simp only [Act.put, List.setIfInBounds_toArray, List.set_cons_zero, List.set_cons_succ])
              refine seq_is (v := .bool (decide ((57) < (bt a0 (((j + 1 : Nat) : Int)))))) rfl (run_pickF rfl ((show _ = Value.bool (decide ((bt a0 (((j + 1 : Nat) : Int))) < (48))) from rfl).trans (congrArg Value.bool hk19)) rfl) ?_
              (try simp only [Act.put, List.setIfInBounds_toArray, List.set_cons_zero, List.set_cons_succ])
              refine seq_is (v := .bool (decide ((57) < (bt a0 (((j + 1 : Nat) : Int)))))) rfl (run_move rfl rfl) ?_
              (try simp only [Act.put, List.setIfInBounds_toArray, List.set_cons_zero, List.set_cons_succ])
              refine list_want rfl rfl (congrArg some (congrArg Value.bool hk20)) (wp_run (v := .int .i64 ((j + 1 : Nat) : Int)) (run_move rfl rfl) ?_)
              (try simp only [Act.put, List.setIfInBounds_toArray, List.set_cons_zero, List.set_cons_succ])
              refine list_want rfl rfl (congrArg some (congrArg Value.bool hk20)) (wp_run (v := .int .i64 (1)) (run_move rfl rfl) ?_)
              (try simp only [Act.put, List.setIfInBounds_toArray, List.set_cons_zero, List.set_cons_succ])
              refine list_want rfl rfl (congrArg some (congrArg Value.bool hk20)) (wp_run (v := .int .i64 (2)) (run_add' (w64 (by decide) (by decide)) rfl rfl rfl) ?_)
              (try simp only [Act.put, List.setIfInBounds_toArray, List.set_cons_zero, List.set_cons_succ])
              refine list_want rfl rfl (congrArg some (congrArg Value.bool hk20)) (wp_run (v := .bool (decide ((((j + 1 : Nat) : Int)) = (2)))) (run_eql rfl rfl rfl) ?_)
              (try simp only [Act.put, List.setIfInBounds_toArray, List.set_cons_zero, List.set_cons_succ])
              refine list_want rfl rfl (congrArg some (congrArg Value.bool hk20)) (wp_run (v := .bool (decide ((((j + 1 : Nat) : Int)) = (2)))) (run_move rfl rfl) ?_)
              (try simp only [Act.put, List.setIfInBounds_toArray, List.set_cons_zero, List.set_cons_succ])
              refine list_unwant rfl rfl (congrArg some (congrArg Value.bool hk21)) (by decide) ?_
              (try simp only [Act.put, List.setIfInBounds_toArray, List.set_cons_zero, List.set_cons_succ])
              refine list_unwant rfl rfl (congrArg some (congrArg Value.bool hk21)) (by decide) ?_
              (try simp only [Act.put, List.setIfInBounds_toArray, List.set_cons_zero, List.set_cons_succ])
              refine list_unwant rfl rfl (congrArg some (congrArg Value.bool hk21)) (by decide) ?_
              (try simp only [Act.put, List.setIfInBounds_toArray, List.set_cons_zero, List.set_cons_succ])
              refine list_unwant rfl rfl (congrArg some (congrArg Value.bool hk21)) (by decide) ?_
              (try simp only [Act.put, List.setIfInBounds_toArray, List.set_cons_zero, List.set_cons_succ])
              refine list_want rfl rfl (congrArg some (congrArg Value.bool hk20)) (wp_run (v := .bool (ff)) (run_cast (run_pickF rfl ((show _ = Value.bool (decide ((((j + 1 : Nat) : Int)) = (2))) from rfl).trans (congrArg Value.bool hk21)) rfl) hff.symm) ?_)
              (try simp only [Act.put, List.setIfInBounds_toArray, List.set_cons_zero, List.set_cons_succ])
              refine seq_is (v := .bool (ff)) rfl (run_pickF rfl ((show _ = Value.bool (decide ((57) < (bt a0 (((j + 1 : Nat) : Int))))) from rfl).trans (congrArg Value.bool hk20)) rfl) ?_
              (try simp only [Act.put, List.setIfInBounds_toArray, List.set_cons_zero, List.set_cons_succ])
              show Code.wp _ _ _ _ _
              refine wp_cond_false ((show _ = Value.bool (ff) from rfl).trans (congrArg Value.bool hff)) ?_
              refine wp_skip ?_
              show Code.wp _ _ _ _ _
              refine wp_region_list ?_
              refine seq_is (v := .int .i64 ((j + 1 : Nat) : Int)) rfl (run_move rfl rfl) ?_
              (try simp only [Act.put, List.setIfInBounds_toArray, List.set_cons_zero, List.set_cons_succ])
              refine seq_is (v := .int .i64 (((j + 1 + 1 : Nat) : Int))) rfl (run_inc rfl rfl (by omega)) ?_
              (try simp only [Act.put, List.setIfInBounds_toArray, List.set_cons_zero, List.set_cons_succ])
              refine seq_is (v := .int .i64 (((j + 1 + 1 : Nat) : Int))) rfl (run_assign rfl rfl) ?_
              (try simp only [Act.put, List.setIfInBounds_toArray, List.set_cons_zero, List.set_cons_succ])
              exact ⟨j + 1, (show a0.size - (j + 1) < a0.size - j by omega), _, _, _, _, _, _, _, _, _, _, _, _, _, _, _, _, _, _, _, _, _, _, _, _, _, _, _, _, _, _, _, _, rfl, ((Z).retype (Has.nil _ _)), ⟨by omega, fun k h => by by_cases e : k = j; (rw [e]; exact (good_at p_hk19 p_hk20 (fun e => absurd e (by omega)))); exact hg k (by omega)⟩⟩
      · intro hc18
        have p_hc18 := of_decide_eq_false hc18
        refine wp_exit ?_
        show Code.wp _ _ _ _ _
        refine wp_seq ?_
        refine wp_seq ?_
        refine wp_region_list ?_
        refine seq_is (v := .int .i64 (1)) rfl (run_move rfl rfl) ?_
        (try simp only [Act.put, List.setIfInBounds_toArray, List.set_cons_zero, List.set_cons_succ])
        refine seq_is (v := .string a0) rfl (run_move rfl rfl) ?_
        (try simp only [Act.put, List.setIfInBounds_toArray, List.set_cons_zero, List.set_cons_succ])
        refine seq_is (v := .int .i64 (((a0.size : Nat) : Int))) rfl (run_lenS rfl rfl) ?_
        (try simp only [Act.put, List.setIfInBounds_toArray, List.set_cons_zero, List.set_cons_succ])
        refine seq_is (v := .bool (decide ((1) = (((a0.size : Nat) : Int))))) rfl (run_eql rfl rfl rfl) ?_
        (try simp only [Act.put, List.setIfInBounds_toArray, List.set_cons_zero, List.set_cons_succ])
        show Code.wp _ _ _ _ _
        refine wp_cond_split (t := decide ((1) = (((a0.size : Nat) : Int)))) rfl ?_ ?_
        · intro hc23
          have p_hc23 := of_decide_eq_true hc23
          refine wp_seq ?_
          refine wp_region_list ?_
          refine seq_is (v := .agg #[.bool (false), .slice none 0 0]) rfl (run_build0 rfl) ?_
          (try simp only [Act.put, List.setIfInBounds_toArray, List.set_cons_zero, List.set_cons_succ])
          refine seq_is (v := .int .i64 (1)) rfl (run_move rfl rfl) ?_
          (try simp only [Act.put, List.setIfInBounds_toArray, List.set_cons_zero, List.set_cons_succ])
          refine seq_store Z 0 rfl rfl rfl rfl rfl ?_; clear Z; intro W Z
          (try simp only [Act.put, List.setIfInBounds_toArray, List.set_cons_zero, List.set_cons_succ])
          refine seq_is (v := .int .i64 (1)) rfl (run_assign rfl rfl) ?_
          (try simp only [Act.put, List.setIfInBounds_toArray, List.set_cons_zero, List.set_cons_succ])
          refine seq_is (v := .int .i64 (4)) rfl (run_assign rfl rfl) ?_
          (try simp only [Act.put, List.setIfInBounds_toArray, List.set_cons_zero, List.set_cons_succ])
          show Code.wp _ _ _ _ _
          refine wp_ret ?_
          have hR := (readZ_err' (p := 0) (by omega) hA hz (rd_none (by omega)))
          exact Z.nought.endsIii (u := .int .i64 (1)) (u2 := .int .i64 (4)) 0 0 rfl rfl rfl rfl rfl rfl rfl (by rw [hR]; try rfl) (by rw [hR]; try rfl) (by rw [hR]; try rfl)
        · intro hc23
          have p_hc23 := of_decide_eq_false hc23
          refine wp_skip ?_
          show Code.wp _ _ _ _ _
          refine wp_seq ?_
          have hgA : ∀ k, k < (tlS a0 1).size → badAt (tlS a0 1) k = false := fun k h => hg k (by omega)
          refine wp_region_list ?_
          refine seq_is (v := .slice none 0 0) rfl (run_assign rfl rfl) ?_
          (try simp only [Act.put, List.setIfInBounds_toArray, List.set_cons_zero, List.set_cons_succ])
          show Code.wp _ _ _ _ _
          refine wp_seq ?_
          refine wp_seq ?_
          refine wp_region_list ?_
          refine seq_is (v := .int .i64 (1)) rfl (run_move rfl rfl) ?_
          (try simp only [Act.put, List.setIfInBounds_toArray, List.set_cons_zero, List.set_cons_succ])
          refine seq_is (v := .int .i64 (1)) rfl (run_assign rfl rfl) ?_
          (try simp only [Act.put, List.setIfInBounds_toArray, List.set_cons_zero, List.set_cons_succ])
          show Code.wp _ _ _ _ _
          refine wp_block ?_
          replace Z := Z.nought
          refine wp_loop_s (α := Nat × Sl) (fun (i, pm) a W => ∃ (j9_17 j10_17 j74_17 j75_17 j76_17 j77_17 j78_17 j79_17 j80_17 j81_17 j82_17 j83_17 j84_17 j85_17 j86_17 j87_17 j88_17 j89_17 j90_17 j91_17 j92_17 j93_17 j94_17 j95_17 j96_17 j97_17 j98_17 j99_17 j100_17 j101_17 j102_17 j103_17 j104_17 : Value), a = { tmps := #[.string a0, undef, .pointer (some ⟨g1, 0, none⟩), j3_9, j4_9, .int .i64 (1), .int .i64 ((j + 1 : Nat) : Int), pm.v, .int .i64 ((i + 1 : Nat) : Int), j9_17, j10_17, .string a0, .int .i64 (((a0.size : Nat) : Int)), .bool (decide ((65536) < (((a0.size : Nat) : Int)))), undef, .string a0, .int .i64 (((a0.size : Nat) : Int)), .bool (decide ((0) < (((a0.size : Nat) : Int)))), .bool (decide ((0) < (((a0.size : Nat) : Int)))), .string a0, .int .u8 (bt a0 (0)), .bool (decide ((bt a0 (0)) = (45))), .bool (decide ((bt a0 (0)) = (45))), .int .i64 (1), .bool (decide ((1 : Int) = (1))), .bool (decide ((1 : Int) = (1))), .string a0, .int .i64 (((a0.size : Nat) : Int)), .bool (decide ((1) < (((a0.size : Nat) : Int)))), .bool (decide ((1) < (((a0.size : Nat) : Int)))), .bool (decide ((1) < (((a0.size : Nat) : Int)))), undef, undef, undef, .bool (ff), undef, .int .i64 (1), .int .i64 ((j + 1 : Nat) : Int), .string a0, .int .i64 (((a0.size : Nat) : Int)), .bool (decide ((((j + 1 : Nat) : Int)) < (((a0.size : Nat) : Int)))), j41_9, j42_9, j43_9, j44_9, j45_9, j46_9, j47_9, j48_9, j49_9, j50_9, j51_9, j52_9, j53_9, j54_9, j55_9, j56_9, j57_9, j58_9, j59_9, j60_9, j61_9, j62_9, j63_9, j64_9, j65_9, j66_9, .int .i64 (1), .string a0, .int .i64 (((a0.size : Nat) : Int)), .bool (decide ((1) = (((a0.size : Nat) : Int)))), undef, undef, .int .i64 (1), j74_17, j75_17, j76_17, j77_17, j78_17, j79_17, j80_17, j81_17, j82_17, j83_17, j84_17, j85_17, j86_17, j87_17, j88_17, j89_17, j90_17, j91_17, j92_17, j93_17, j94_17, j95_17, j96_17, j97_17, j98_17, j99_17, j100_17, j101_17, j102_17, j103_17, j104_17, undef, undef, undef, undef], defers := [] } ∧ Zt w W [(pm.v, tyO w (lm (numv (tlS a0 1) i)))] [(g1, 24, #[.bool (false), .slice none 0 0])] ∧ (i ≤ (tlS a0 1).size)) (fun (i, pm) => a0.size - i) (0, ⟨none, 0, 0⟩) ⟨_, _, _, _, _, _, _, _, _, _, _, _, _, _, _, _, _, _, _, _, _, _, _, _, _, _, _, _, _, _, _, _, _, rfl, (Z.retype (has_cons (Z.has 0 rfl) (Has.nil _ _))), Nat.zero_le _⟩ ?_
          clear Z; rintro ⟨i, pm⟩ a W ⟨j9_17, j10_17, j74_17, j75_17, j76_17, j77_17, j78_17, j79_17, j80_17, j81_17, j82_17, j83_17, j84_17, j85_17, j86_17, j87_17, j88_17, j89_17, j90_17, j91_17, j92_17, j93_17, j94_17, j95_17, j96_17, j97_17, j98_17, j99_17, j100_17, j101_17, j102_17, j103_17, j104_17, rfl, Z, hI⟩
          obtain ⟨hi0, hi2⟩ := numv_rng hgA i hI
          have hi1 := fm_ten hi0 hi2 (by omega)
          have hI0 := hI
          refine wp_seq ?_
          refine wp_seq ?_
          refine wp_region_list ?_
          refine seq_is (v := .int .i64 ((i + 1 : Nat) : Int)) rfl (run_move rfl rfl) ?_
          (try simp only [Act.put, List.setIfInBounds_toArray, List.set_cons_zero, List.set_cons_succ])
          refine seq_is (v := .string a0) rfl (run_move rfl rfl) ?_
          (try simp only [Act.put, List.setIfInBounds_toArray, List.set_cons_zero, List.set_cons_succ])
          refine seq_is (v := .int .i64 (((a0.size : Nat) : Int))) rfl (run_lenS rfl rfl) ?_
          (try simp only [Act.put, List.setIfInBounds_toArray, List.set_cons_zero, List.set_cons_succ])
          refine seq_is (v := .bool (decide ((((i + 1 : Nat) : Int)) < (((a0.size : Nat) : Int))))) rfl (run_lss rfl rfl rfl) ?_
          (try simp only [Act.put, List.setIfInBounds_toArray, List.set_cons_zero, List.set_cons_succ])
          show Code.wp _ _ _ _ _
          refine wp_cond_split (t := decide ((((i + 1 : Nat) : Int)) < (((a0.size : Nat) : Int)))) rfl ?_ ?_
          · intro hc24
            have p_hc24 := of_decide_eq_true hc24
            refine wp_skip ?_
            show Code.wp _ _ _ _ _
            refine wp_block ?_
            refine wp_seq ?_
            have hch := chunk_rng (s := a0) (k := 1) (i := i) (by omega)
            refine wp_region_list ?_
            refine seq_is (v := .string a0) rfl (run_move rfl rfl) ?_
            (try simp only [Act.put, List.setIfInBounds_toArray, List.set_cons_zero, List.set_cons_succ])
            refine seq_is (v := .int .i64 (((a0.size : Nat) : Int))) rfl (run_lenS rfl rfl) ?_
            (try simp only [Act.put, List.setIfInBounds_toArray, List.set_cons_zero, List.set_cons_succ])
            refine seq_is (v := .int .i64 ((i + 1 : Nat) : Int)) rfl (run_move rfl rfl) ?_
            (try simp only [Act.put, List.setIfInBounds_toArray, List.set_cons_zero, List.set_cons_succ])
            refine seq_is (v := .int .i64 (((a0.size : Nat) : Int) - ((i + 1 : Nat) : Int))) rfl (run_sub' (w64 (by omega) (by omega)) rfl rfl rfl) ?_
            (try simp only [Act.put, List.setIfInBounds_toArray, List.set_cons_zero, List.set_cons_succ])
            refine seq_is (v := .int .i64 ((chunk a0 1 i : Nat) : Int)) rfl (run_min (chunk_min (by omega) (by omega)) rfl rfl rfl) ?_
            (try simp only [Act.put, List.setIfInBounds_toArray, List.set_cons_zero, List.set_cons_succ])
            refine seq_is (v := .int .i64 ((chunk a0 1 i : Nat) : Int)) rfl (run_assign rfl rfl) ?_
            (try simp only [Act.put, List.setIfInBounds_toArray, List.set_cons_zero, List.set_cons_succ])
            show Code.wp _ _ _ _ _
            refine wp_seq ?_
            refine wp_region_list ?_
            refine seq_is (v := .int .u32 (0)) rfl (run_assign rfl rfl) ?_
            (try simp only [Act.put, List.setIfInBounds_toArray, List.set_cons_zero, List.set_cons_succ])
            show Code.wp _ _ _ _ _
            refine wp_seq ?_
            refine wp_seq ?_
            refine wp_region_list ?_
            refine seq_is (v := .int .i64 ((chunk a0 1 i : Nat) : Int)) rfl (run_move rfl rfl) ?_
            (try simp only [Act.put, List.setIfInBounds_toArray, List.set_cons_zero, List.set_cons_succ])
            refine seq_is (v := .int .i64 (0)) rfl (run_move rfl rfl) ?_
            (try simp only [Act.put, List.setIfInBounds_toArray, List.set_cons_zero, List.set_cons_succ])
            show Code.wp _ _ _ _ _
            refine wp_block ?_
            refine wp_loop_s (α := Nat × Int) (fun (c, v) a W => ∃ (j85_21 j86_21 j87_21 j88_21 j89_21 j90_21 j91_21 j92_21 j93_21 j94_21 j95_21 j96_21 : Value), a = { tmps := #[.string a0, undef, .pointer (some ⟨g1, 0, none⟩), j3_9, j4_9, .int .i64 (1), .int .i64 ((j + 1 : Nat) : Int), pm.v, .int .i64 ((i + c + 1 : Nat) : Int), .int .i64 ((chunk a0 1 i : Nat) : Int), .int .u32 (v), .string a0, .int .i64 (((a0.size : Nat) : Int)), .bool (decide ((65536) < (((a0.size : Nat) : Int)))), undef, .string a0, .int .i64 (((a0.size : Nat) : Int)), .bool (decide ((0) < (((a0.size : Nat) : Int)))), .bool (decide ((0) < (((a0.size : Nat) : Int)))), .string a0, .int .u8 (bt a0 (0)), .bool (decide ((bt a0 (0)) = (45))), .bool (decide ((bt a0 (0)) = (45))), .int .i64 (1), .bool (decide ((1 : Int) = (1))), .bool (decide ((1 : Int) = (1))), .string a0, .int .i64 (((a0.size : Nat) : Int)), .bool (decide ((1) < (((a0.size : Nat) : Int)))), .bool (decide ((1) < (((a0.size : Nat) : Int)))), .bool (decide ((1) < (((a0.size : Nat) : Int)))), undef, undef, undef, .bool (ff), undef, .int .i64 (1), .int .i64 ((j + 1 : Nat) : Int), .string a0, .int .i64 (((a0.size : Nat) : Int)), .bool (decide ((((j + 1 : Nat) : Int)) < (((a0.size : Nat) : Int)))), j41_9, j42_9, j43_9, j44_9, j45_9, j46_9, j47_9, j48_9, j49_9, j50_9, j51_9, j52_9, j53_9, j54_9, j55_9, j56_9, j57_9, j58_9, j59_9, j60_9, j61_9, j62_9, j63_9, j64_9, j65_9, j66_9, .int .i64 (1), .string a0, .int .i64 (((a0.size : Nat) : Int)), .bool (decide ((1) = (((a0.size : Nat) : Int)))), undef, undef, .int .i64 (1), .int .i64 ((i + 1 : Nat) : Int), .string a0, .int .i64 (((a0.size : Nat) : Int)), .bool (decide ((((i + 1 : Nat) : Int)) < (((a0.size : Nat) : Int)))), .string a0, .int .i64 (((a0.size : Nat) : Int)), .int .i64 ((i + 1 : Nat) : Int), .int .i64 (((a0.size : Nat) : Int) - ((i + 1 : Nat) : Int)), .int .i64 ((chunk a0 1 i : Nat) : Int), .int .i64 ((chunk a0 1 i : Nat) : Int), .int .i64 ((c : Nat) : Int), j85_21, j86_21, j87_21, j88_21, j89_21, j90_21, j91_21, j92_21, j93_21, j94_21, j95_21, j96_21, j97_17, j98_17, j99_17, j100_17, j101_17, j102_17, j103_17, j104_17, undef, undef, undef, undef], defers := [] } ∧ Zt w W [(pm.v, tyO w (lm (numv (tlS a0 1) i)))] [(g1, 24, #[.bool (false), .slice none 0 0])] ∧ (RC (tlS a0 1) i c v ∧ c ≤ chunk a0 1 i)) (fun (c, v) => chunk a0 1 i - c) (0, 0) ⟨_, _, _, _, _, _, _, _, _, _, _, _, rfl, (Z.retype (has_cons (Z.has 0 rfl) (Has.nil _ _))), ⟨RC.start hI, Nat.zero_le _⟩⟩ ?_
            clear Z; rintro ⟨c, v⟩ a W ⟨j85_21, j86_21, j87_21, j88_21, j89_21, j90_21, j91_21, j92_21, j93_21, j94_21, j95_21, j96_21, rfl, Z, hI⟩
            obtain ⟨hI, hc⟩ := hI
            have hbr := bt_range a0 (((i + c + 1 : Nat) : Int))
            have hv0 := hI.v0
            have hle := hI.le
            refine wp_seq ?_
            refine wp_region_list ?_
            refine seq_is (v := .bool (decide ((((c : Nat) : Int)) < (((chunk a0 1 i : Nat) : Int))))) rfl (run_lss rfl rfl rfl) ?_
            (try simp only [Act.put, List.setIfInBounds_toArray, List.set_cons_zero, List.set_cons_succ])
            show Code.wp _ _ _ _ _
            refine wp_seq ?_
            refine wp_cond_split (t := decide ((((c : Nat) : Int)) < (((chunk a0 1 i : Nat) : Int)))) rfl ?_ ?_
            · intro hc25
              have p_hc25 := of_decide_eq_true hc25
              refine wp_skip ?_
              show Code.wp _ _ _ _ _
              refine wp_seq ?_
              refine wp_block ?_
              refine wp_seq ?_
              have hdg : 48 ≤ bt a0 (((i + c + 1 : Nat) : Int)) ∧ bt a0 (((i + c + 1 : Nat) : Int)) ≤ 57 := dig_at (k := 1) (hgA (i + c) (by omega))
              have hv8 := hI.small (by omega)
              refine wp_region_list ?_
              refine seq_is (v := .int .u32 (v)) rfl (run_move rfl rfl) ?_
              (try simp only [Act.put, List.setIfInBounds_toArray, List.set_cons_zero, List.set_cons_succ])
              refine seq_is (v := .int .u32 (10 * v)) rfl (run_mul4 (w32 (by omega) (by omega)) rfl rfl rfl) ?_
              (try simp only [Act.put, List.setIfInBounds_toArray, List.set_cons_zero, List.set_cons_succ])
              refine seq_is (v := .string a0) rfl (run_move rfl rfl) ?_
              (try simp only [Act.put, List.setIfInBounds_toArray, List.set_cons_zero, List.set_cons_succ])
              refine seq_is (v := .int .i64 ((i + c + 1 : Nat) : Int)) rfl (run_move rfl rfl) ?_
              (try simp only [Act.put, List.setIfInBounds_toArray, List.set_cons_zero, List.set_cons_succ])
              refine seq_is (v := .int .u8 (bt a0 (((i + c + 1 : Nat) : Int)))) rfl (run_idxS (by omega) (by omega) rfl rfl rfl) ?_
              (try simp only [Act.put, List.setIfInBounds_toArray, List.set_cons_zero, List.set_cons_succ])
              refine seq_is (v := .int .u8 (bt a0 (((i + c + 1 : Nat) : Int)) - 48)) rfl (run_subY (w8 (by omega) (by omega)) rfl rfl rfl) ?_
              (try simp only [Act.put, List.setIfInBounds_toArray, List.set_cons_zero, List.set_cons_succ])
              refine seq_is (v := .int .u32 (bt a0 (((i + c + 1 : Nat) : Int)) - 48)) rfl (run_convY (w32 (by omega) (by omega)) rfl rfl) ?_
              (try simp only [Act.put, List.setIfInBounds_toArray, List.set_cons_zero, List.set_cons_succ])
              refine seq_is (v := .int .u32 (10 * v + (bt a0 (((i + c + 1 : Nat) : Int)) - 48))) rfl (run_add4 (w32 (by omega) (by omega)) rfl rfl rfl) ?_
              (try simp only [Act.put, List.setIfInBounds_toArray, List.set_cons_zero, List.set_cons_succ])
              refine seq_is (v := .int .u32 (10 * v + (bt a0 (((i + c + 1 : Nat) : Int)) - 48))) rfl (run_assign rfl rfl) ?_
              (try simp only [Act.put, List.setIfInBounds_toArray, List.set_cons_zero, List.set_cons_succ])
              show Code.wp _ _ _ _ _
              refine wp_region_list ?_
              refine seq_is (v := .int .i64 ((i + c + 1 : Nat) : Int)) rfl (run_move rfl rfl) ?_
              (try simp only [Act.put, List.setIfInBounds_toArray, List.set_cons_zero, List.set_cons_succ])
              refine seq_is (v := .int .i64 (((i + c + 1 + 1 : Nat) : Int))) rfl (run_inc rfl rfl (by omega)) ?_
              (try simp only [Act.put, List.setIfInBounds_toArray, List.set_cons_zero, List.set_cons_succ])
              refine seq_is (v := .int .i64 (((i + c + 1 + 1 : Nat) : Int))) rfl (run_assign rfl rfl) ?_
              (try simp only [Act.put, List.setIfInBounds_toArray, List.set_cons_zero, List.set_cons_succ])
              show Code.wp _ _ _ _ _
              refine wp_region_list ?_
              refine seq_is (v := .int .i64 (((c + 1 : Nat) : Int))) rfl (run_inc rfl rfl (by omega)) ?_
              (try simp only [Act.put, List.setIfInBounds_toArray, List.set_cons_zero, List.set_cons_succ])
              refine seq_is (v := .int .i64 (((c + 1 : Nat) : Int))) rfl (run_move rfl rfl) ?_
              (try simp only [Act.put, List.setIfInBounds_toArray, List.set_cons_zero, List.set_cons_succ])
              exact ⟨(c + 1, 10 * v + (bt a0 ((i + c + 1 : Nat) : Int) - 48)), (show chunk a0 1 i - (c + 1) < chunk a0 1 i - c by omega), _, _, _, _, _, _, _, _, _, _, _, _, rfl, ((Z).retype (has_cons (Z.has 0 rfl) (Has.nil _ _))), ⟨(bt_tl (s := a0) (k := 1) (i := i + c)) ▸ hI.step (by omega) (by omega) (hgA _ (by omega)), by omega⟩⟩
            · intro hc25
              have p_hc25 := of_decide_eq_false hc25
              refine wp_exit ?_
              show Code.wp _ _ _ _ _
              have hcn : chunk a0 1 i = c := by omega
              have hc9 := ten9 hI.nine
              have hv9 := hI.v1
              have hcf := RC.fms hi0 hi2 hI (by omega)
              refine wp_region_list ?_
              refine seq_is (v := pm.v) rfl (run_move rfl rfl) ?_
              (try simp only [Act.put, List.setIfInBounds_toArray, List.set_cons_zero, List.set_cons_succ])
              refine seq_is (v := .int .i64 ((chunk a0 1 i : Nat) : Int)) rfl (run_move rfl rfl) ?_
              (try simp only [Act.put, List.setIfInBounds_toArray, List.set_cons_zero, List.set_cons_succ])
              refine seq_call Z rfl rfl Try.func111 rfl rfl (args1 rfl) (Z.callV (zint_nines.at (by omega) hcn hI.nine)) ?_; clear Z; intro x26 W Z
              (try simp only [Act.put, List.setIfInBounds_toArray, List.set_cons_zero, List.set_cons_succ])
              refine seq_one Z rfl rfl rfl rfl ?_; clear Z; intro x27 W Z
              (try simp only [Act.put, List.setIfInBounds_toArray, List.set_cons_zero, List.set_cons_succ])
              refine seq_call Z rfl rfl Try.func91 rfl rfl (args2 rfl rfl) (Z.callM (nat_Mul.sem (Z.ownM 1 rfl hi0 hi1) (Z.magL 0 rfl (ok_one (ten9 hI.nine).1 (ten9 hI.nine).2).1 (by simp) (ok_one (ten9 hI.nine).1 (ten9 hI.nine).2).2))) ?_; clear Z; intro x28 W Z
              (try simp only [Act.put, List.setIfInBounds_toArray, List.set_cons_zero, List.set_cons_succ])
              refine seq_is (v := .int .u32 (v)) rfl (run_move rfl rfl) ?_
              (try simp only [Act.put, List.setIfInBounds_toArray, List.set_cons_zero, List.set_cons_succ])
              refine seq_one Z rfl rfl rfl rfl ?_; clear Z; intro x29 W Z
              (try simp only [Act.put, List.setIfInBounds_toArray, List.set_cons_zero, List.set_cons_succ])
              refine seq_call Z rfl rfl Try.func92 rfl rfl (args2 rfl rfl) (Z.callM (nat_Add.sem (Z.ownM 1 rfl hcf.1 hcf.2.1) (Z.magL 0 rfl (ok_one hI.v0 (by have := hI.v1; have := (ten9 hI.nine).2; omega)).1 (by simp) (ok_one hI.v0 (by have := hI.v1; have := (ten9 hI.nine).2; omega)).2))) ?_; clear Z; intro x30 W Z
              (try simp only [Act.put, List.setIfInBounds_toArray, List.set_cons_zero, List.set_cons_succ])
              refine seq_is (v := x30.v) rfl (run_assign rfl rfl) ?_
              (try simp only [Act.put, List.setIfInBounds_toArray, List.set_cons_zero, List.set_cons_succ])
              rw [← hI.num] at Z
              exact ⟨(i + c, x30), (show a0.size - (i + c) < a0.size - i by omega), _, _, _, _, _, _, _, _, _, _, _, _, _, _, _, _, _, _, _, _, _, _, _, _, _, _, _, _, _, _, _, _, _, rfl, ((Z).retype (has_cons (Z.has 0 rfl) (Has.nil _ _))), hI.le⟩
          · intro hc24
            have p_hc24 := of_decide_eq_false hc24
            refine wp_exit ?_
            show Code.wp _ _ _ _ _
            refine wp_seq ?_
            have hie : i = (tlS a0 1).size := by omega
            refine wp_region_list ?_
            refine seq_is (v := .int .i64 (1)) rfl (run_move rfl rfl) ?_
            (try simp only [Act.put, List.setIfInBounds_toArray, List.set_cons_zero, List.set_cons_succ])
            refine seq_is (v := .bool (decide ((1 : Int) = (1)))) rfl (run_eql rfl rfl rfl) ?_
            (try simp only [Act.put, List.setIfInBounds_toArray, List.set_cons_zero, List.set_cons_succ])
            refine seq_is (v := pm.v) rfl (run_move rfl rfl) ?_
            (try simp only [Act.put, List.setIfInBounds_toArray, List.set_cons_zero, List.set_cons_succ])
            refine seq_call Z rfl rfl Try.func76 rfl rfl (args2 rfl rfl) (Z.callI (zint_made.res (Z.ownM 0 rfl hi0 hi1))) ?_; clear Z; intro x31 W Z
            (try simp only [Act.put, List.setIfInBounds_toArray, List.set_cons_zero, List.set_cons_succ])
            refine seq_store Z 0 rfl rfl rfl rfl rfl ?_; clear Z; intro W Z
            (try simp only [Act.put, List.setIfInBounds_toArray, List.set_cons_zero, List.set_cons_succ])
            refine seq_is (v := .int .i64 (0)) rfl (run_assign rfl rfl) ?_
            (try simp only [Act.put, List.setIfInBounds_toArray, List.set_cons_zero, List.set_cons_succ])
            refine seq_is (v := .int .i64 (0)) rfl (run_assign rfl rfl) ?_
            (try simp only [Act.put, List.setIfInBounds_toArray, List.set_cons_zero, List.set_cons_succ])
            show Code.wp _ _ _ _ _
            refine wp_ret ?_
            have hR := (readZ_ok' (by omega) hA hz (rd_good (by omega) hgA) hie)
            exact Z.endsIii (u := .int .i64 (0)) (u2 := .int .i64 (0)) 0 0 rfl rfl rfl rfl rfl rfl rfl (by rw [hR]; try rfl) (by rw [hR]; try rfl) (by rw [hR]; try rfl)
end Go.Proofs.Ytndopanohhdfgaa.PA


/- The walk of Read. -/
namespace Go.Proofs.Ytndopanohhdfgaa.PA
open Go Go.Proofs.Ytndopanohhdfgaa.Nums Go.RowKit Go.Proofs.YtndopanohhdfgaaW.PrintWords Go.Proofs.YtndopanohhdfgaaW.PrintLast Go.Proofs.YtndopanohhdfgaaW.PrintMore
set_option linter.unusedVariables false
set_option linter.unusedSimpArgs false
set_option maxHeartbeats 16000000 in
set_option maxRecDepth 100000 in
theorem zint_Read.semE {w : World} {a0 : ByteArray} (hs : a0.size ≤ 4611686018427387903) (hq : a0.size = 0) : Calls Try.prog 99 #[.string a0] w (ResIii w (readZ a0).1 (.int .i64 (readZ a0).2.1) (.int .i64 (readZ a0).2.2)) := by
  have p_hq1 : ¬ (0 : Int) < ((a0.size : Nat) : Int) := by omega
  have hq1 : decide ((0 : Int) < ((a0.size : Nat) : Int)) = false := decide_eq_false p_hq1
  obtain ⟨tt, htt⟩ : ∃ b : Bool, b = true := ⟨true, rfl⟩
  obtain ⟨ff, hff⟩ : ∃ b : Bool, b = false := ⟨false, rfl⟩
  have Z := Zt.start w (Has.nil w w)
  go_enter Try.func99, Try.ntmps99
  refine wp_seq ?_
  refine wp_region_list ?_
  refine seq_alloc Z rfl rfl ?_; clear Z; intro g1 W Z
  (try simp only [Act.put, List.setIfInBounds_toArray, List.set_cons_zero, List.set_cons_succ])
  refine seq_is (v := .int .i64 (0)) rfl (run_assign rfl rfl) ?_
  (try simp only [Act.put, List.setIfInBounds_toArray, List.set_cons_zero, List.set_cons_succ])
  refine seq_is (v := .int .i64 (0)) rfl (run_assign rfl rfl) ?_
  (try simp only [Act.put, List.setIfInBounds_toArray, List.set_cons_zero, List.set_cons_succ])
  show Code.wp _ _ _ _ _
  refine wp_seq ?_
  refine wp_seq ?_
  refine wp_region_list ?_
  refine seq_is (v := .string a0) rfl (run_move rfl rfl) ?_
  (try simp only [Act.put, List.setIfInBounds_toArray, List.set_cons_zero, List.set_cons_succ])
  refine seq_is (v := .int .i64 (((a0.size : Nat) : Int))) rfl (run_lenS rfl rfl) ?_
  (try simp only [Act.put, List.setIfInBounds_toArray, List.set_cons_zero, List.set_cons_succ])
  refine seq_is (v := .bool (decide ((65536) < (((a0.size : Nat) : Int))))) rfl (run_gtr rfl rfl rfl) ?_
  (try simp only [Act.put, List.setIfInBounds_toArray, List.set_cons_zero, List.set_cons_succ])
  show Code.wp _ _ _ _ _
  refine wp_cond_split (t := decide ((65536) < (((a0.size : Nat) : Int)))) rfl ?_ ?_
  · intro hc2
    have p_hc2 := of_decide_eq_true hc2
    refine wp_seq ?_
    refine wp_region_list ?_
    refine seq_is (v := .agg #[.bool (false), .slice none 0 0]) rfl (run_build0 rfl) ?_
    (try simp only [Act.put, List.setIfInBounds_toArray, List.set_cons_zero, List.set_cons_succ])
    refine seq_store Z 0 rfl rfl rfl rfl rfl ?_; clear Z; intro W Z
    (try simp only [Act.put, List.setIfInBounds_toArray, List.set_cons_zero, List.set_cons_succ])
    refine seq_is (v := .int .i64 (0)) rfl (run_assign rfl rfl) ?_
    (try simp only [Act.put, List.setIfInBounds_toArray, List.set_cons_zero, List.set_cons_succ])
    refine seq_is (v := .int .i64 (2)) rfl (run_assign rfl rfl) ?_
    (try simp only [Act.put, List.setIfInBounds_toArray, List.set_cons_zero, List.set_cons_succ])
    show Code.wp _ _ _ _ _
    refine wp_ret ?_
    have hR := readZ_long (s := a0) (by omega)
    exact Z.nought.endsIii (u := .int .i64 (0)) (u2 := .int .i64 (2)) 0 0 rfl rfl rfl rfl rfl rfl rfl (by rw [hR]; try rfl) (by rw [hR]; try rfl) (by rw [hR]; try rfl)
  · intro hc2
    have p_hc2 := of_decide_eq_false hc2
    refine wp_skip ?_
    show Code.wp _ _ _ _ _
    refine wp_seq ?_
    refine wp_region_list ?_
    refine seq_is (v := .int .i64 (0)) rfl (run_assign rfl rfl) ?_
    (try simp only [Act.put, List.setIfInBounds_toArray, List.set_cons_zero, List.set_cons_succ])
    show Code.wp _ _ _ _ _
    refine wp_seq ?_
    refine wp_seq ?_
    refine wp_region_list ?_
    refine seq_is (v := .string a0) rfl (run_move rfl rfl) ?_
    (try simp only [Act.put, List.setIfInBounds_toArray, List.set_cons_zero, List.set_cons_succ])
    refine seq_is (v := .int .i64 (((a0.size : Nat) : Int))) rfl (run_lenS rfl rfl) ?_
    (try simp only [Act.put, List.setIfInBounds_toArray, List.set_cons_zero, List.set_cons_succ])
    refine seq_is (v := .bool (decide ((0) < (((a0.size : Nat) : Int))))) rfl (run_gtr rfl rfl rfl) ?_
    (try simp only [Act.put, List.setIfInBounds_toArray, List.set_cons_zero, List.set_cons_succ])
    refine seq_is (v := .bool (decide ((0) < (((a0.size : Nat) : Int))))) rfl (run_move rfl rfl) ?_
    (try simp only [Act.put, List.setIfInBounds_toArray, List.set_cons_zero, List.set_cons_succ])
    refine list_unwant rfl rfl (congrArg some (congrArg Value.bool hq1)) (by decide) ?_
    (try simp only [Act.put, List.setIfInBounds_toArray, List.set_cons_zero, List.set_cons_succ])
    refine list_unwant rfl rfl (congrArg some (congrArg Value.bool hq1)) (by decide) ?_
    (try simp only [Act.put, List.setIfInBounds_toArray, List.set_cons_zero, List.set_cons_succ])
    refine list_unwant rfl rfl (congrArg some (congrArg Value.bool hq1)) (by decide) ?_
    (try simp only [Act.put, List.setIfInBounds_toArray, List.set_cons_zero, List.set_cons_succ])
    refine seq_is (v := .bool (ff)) rfl (run_cast (run_pickF rfl ((show _ = Value.bool (decide ((0) < (((a0.size : Nat) : Int)))) from rfl).trans (congrArg Value.bool hq1)) rfl) hff.symm) ?_
    (try simp only [Act.put, List.setIfInBounds_toArray, List.set_cons_zero, List.set_cons_succ])
    show Code.wp _ _ _ _ _
    refine wp_cond_false ((show _ = Value.bool (ff) from rfl).trans (congrArg Value.bool hff)) ?_
    refine wp_skip ?_
    show Code.wp _ _ _ _ _
    refine wp_seq ?_
    refine wp_seq ?_
    have hA : rdAt a0 = 0 := rdAt_no (by omega)
    have hT := tlS_size (s := a0) (k := 0)
    refine wp_region_list ?_
    refine seq_is (v := .int .i64 (0)) rfl (run_move rfl rfl) ?_
    (try simp only [Act.put, List.setIfInBounds_toArray, List.set_cons_zero, List.set_cons_succ])
    refine seq_is (v := .bool (decide ((0 : Int) = (1)))) rfl (run_eql rfl rfl rfl) ?_
    (try simp only [Act.put, List.setIfInBounds_toArray, List.set_cons_zero, List.set_cons_succ])
    refine seq_is (v := .bool (decide ((0 : Int) = (1)))) rfl (run_move rfl rfl) ?_
    (try simp only [Act.put, List.setIfInBounds_toArray, List.set_cons_zero, List.set_cons_succ])
    refine list_unwant rfl rfl (congrArg some (congrArg Value.bool (Eq.refl false))) (by decide) ?_
    (try simp only [Act.put, List.setIfInBounds_toArray, List.set_cons_zero, List.set_cons_succ])
    refine list_unwant rfl rfl (congrArg some (congrArg Value.bool (Eq.refl false))) (by decide) ?_
    (try simp only [Act.put, List.setIfInBounds_toArray, List.set_cons_zero, List.set_cons_succ])
    refine list_unwant rfl rfl (congrArg some (congrArg Value.bool (Eq.refl false))) (by decide) ?_
    (try simp only [Act.put, List.setIfInBounds_toArray, List.set_cons_zero, List.set_cons_succ])
    refine seq_is (v := .bool (ff)) rfl (run_cast (run_pickF rfl rfl rfl) hff.symm) ?_
    (try simp only [Act.put, List.setIfInBounds_toArray, List.set_cons_zero, List.set_cons_succ])
    refine seq_is (v := .bool (ff)) rfl (run_move rfl rfl) ?_
    (try simp only [Act.put, List.setIfInBounds_toArray, List.set_cons_zero, List.set_cons_succ])
    refine list_unwant rfl rfl (congrArg some (congrArg Value.bool hff)) (by decide) ?_
    (try simp only [Act.put, List.setIfInBounds_toArray, List.set_cons_zero, List.set_cons_succ])
    refine list_unwant rfl rfl (congrArg some (congrArg Value.bool hff)) (by decide) ?_
    (try simp only [Act.put, List.setIfInBounds_toArray, List.set_cons_zero, List.set_cons_succ])
    refine list_unwant rfl rfl (congrArg some (congrArg Value.bool hff)) (by decide) ?_
    (try simp only [Act.put, List.setIfInBounds_toArray, List.set_cons_zero, List.set_cons_succ])
    refine seq_is (v := .bool (ff)) rfl (run_cast (run_pickF rfl ((show _ = Value.bool (ff) from rfl).trans (congrArg Value.bool hff)) rfl) hff.symm) ?_
    (try simp only [Act.put, List.setIfInBounds_toArray, List.set_cons_zero, List.set_cons_succ])
    show Code.wp _ _ _ _ _
    refine wp_cond_false ((show _ = Value.bool (ff) from rfl).trans (congrArg Value.bool hff)) ?_
    refine wp_skip ?_
    show Code.wp _ _ _ _ _
    refine wp_seq ?_
    refine wp_seq ?_
    have hz : ¬ (0 = 1 ∧ 1 < a0.size ∧ bt a0 1 = 48) := by omega
    refine wp_region_list ?_
    refine seq_is (v := .int .i64 (0)) rfl (run_move rfl rfl) ?_
    (try simp only [Act.put, List.setIfInBounds_toArray, List.set_cons_zero, List.set_cons_succ])
    refine seq_is (v := .int .i64 (0)) rfl (run_assign rfl rfl) ?_
    (try simp only [Act.put, List.setIfInBounds_toArray, List.set_cons_zero, List.set_cons_succ])
    show Code.wp _ _ _ _ _
    refine wp_block ?_
    refine wp_loop_s (α := Nat) (fun j a W => ∃ (j3_9 j4_9 j37_9 j38_9 j39_9 j40_9 j41_9 j42_9 j43_9 j44_9 j45_9 j46_9 j47_9 j48_9 j49_9 j50_9 j51_9 j52_9 j53_9 j54_9 j55_9 j56_9 j57_9 j58_9 j59_9 j60_9 j61_9 j62_9 j63_9 j64_9 j65_9 j66_9 : Value), a = { tmps := #[.string a0, undef, .pointer (some ⟨g1, 0, none⟩), j3_9, j4_9, .int .i64 (0), .int .i64 ((j : Nat) : Int), undef, undef, undef, undef, .string a0, .int .i64 (((a0.size : Nat) : Int)), .bool (decide ((65536) < (((a0.size : Nat) : Int)))), undef, .string a0, .int .i64 (((a0.size : Nat) : Int)), .bool (decide ((0) < (((a0.size : Nat) : Int)))), .bool (decide ((0) < (((a0.size : Nat) : Int)))), undef, undef, undef, .bool (ff), .int .i64 (0), .bool (decide ((0 : Int) = (1))), .bool (decide ((0 : Int) = (1))), undef, undef, undef, .bool (ff), .bool (ff), undef, undef, undef, .bool (ff), undef, .int .i64 (0), j37_9, j38_9, j39_9, j40_9, j41_9, j42_9, j43_9, j44_9, j45_9, j46_9, j47_9, j48_9, j49_9, j50_9, j51_9, j52_9, j53_9, j54_9, j55_9, j56_9, j57_9, j58_9, j59_9, j60_9, j61_9, j62_9, j63_9, j64_9, j65_9, j66_9, undef, undef, undef, undef, undef, undef, undef, undef, undef, undef, undef, undef, undef, undef, undef, undef, undef, undef, undef, undef, undef, undef, undef, undef, undef, undef, undef, undef, undef, undef, undef, undef, undef, undef, undef, undef, undef, undef, undef, undef, undef, undef], defers := [] } ∧ Zt w W [] [(g1, 24, #[.bool (false), .slice none 0 0])] ∧ (j ≤ (tlS a0 0).size ∧ ∀ k, k < j → badAt (tlS a0 0) k = false)) (fun j => a0.size - j) 0 ⟨_, _, _, _, _, _, _, _, _, _, _, _, _, _, _, _, _, _, _, _, _, _, _, _, _, _, _, _, _, _, _, _, rfl, (Z.retype (Has.nil _ _)), ⟨Nat.zero_le _, fun k h => by omega⟩⟩ ?_
    clear Z; rintro j a W ⟨j3_9, j4_9, j37_9, j38_9, j39_9, j40_9, j41_9, j42_9, j43_9, j44_9, j45_9, j46_9, j47_9, j48_9, j49_9, j50_9, j51_9, j52_9, j53_9, j54_9, j55_9, j56_9, j57_9, j58_9, j59_9, j60_9, j61_9, j62_9, j63_9, j64_9, j65_9, j66_9, rfl, Z, hI⟩
    obtain ⟨hj, hg⟩ := hI
    have hbr := bt_range a0 (((j : Nat) : Int))
    refine wp_seq ?_
    refine wp_seq ?_
    refine wp_region_list ?_
    refine seq_is (v := .int .i64 ((j : Nat) : Int)) rfl (run_move rfl rfl) ?_
    (try simp only [Act.put, List.setIfInBounds_toArray, List.set_cons_zero, List.set_cons_succ])
    refine seq_is (v := .string a0) rfl (run_move rfl rfl) ?_
    (try simp only [Act.put, List.setIfInBounds_toArray, List.set_cons_zero, List.set_cons_succ])
    refine seq_is (v := .int .i64 (((a0.size : Nat) : Int))) rfl (run_lenS rfl rfl) ?_
    (try simp only [Act.put, List.setIfInBounds_toArray, List.set_cons_zero, List.set_cons_succ])
    refine seq_is (v := .bool (decide ((((j : Nat) : Int)) < (((a0.size : Nat) : Int))))) rfl (run_lss rfl rfl rfl) ?_
    (try simp only [Act.put, List.setIfInBounds_toArray, List.set_cons_zero, List.set_cons_succ])
    show Code.wp _ _ _ _ _
    refine wp_cond_false ((show _ = Value.bool (decide ((((j : Nat) : Int)) < (((a0.size : Nat) : Int)))) from rfl).trans (congrArg Value.bool (decide_eq_false (by omega)))) ?_
    refine wp_exit ?_
    show Code.wp _ _ _ _ _
    refine wp_seq ?_
    refine wp_seq ?_
    refine wp_region_list ?_
    refine seq_is (v := .int .i64 (0)) rfl (run_move rfl rfl) ?_
    (try simp only [Act.put, List.setIfInBounds_toArray, List.set_cons_zero, List.set_cons_succ])
    refine seq_is (v := .string a0) rfl (run_move rfl rfl) ?_
    (try simp only [Act.put, List.setIfInBounds_toArray, List.set_cons_zero, List.set_cons_succ])
    refine seq_is (v := .int .i64 (((a0.size : Nat) : Int))) rfl (run_lenS rfl rfl) ?_
    (try simp only [Act.put, List.setIfInBounds_toArray, List.set_cons_zero, List.set_cons_succ])
    refine seq_is (v := .bool (decide ((0) = (((a0.size : Nat) : Int))))) rfl (run_eql rfl rfl rfl) ?_
    (try simp only [Act.put, List.setIfInBounds_toArray, List.set_cons_zero, List.set_cons_succ])
    show Code.wp _ _ _ _ _
    refine wp_cond_true ((show _ = Value.bool (decide ((0) = (((a0.size : Nat) : Int)))) from rfl).trans (congrArg Value.bool (decide_eq_true (by omega)))) ?_
    refine wp_seq ?_
    refine wp_region_list ?_
    refine seq_is (v := .agg #[.bool (false), .slice none 0 0]) rfl (run_build0 rfl) ?_
    (try simp only [Act.put, List.setIfInBounds_toArray, List.set_cons_zero, List.set_cons_succ])
    refine seq_is (v := .int .i64 (0)) rfl (run_move rfl rfl) ?_
    (try simp only [Act.put, List.setIfInBounds_toArray, List.set_cons_zero, List.set_cons_succ])
    refine seq_store Z 0 rfl rfl rfl rfl rfl ?_; clear Z; intro W Z
    (try simp only [Act.put, List.setIfInBounds_toArray, List.set_cons_zero, List.set_cons_succ])
    refine seq_is (v := .int .i64 (0)) rfl (run_assign rfl rfl) ?_
    (try simp only [Act.put, List.setIfInBounds_toArray, List.set_cons_zero, List.set_cons_succ])
    refine seq_is (v := .int .i64 (4)) rfl (run_assign rfl rfl) ?_
    (try simp only [Act.put, List.setIfInBounds_toArray, List.set_cons_zero, List.set_cons_succ])
    show Code.wp _ _ _ _ _
    refine wp_ret ?_
    have hR := (readZ_err' (p := 0) (by omega) hA hz (rd_none (by omega)))
    exact Z.nought.endsIii (u := .int .i64 (0)) (u2 := .int .i64 (4)) 0 0 rfl rfl rfl rfl rfl rfl rfl (by rw [hR]; try rfl) (by rw [hR]; try rfl) (by rw [hR]; try rfl)
theorem zint_Read.sem {w : World} {a0 : ByteArray} (hs : a0.size ≤ 4611686018427387903) : Calls Try.prog 99 #[.string a0] w (ResIii w (readZ a0).1 (.int .i64 (readZ a0).2.1) (.int .i64 (readZ a0).2.2)) := by
  by_cases h0 : a0.size = 0
  · exact zint_Read.semE hs h0
  · by_cases h1 : bt a0 0 = 45
    · exact zint_Read.sem1 hs (by omega) h1
    · exact zint_Read.sem0 hs (by omega) h1
end Go.Proofs.Ytndopanohhdfgaa.PA

