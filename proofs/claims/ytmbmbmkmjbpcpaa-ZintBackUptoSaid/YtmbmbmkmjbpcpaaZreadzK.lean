/- The walk of Read. -/
import Derived.Outline
import Derived.Test.YtmbmbmkmjbpcpaaZreadmK
import Derived.Test.YtmbmbmkmjbpcpaaZreadsK
import Derived.Test.YtmbmbmkmjbpcpaaPAx0K
namespace Go.Proofs.Ytmbmbmkmjbpcpaa.PA
open Go Go.Proofs.Ytmbmbmkmjbpcpaa.Nums Go.RowKit Go.Proofs.YtmbmbmkmjbpcpaaW.PrintWords Go.Proofs.YtmbmbmkmjbpcpaaW.PrintLast Go.Proofs.YtmbmbmkmjbpcpaaW.PrintMore
set_option linter.unusedVariables false
set_option linter.unusedSimpArgs false
set_option maxHeartbeats 16000000 in
set_option maxRecDepth 100000 in
theorem zint_Read.semE {w : World} {a0 : ByteArray} (hs : a0.size ≤ 4611686018427387903) (hq : a0.size = 0) : Calls Try.prog 42 #[.string a0] w (ResIii w (readZ a0).1 (.int .i64 (readZ a0).2.1) (.int .i64 (readZ a0).2.2)) := by
  have p_hq1 : ¬ (0 : Int) < ((a0.size : Nat) : Int) := by omega
  have hq1 : decide ((0 : Int) < ((a0.size : Nat) : Int)) = false := decide_eq_false p_hq1
  obtain ⟨tt, htt⟩ : ∃ b : Bool, b = true := ⟨true, rfl⟩
  obtain ⟨ff, hff⟩ : ∃ b : Bool, b = false := ⟨false, rfl⟩
  have Z := Zt.start w (Has.nil w w)
  go_enter Try.func42, Try.ntmps42
  refine wp_seq ?_
  refine wp_region_list ?_
  refine seq_alloc Z rfl rfl ?_; clear Z; intro g1 W Z
  (try simp only [Act.put, List.setIfInBounds_toArray, List.set_cons_zero, List.set_cons_succ])
  refine seq_is (v := .int .i64 (0)) rfl (run_assign rfl rfl) ?_
  (try simp only [Act.put, List.setIfInBounds_toArray, List.set_cons_zero, List.set_cons_succ])
  refine seq_is (v := .int .i64 (0)) rfl (run_assign rfl rfl) ?_
  (try simp only [Act.put, List.setIfInBounds_toArray, List.set_cons_zero, List.set_cons_succ])
  show Code.wp _ _ _ _ _
  refine wp_seq ?_
  refine wp_seq ?_
  refine wp_region_list ?_
  refine seq_is (v := .string a0) rfl (run_move rfl rfl) ?_
  (try simp only [Act.put, List.setIfInBounds_toArray, List.set_cons_zero, List.set_cons_succ])
  refine seq_is (v := .int .i64 (((a0.size : Nat) : Int))) rfl (run_lenS rfl rfl) ?_
  (try simp only [Act.put, List.setIfInBounds_toArray, List.set_cons_zero, List.set_cons_succ])
  refine seq_is (v := .bool (decide ((65536) < (((a0.size : Nat) : Int))))) rfl (run_gtr rfl rfl rfl) ?_
  (try simp only [Act.put, List.setIfInBounds_toArray, List.set_cons_zero, List.set_cons_succ])
  show Code.wp _ _ _ _ _
  refine wp_cond_split (t := decide ((65536) < (((a0.size : Nat) : Int)))) rfl ?_ ?_
  · intro hc2
    have p_hc2 := of_decide_eq_true hc2
    refine wp_seq ?_
    refine wp_region_list ?_
    refine seq_is (v := .agg #[.bool (false), .slice none 0 0]) rfl (run_build0 rfl) ?_
    (try simp only [Act.put, List.setIfInBounds_toArray, List.set_cons_zero, List.set_cons_succ])
    refine seq_store Z 0 rfl rfl rfl rfl rfl ?_; clear Z; intro W Z
    (try simp only [Act.put, List.setIfInBounds_toArray, List.set_cons_zero, List.set_cons_succ])
    refine seq_is (v := .int .i64 (0)) rfl (run_assign rfl rfl) ?_
    (try simp only [Act.put, List.setIfInBounds_toArray, List.set_cons_zero, List.set_cons_succ])
    refine seq_is (v := .int .i64 (2)) rfl (run_assign rfl rfl) ?_
    (try simp only [Act.put, List.setIfInBounds_toArray, List.set_cons_zero, List.set_cons_succ])
    show Code.wp _ _ _ _ _
    refine wp_ret ?_
    have hR := readZ_long (s := a0) (by omega)
    exact Z.nought.endsIii (u := .int .i64 (0)) (u2 := .int .i64 (2)) 0 0 rfl rfl rfl rfl rfl rfl rfl (by rw [hR]; try rfl) (by rw [hR]; try rfl) (by rw [hR]; try rfl)
  · intro hc2
    have p_hc2 := of_decide_eq_false hc2
    refine wp_skip ?_
    show Code.wp _ _ _ _ _
    refine wp_seq ?_
    refine wp_region_list ?_
    refine seq_is (v := .int .i64 (0)) rfl (run_assign rfl rfl) ?_
    (try simp only [Act.put, List.setIfInBounds_toArray, List.set_cons_zero, List.set_cons_succ])
    show Code.wp _ _ _ _ _
    refine wp_seq ?_
    refine wp_seq ?_
    refine wp_region_list ?_
    refine seq_is (v := .string a0) rfl (run_move rfl rfl) ?_
    (try simp only [Act.put, List.setIfInBounds_toArray, List.set_cons_zero, List.set_cons_succ])
    refine seq_is (v := .int .i64 (((a0.size : Nat) : Int))) rfl (run_lenS rfl rfl) ?_
    (try simp only [Act.put, List.setIfInBounds_toArray, List.set_cons_zero, List.set_cons_succ])
    refine seq_is (v := .bool (decide ((0) < (((a0.size : Nat) : Int))))) rfl (run_gtr rfl rfl rfl) ?_
    (try simp only [Act.put, List.setIfInBounds_toArray, List.set_cons_zero, List.set_cons_succ])
    refine seq_is (v := .bool (decide ((0) < (((a0.size : Nat) : Int))))) rfl (run_move rfl rfl) ?_
    (try simp only [Act.put, List.setIfInBounds_toArray, List.set_cons_zero, List.set_cons_succ])
    refine list_unwant rfl rfl (congrArg some (congrArg Value.bool hq1)) (by decide) ?_
    (try simp only [Act.put, List.setIfInBounds_toArray, List.set_cons_zero, List.set_cons_succ])
    refine list_unwant rfl rfl (congrArg some (congrArg Value.bool hq1)) (by decide) ?_
    (try simp only [Act.put, List.setIfInBounds_toArray, List.set_cons_zero, List.set_cons_succ])
    refine list_unwant rfl rfl (congrArg some (congrArg Value.bool hq1)) (by decide) ?_
    (try simp only [Act.put, List.setIfInBounds_toArray, List.set_cons_zero, List.set_cons_succ])
    refine seq_is (v := .bool (ff)) rfl (run_cast (run_pickF rfl ((show _ = Value.bool (decide ((0) < (((a0.size : Nat) : Int)))) from rfl).trans (congrArg Value.bool hq1)) rfl) hff.symm) ?_
    (try simp only [Act.put, List.setIfInBounds_toArray, List.set_cons_zero, List.set_cons_succ])
    show Code.wp _ _ _ _ _
    refine wp_cond_false ((show _ = Value.bool (ff) from rfl).trans (congrArg Value.bool hff)) ?_
    refine wp_skip ?_
    show Code.wp _ _ _ _ _
    refine wp_seq ?_
    refine wp_seq ?_
    have hA : rdAt a0 = 0 := rdAt_no (by omega)
    have hT := tlS_size (s := a0) (k := 0)
    refine wp_region_list ?_
    refine seq_is (v := .int .i64 (0)) rfl (run_move rfl rfl) ?_
    (try simp only [Act.put, List.setIfInBounds_toArray, List.set_cons_zero, List.set_cons_succ])
    refine seq_is (v := .bool (decide ((0 : Int) = (1)))) rfl (run_eql rfl rfl rfl) ?_
    (try simp only [Act.put, List.setIfInBounds_toArray, List.set_cons_zero, List.set_cons_succ])
    refine seq_is (v := .bool (decide ((0 : Int) = (1)))) rfl (run_move rfl rfl) ?_
    (try simp only [Act.put, List.setIfInBounds_toArray, List.set_cons_zero, List.set_cons_succ])
    refine list_unwant rfl rfl (congrArg some (congrArg Value.bool (Eq.refl false))) (by decide) ?_
    (try simp only [Act.put, List.setIfInBounds_toArray, List.set_cons_zero, List.set_cons_succ])
    refine list_unwant rfl rfl (congrArg some (congrArg Value.bool (Eq.refl false))) (by decide) ?_
    (try simp only [Act.put, List.setIfInBounds_toArray, List.set_cons_zero, List.set_cons_succ])
    refine list_unwant rfl rfl (congrArg some (congrArg Value.bool (Eq.refl false))) (by decide) ?_
    (try simp only [Act.put, List.setIfInBounds_toArray, List.set_cons_zero, List.set_cons_succ])
    refine seq_is (v := .bool (ff)) rfl (run_cast (run_pickF rfl rfl rfl) hff.symm) ?_
    (try simp only [Act.put, List.setIfInBounds_toArray, List.set_cons_zero, List.set_cons_succ])
    refine seq_is (v := .bool (ff)) rfl (run_move rfl rfl) ?_
    (try simp only [Act.put, List.setIfInBounds_toArray, List.set_cons_zero, List.set_cons_succ])
    refine list_unwant rfl rfl (congrArg some (congrArg Value.bool hff)) (by decide) ?_
    (try simp only [Act.put, List.setIfInBounds_toArray, List.set_cons_zero, List.set_cons_succ])
    refine list_unwant rfl rfl (congrArg some (congrArg Value.bool hff)) (by decide) ?_
    (try simp only [Act.put, List.setIfInBounds_toArray, List.set_cons_zero, List.set_cons_succ])
    refine list_unwant rfl rfl (congrArg some (congrArg Value.bool hff)) (by decide) ?_
    (try simp only [Act.put, List.setIfInBounds_toArray, List.set_cons_zero, List.set_cons_succ])
    refine seq_is (v := .bool (ff)) rfl (run_cast (run_pickF rfl ((show _ = Value.bool (ff) from rfl).trans (congrArg Value.bool hff)) rfl) hff.symm) ?_
    (try simp only [Act.put, List.setIfInBounds_toArray, List.set_cons_zero, List.set_cons_succ])
    show Code.wp _ _ _ _ _
    refine wp_cond_false ((show _ = Value.bool (ff) from rfl).trans (congrArg Value.bool hff)) ?_
    refine wp_skip ?_
    show Code.wp _ _ _ _ _
    refine wp_seq ?_
    refine wp_seq ?_
    have hz : ¬ (0 = 1 ∧ 1 < a0.size ∧ bt a0 1 = 48) := by omega
    refine wp_region_list ?_
    refine seq_is (v := .int .i64 (0)) rfl (run_move rfl rfl) ?_
    (try simp only [Act.put, List.setIfInBounds_toArray, List.set_cons_zero, List.set_cons_succ])
    refine seq_is (v := .int .i64 (0)) rfl (run_assign rfl rfl) ?_
    (try simp only [Act.put, List.setIfInBounds_toArray, List.set_cons_zero, List.set_cons_succ])
    show Code.wp _ _ _ _ _
    refine wp_block ?_
    refine wp_loop_s (α := Nat) (fun j a W => ∃ (j3_9 j4_9 j37_9 j38_9 j39_9 j40_9 j41_9 j42_9 j43_9 j44_9 j45_9 j46_9 j47_9 j48_9 j49_9 j50_9 j51_9 j52_9 j53_9 j54_9 j55_9 j56_9 j57_9 j58_9 j59_9 j60_9 j61_9 j62_9 j63_9 j64_9 j65_9 j66_9 : Value), a = { tmps := #[.string a0, undef, .pointer (some ⟨g1, 0, none⟩), j3_9, j4_9, .int .i64 (0), .int .i64 ((j : Nat) : Int), undef, undef, undef, undef, .string a0, .int .i64 (((a0.size : Nat) : Int)), .bool (decide ((65536) < (((a0.size : Nat) : Int)))), undef, .string a0, .int .i64 (((a0.size : Nat) : Int)), .bool (decide ((0) < (((a0.size : Nat) : Int)))), .bool (decide ((0) < (((a0.size : Nat) : Int)))), undef, undef, undef, .bool (ff), .int .i64 (0), .bool (decide ((0 : Int) = (1))), .bool (decide ((0 : Int) = (1))), undef, undef, undef, .bool (ff), .bool (ff), undef, undef, undef, .bool (ff), undef, .int .i64 (0), j37_9, j38_9, j39_9, j40_9, j41_9, j42_9, j43_9, j44_9, j45_9, j46_9, j47_9, j48_9, j49_9, j50_9, j51_9, j52_9, j53_9, j54_9, j55_9, j56_9, j57_9, j58_9, j59_9, j60_9, j61_9, j62_9, j63_9, j64_9, j65_9, j66_9, undef, undef, undef, undef, undef, undef, undef, undef, undef, undef, undef, undef, undef, undef, undef, undef, undef, undef, undef, undef, undef, undef, undef, undef, undef, undef, undef, undef, undef, undef, undef, undef, undef, undef, undef, undef, undef, undef, undef, undef, undef, undef], defers := [] } ∧ Zt w W [] [(g1, 25, #[.bool (false), .slice none 0 0])] ∧ (j ≤ (tlS a0 0).size ∧ ∀ k, k < j → badAt (tlS a0 0) k = false)) (fun j => a0.size - j) 0 ⟨_, _, _, _, _, _, _, _, _, _, _, _, _, _, _, _, _, _, _, _, _, _, _, _, _, _, _, _, _, _, _, _, rfl, (Z.retype (Has.nil _ _)), ⟨Nat.zero_le _, fun k h => by omega⟩⟩ ?_
    clear Z; rintro j a W ⟨j3_9, j4_9, j37_9, j38_9, j39_9, j40_9, j41_9, j42_9, j43_9, j44_9, j45_9, j46_9, j47_9, j48_9, j49_9, j50_9, j51_9, j52_9, j53_9, j54_9, j55_9, j56_9, j57_9, j58_9, j59_9, j60_9, j61_9, j62_9, j63_9, j64_9, j65_9, j66_9, rfl, Z, hI⟩
    obtain ⟨hj, hg⟩ := hI
    have hbr := bt_range a0 (((j : Nat) : Int))
    refine wp_seq ?_
    refine wp_seq ?_
    refine wp_region_list ?_
    refine seq_is (v := .int .i64 ((j : Nat) : Int)) rfl (run_move rfl rfl) ?_
    (try simp only [Act.put, List.setIfInBounds_toArray, List.set_cons_zero, List.set_cons_succ])
    refine seq_is (v := .string a0) rfl (run_move rfl rfl) ?_
    (try simp only [Act.put, List.setIfInBounds_toArray, List.set_cons_zero, List.set_cons_succ])
    refine seq_is (v := .int .i64 (((a0.size : Nat) : Int))) rfl (run_lenS rfl rfl) ?_
    (try simp only [Act.put, List.setIfInBounds_toArray, List.set_cons_zero, List.set_cons_succ])
    refine seq_is (v := .bool (decide ((((j : Nat) : Int)) < (((a0.size : Nat) : Int))))) rfl (run_lss rfl rfl rfl) ?_
    (try simp only [Act.put, List.setIfInBounds_toArray, List.set_cons_zero, List.set_cons_succ])
    show Code.wp _ _ _ _ _
    refine wp_cond_false ((show _ = Value.bool (decide ((((j : Nat) : Int)) < (((a0.size : Nat) : Int)))) from rfl).trans (congrArg Value.bool (decide_eq_false (by omega)))) ?_
    refine wp_exit ?_
    show Code.wp _ _ _ _ _
    refine wp_seq ?_
    refine wp_seq ?_
    refine wp_region_list ?_
    refine seq_is (v := .int .i64 (0)) rfl (run_move rfl rfl) ?_
    (try simp only [Act.put, List.setIfInBounds_toArray, List.set_cons_zero, List.set_cons_succ])
    refine seq_is (v := .string a0) rfl (run_move rfl rfl) ?_
    (try simp only [Act.put, List.setIfInBounds_toArray, List.set_cons_zero, List.set_cons_succ])
    refine seq_is (v := .int .i64 (((a0.size : Nat) : Int))) rfl (run_lenS rfl rfl) ?_
    (try simp only [Act.put, List.setIfInBounds_toArray, List.set_cons_zero, List.set_cons_succ])
    refine seq_is (v := .bool (decide ((0) = (((a0.size : Nat) : Int))))) rfl (run_eql rfl rfl rfl) ?_
    (try simp only [Act.put, List.setIfInBounds_toArray, List.set_cons_zero, List.set_cons_succ])
    show Code.wp _ _ _ _ _
    refine wp_cond_true ((show _ = Value.bool (decide ((0) = (((a0.size : Nat) : Int)))) from rfl).trans (congrArg Value.bool (decide_eq_true (by omega)))) ?_
    refine wp_seq ?_
    refine wp_region_list ?_
    refine seq_is (v := .agg #[.bool (false), .slice none 0 0]) rfl (run_build0 rfl) ?_
    (try simp only [Act.put, List.setIfInBounds_toArray, List.set_cons_zero, List.set_cons_succ])
    refine seq_is (v := .int .i64 (0)) rfl (run_move rfl rfl) ?_
    (try simp only [Act.put, List.setIfInBounds_toArray, List.set_cons_zero, List.set_cons_succ])
    refine seq_store Z 0 rfl rfl rfl rfl rfl ?_; clear Z; intro W Z
    (try simp only [Act.put, List.setIfInBounds_toArray, List.set_cons_zero, List.set_cons_succ])
    refine seq_is (v := .int .i64 (0)) rfl (run_assign rfl rfl) ?_
    (try simp only [Act.put, List.setIfInBounds_toArray, List.set_cons_zero, List.set_cons_succ])
    refine seq_is (v := .int .i64 (4)) rfl (run_assign rfl rfl) ?_
    (try simp only [Act.put, List.setIfInBounds_toArray, List.set_cons_zero, List.set_cons_succ])
    show Code.wp _ _ _ _ _
    refine wp_ret ?_
    have hR := (readZ_err' (p := 0) (by omega) hA hz (rd_none (by omega)))
    exact Z.nought.endsIii (u := .int .i64 (0)) (u2 := .int .i64 (4)) 0 0 rfl rfl rfl rfl rfl rfl rfl (by rw [hR]; try rfl) (by rw [hR]; try rfl) (by rw [hR]; try rfl)
theorem zint_Read.sem {w : World} {a0 : ByteArray} (hs : a0.size ≤ 4611686018427387903) : Calls Try.prog 42 #[.string a0] w (ResIii w (readZ a0).1 (.int .i64 (readZ a0).2.1) (.int .i64 (readZ a0).2.2)) := by
  by_cases h0 : a0.size = 0
  · exact zint_Read.semE hs h0
  · by_cases h1 : bt a0 0 = 45
    · exact zint_Read.sem1 hs (by omega) h1
    · exact zint_Read.sem0 hs (by omega) h1
end Go.Proofs.Ytmbmbmkmjbpcpaa.PA

