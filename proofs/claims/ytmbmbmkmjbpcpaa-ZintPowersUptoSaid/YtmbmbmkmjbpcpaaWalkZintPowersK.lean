/- The walk of the law ZintPowers: what its code answers for arguments of a bulk of at most 1048576. -/
import Derived.Outline
import Derived.Test.YtmbmbmkmjbpcpaaZIK
import Derived.Test.YtmbmbmkmjbpcpaaPAx0K
namespace Go.Proofs.Ytmbmbmkmjbpcpaa.PA
open Go Go.Proofs.Ytmbmbmkmjbpcpaa.Nums Go.RowKit Go.Proofs.YtmbmbmkmjbpcpaaW.PrintWords Go.Proofs.YtmbmbmkmjbpcpaaW.PrintLast Go.Proofs.YtmbmbmkmjbpcpaaW.PrintMore
set_option linter.unusedVariables false
set_option linter.unusedSimpArgs false
theorem run_cast {P : Program} {a : Act} {o : Oper} {W : World} {b b' : Bool} (h : (execOp a.eval o).run P W = .ok (.value (.bool b)) W) (e : b = b') : (execOp a.eval o).run P W = .ok (.value (.bool b')) W := e ▸ h
theorem lit_rng {n : Int} (h : (Lit.int .i64 n).wf = true) : -9223372036854775808 ≤ n ∧ n ≤ 9223372036854775807 := by
  simp only [Lit.wf, Bool.and_eq_true, decide_eq_true_eq] at h
  exact h
theorem Bd.pow {z n : Int} : Bd 65537 (powZ z n) := by
  have h0 : Bd 65537 0 := (Bd.lit (k := 1) (z := 0) (by decide)).mono (by omega)
  unfold powZ
  split
  · exact h0
  · split
    · exact h0
    · rename_i h1 h2
      by_cases hz : z = 0
      · subst hz
        by_cases hn : n.toNat = 0
        · rw [hn, Int.pow_zero]
          exact (Bd.lit (k := 1) (z := 1) (by decide)).mono (by omega)
        · rw [show n.toNat = (n.toNat - 1) + 1 by omega, Int.pow_succ, Int.mul_zero]
          exact h0
      · exact pow_bd hz (by simpa using h2) (by omega)
theorem Bd.shift {k : Nat} {z n : Int} (h : Bd k z) : Bd (k + 65537) (shiftZ z n) := by
  unfold shiftZ
  split
  · exact (Bd.lit (k := 1) (z := 0) (by decide)).mono (by omega)
  · split
    · exact h.mul (Bd.two (by omega))
    · exact (fdiv_bd h).mono (by omega)
theorem zint_Power.sem {w : World} {b1 : Bool} {v1 : Value} {z1 n : Int} (m1 : NumV w b1 v1 z1) (hb1 : Bd 100000000 z1) (hn : n ≤ 9223372036854775807) : Calls Try.prog 61 #[.agg #[.bool b1, v1], .int .i64 n] w (ResIi w (powZ z1 n) (.int .i64 (powE z1 n))) := by
  by_cases h0 : z1 = 0
  · exact zint_Power.sem0 m1 hb1 hn h0
  · exact zint_Power.semN m1 hb1 hn h0
theorem trammelref02_Power.sem {w : World} {b1 : Bool} {v1 : Value} {z1 n : Int} (m1 : NumV w b1 v1 z1) (hb1 : Bd 100000000 z1) (hn : n ≤ 9223372036854775807) : Calls Try.prog 62 #[.agg #[.bool b1, v1], .int .i64 n] w (ResIi w (powZ z1 n) (.int .i64 (powE z1 n))) := by
  by_cases h0 : z1 = 0
  · exact trammelref02_Power.sem0 m1 hb1 hn h0
  · exact trammelref02_Power.semN m1 hb1 hn h0
set_option maxHeartbeats 8000000 in
set_option maxRecDepth 100000 in
theorem trammellaw02_ZintPowers.walk (b0 : Bool) (a0 : Option Addr) (len0 cap0 : Nat) (q0 : List Int) (a1 : Int) (w : World) (w0 : bulks.IsRow .u32 w a0 len0 cap0 q0) (y0 : len0 ≤ 1048576) (w1 : (Lit.int .i64 a1).wf = true) : Calls Try.prog 11 #[.agg #[.bool b0, .slice a0 len0 cap0], .int .i64 a1] w (RetV w (.bool true)) := by
  obtain ⟨l0, r0, o0, hl0⟩ := row_rd w0 y0
  obtain ⟨x0, N0, F0, hx0⟩ := arg_num (b := b0) o0 hl0
  have Z := Zt.start w r0.has
  have h1 := lit_rng w1
  go_enter Try.func11, Try.ntmps11
  refine wp_seq ?_
  refine wp_region_list ?_
  refine seq_box Z rfl rfl rfl ?_; clear Z; intro g1 W Z
  (try simp only [Act.put, List.setIfInBounds_toArray, List.set_cons_zero, List.set_cons_succ])
  refine seq_is (v := .bool (false)) rfl (run_assign rfl rfl) ?_
  (try simp only [Act.put, List.setIfInBounds_toArray, List.set_cons_zero, List.set_cons_succ])
  show Code.wp _ _ _ _ _
  refine wp_seq ?_
  refine wp_region_list ?_
  refine seq_is (v := .agg #[.bool (b0), .slice a0 len0 cap0]) rfl (run_load2 rfl rfl (Z.bx 0 rfl)) ?_
  (try simp only [Act.put, List.setIfInBounds_toArray, List.set_cons_zero, List.set_cons_succ])
  refine seq_call Z rfl rfl Try.func15 rfl rfl (args1 rfl) (Z.callR (trammellaw02_own.res (Z.rd 0 rfl) hl0)) ?_; clear Z; intro x2 W Z
  (try simp only [Act.put, List.setIfInBounds_toArray, List.set_cons_zero, List.set_cons_succ])
  refine seq_is (v := .int .i64 a1) rfl (run_move rfl rfl) ?_
  (try simp only [Act.put, List.setIfInBounds_toArray, List.set_cons_zero, List.set_cons_succ])
  refine seq_call Z rfl rfl Try.func61 rfl rfl (args2 rfl rfl) (Z.callIi (zint_Power.sem (N0 _ _ (Z.rdO 0 rfl)) (Bd.mono F0 (by decide)) h1.2)) ?_; clear Z; intro x3 W Z
  (try simp only [Act.put, List.setIfInBounds_toArray, List.set_cons_zero, List.set_cons_succ])
  refine seq_is (v := .tuple #[.agg #[.bool (decide (powZ (x0) (a1) < 0)), x3.v], .int .i64 (powE (x0) (a1))]) rfl (run_move rfl rfl) ?_
  (try simp only [Act.put, List.setIfInBounds_toArray, List.set_cons_zero, List.set_cons_succ])
  refine seq_is (v := .agg #[.bool (decide (powZ (x0) (a1) < 0)), x3.v]) rfl (run_extract rfl rfl rfl) ?_
  (try simp only [Act.put, List.setIfInBounds_toArray, List.set_cons_zero, List.set_cons_succ])
  refine seq_is (v := .int .i64 (powE (x0) (a1))) rfl (run_extract rfl rfl rfl) ?_
  (try simp only [Act.put, List.setIfInBounds_toArray, List.set_cons_zero, List.set_cons_succ])
  refine seq_alloc Z rfl rfl ?_; clear Z; intro g4 W Z
  (try simp only [Act.put, List.setIfInBounds_toArray, List.set_cons_zero, List.set_cons_succ])
  refine seq_store Z 0 rfl rfl rfl rfl rfl ?_; clear Z; intro W Z
  (try simp only [Act.put, List.setIfInBounds_toArray, List.set_cons_zero, List.set_cons_succ])
  refine seq_is (v := .int .i64 (powE (x0) (a1))) rfl (run_assign rfl rfl) ?_
  (try simp only [Act.put, List.setIfInBounds_toArray, List.set_cons_zero, List.set_cons_succ])
  show Code.wp _ _ _ _ _
  refine wp_seq ?_
  refine wp_region_list ?_
  refine seq_is (v := .agg #[.bool (b0), .slice a0 len0 cap0]) rfl (run_load2 rfl rfl (Z.bx 1 rfl)) ?_
  (try simp only [Act.put, List.setIfInBounds_toArray, List.set_cons_zero, List.set_cons_succ])
  refine seq_is (v := .int .i64 a1) rfl (run_move rfl rfl) ?_
  (try simp only [Act.put, List.setIfInBounds_toArray, List.set_cons_zero, List.set_cons_succ])
  refine seq_call Z rfl rfl Try.func62 rfl rfl (args2 rfl rfl) (Z.callIi (trammelref02_Power.sem (N0 _ _ (Z.rd 2 rfl)) (Bd.mono F0 (by decide)) h1.2)) ?_; clear Z; intro x5 W Z
  (try simp only [Act.put, List.setIfInBounds_toArray, List.set_cons_zero, List.set_cons_succ])
  refine seq_is (v := .tuple #[.agg #[.bool (decide (powZ (x0) (a1) < 0)), x5.v], .int .i64 (powE (x0) (a1))]) rfl (run_move rfl rfl) ?_
  (try simp only [Act.put, List.setIfInBounds_toArray, List.set_cons_zero, List.set_cons_succ])
  refine seq_is (v := .agg #[.bool (decide (powZ (x0) (a1) < 0)), x5.v]) rfl (run_extract rfl rfl rfl) ?_
  (try simp only [Act.put, List.setIfInBounds_toArray, List.set_cons_zero, List.set_cons_succ])
  refine seq_is (v := .int .i64 (powE (x0) (a1))) rfl (run_extract rfl rfl rfl) ?_
  (try simp only [Act.put, List.setIfInBounds_toArray, List.set_cons_zero, List.set_cons_succ])
  refine seq_alloc Z rfl rfl ?_; clear Z; intro g6 W Z
  (try simp only [Act.put, List.setIfInBounds_toArray, List.set_cons_zero, List.set_cons_succ])
  refine seq_store Z 0 rfl rfl rfl rfl rfl ?_; clear Z; intro W Z
  (try simp only [Act.put, List.setIfInBounds_toArray, List.set_cons_zero, List.set_cons_succ])
  refine seq_is (v := .int .i64 (powE (x0) (a1))) rfl (run_assign rfl rfl) ?_
  (try simp only [Act.put, List.setIfInBounds_toArray, List.set_cons_zero, List.set_cons_succ])
  show Code.wp _ _ _ _ _
  refine wp_seq ?_
  refine wp_seq ?_
  refine wp_region_list ?_
  refine seq_is (v := .int .i64 (powE (x0) (a1))) rfl (run_move rfl rfl) ?_
  (try simp only [Act.put, List.setIfInBounds_toArray, List.set_cons_zero, List.set_cons_succ])
  refine seq_is (v := .int .i64 (powE (x0) (a1))) rfl (run_move rfl rfl) ?_
  (try simp only [Act.put, List.setIfInBounds_toArray, List.set_cons_zero, List.set_cons_succ])
  refine seq_is (v := .bool (false)) rfl (run_cast (run_neq rfl rfl rfl) (decide_eq_false (fun h => h rfl))) ?_
  (try simp only [Act.put, List.setIfInBounds_toArray, List.set_cons_zero, List.set_cons_succ])
  refine seq_is (v := .bool (false)) rfl (run_move rfl rfl) ?_
  (try simp only [Act.put, List.setIfInBounds_toArray, List.set_cons_zero, List.set_cons_succ])
  refine list_want rfl rfl rfl (wp_run (v := .agg #[.bool (decide (powZ (x0) (a1) < 0)), x3.v]) (run_load2 rfl rfl (Z.bx 1 rfl)) ?_)
  (try simp only [Act.put, List.setIfInBounds_toArray, List.set_cons_zero, List.set_cons_succ])
  refine list_want rfl rfl rfl (wp_run (v := .agg #[.bool (decide (powZ (x0) (a1) < 0)), x5.v]) (run_load2 rfl rfl (Z.bx 0 rfl)) ?_)
  (try simp only [Act.put, List.setIfInBounds_toArray, List.set_cons_zero, List.set_cons_succ])
  refine seq_callw Z (fun h => list_want rfl rfl rfl h) rfl Try.func16 rfl rfl (args2 rfl rfl) (Z.callV (eqI_same (z1 := powZ (x0) (a1)) (z2 := powZ (x0) (a1)) (Z.rdO 1 rfl) (Z.rdO 0 rfl) (Bd.fm (Bd.abs Bd.pow) (by decide)) rfl)) ?_; clear Z; intro x7 W Z
  (try simp only [Act.put, List.setIfInBounds_toArray, List.set_cons_zero, List.set_cons_succ])
  refine list_want rfl rfl rfl (wp_run (v := .bool (!(true))) (run_not rfl rfl) ?_)
  (try simp only [Act.put, List.setIfInBounds_toArray, List.set_cons_zero, List.set_cons_succ])
  refine seq_is (v := .bool (!(true))) rfl (run_pickF rfl rfl rfl) ?_
  (try simp only [Act.put, List.setIfInBounds_toArray, List.set_cons_zero, List.set_cons_succ])
  show Code.wp _ _ _ _ _
  refine wp_cond_false rfl ?_
  refine wp_skip ?_
  show Code.wp _ _ _ _ _
  refine wp_seq ?_
  refine wp_region_list ?_
  refine seq_is (v := .agg #[.bool (b0), .slice a0 len0 cap0]) rfl (run_load2 rfl rfl (Z.bx 2 rfl)) ?_
  (try simp only [Act.put, List.setIfInBounds_toArray, List.set_cons_zero, List.set_cons_succ])
  refine seq_call Z rfl rfl Try.func15 rfl rfl (args1 rfl) (Z.callR (trammellaw02_own.res (Z.rd 3 rfl) hl0)) ?_; clear Z; intro x8 W Z
  (try simp only [Act.put, List.setIfInBounds_toArray, List.set_cons_zero, List.set_cons_succ])
  refine seq_is (v := .int .i64 a1) rfl (run_move rfl rfl) ?_
  (try simp only [Act.put, List.setIfInBounds_toArray, List.set_cons_zero, List.set_cons_succ])
  refine seq_call Z rfl rfl Try.func63 rfl rfl (args2 rfl rfl) (Z.callIi (zint_Shift.sem (N0 _ _ (Z.rdO 0 rfl)) (Bd.mono F0 (by decide)))) ?_; clear Z; intro x9 W Z
  (try simp only [Act.put, List.setIfInBounds_toArray, List.set_cons_zero, List.set_cons_succ])
  refine seq_is (v := .tuple #[.agg #[.bool (decide (shiftZ (x0) (a1) < 0)), x9.v], .int .i64 (shiftE (a1))]) rfl (run_move rfl rfl) ?_
  (try simp only [Act.put, List.setIfInBounds_toArray, List.set_cons_zero, List.set_cons_succ])
  refine seq_is (v := .agg #[.bool (decide (shiftZ (x0) (a1) < 0)), x9.v]) rfl (run_extract rfl rfl rfl) ?_
  (try simp only [Act.put, List.setIfInBounds_toArray, List.set_cons_zero, List.set_cons_succ])
  refine seq_is (v := .int .i64 (shiftE (a1))) rfl (run_extract rfl rfl rfl) ?_
  (try simp only [Act.put, List.setIfInBounds_toArray, List.set_cons_zero, List.set_cons_succ])
  refine seq_store Z 1 rfl rfl rfl rfl rfl ?_; clear Z; intro W Z
  (try simp only [Act.put, List.setIfInBounds_toArray, List.set_cons_zero, List.set_cons_succ])
  refine seq_is (v := .int .i64 (shiftE (a1))) rfl (run_assign rfl rfl) ?_
  (try simp only [Act.put, List.setIfInBounds_toArray, List.set_cons_zero, List.set_cons_succ])
  show Code.wp _ _ _ _ _
  refine wp_seq ?_
  refine wp_region_list ?_
  refine seq_is (v := .agg #[.bool (b0), .slice a0 len0 cap0]) rfl (run_load2 rfl rfl (Z.bx 2 rfl)) ?_
  (try simp only [Act.put, List.setIfInBounds_toArray, List.set_cons_zero, List.set_cons_succ])
  refine seq_is (v := .int .i64 a1) rfl (run_move rfl rfl) ?_
  (try simp only [Act.put, List.setIfInBounds_toArray, List.set_cons_zero, List.set_cons_succ])
  refine seq_call Z rfl rfl Try.func64 rfl rfl (args2 rfl rfl) (Z.callIi (trammelref02_Shift.sem (N0 _ _ (Z.rd 5 rfl)) (Bd.mono F0 (by decide)))) ?_; clear Z; intro x10 W Z
  (try simp only [Act.put, List.setIfInBounds_toArray, List.set_cons_zero, List.set_cons_succ])
  refine seq_is (v := .tuple #[.agg #[.bool (decide (shiftZ (x0) (a1) < 0)), x10.v], .int .i64 (shiftE (a1))]) rfl (run_move rfl rfl) ?_
  (try simp only [Act.put, List.setIfInBounds_toArray, List.set_cons_zero, List.set_cons_succ])
  refine seq_is (v := .agg #[.bool (decide (shiftZ (x0) (a1) < 0)), x10.v]) rfl (run_extract rfl rfl rfl) ?_
  (try simp only [Act.put, List.setIfInBounds_toArray, List.set_cons_zero, List.set_cons_succ])
  refine seq_is (v := .int .i64 (shiftE (a1))) rfl (run_extract rfl rfl rfl) ?_
  (try simp only [Act.put, List.setIfInBounds_toArray, List.set_cons_zero, List.set_cons_succ])
  refine seq_store Z 0 rfl rfl rfl rfl rfl ?_; clear Z; intro W Z
  (try simp only [Act.put, List.setIfInBounds_toArray, List.set_cons_zero, List.set_cons_succ])
  refine seq_is (v := .int .i64 (shiftE (a1))) rfl (run_assign rfl rfl) ?_
  (try simp only [Act.put, List.setIfInBounds_toArray, List.set_cons_zero, List.set_cons_succ])
  show Code.wp _ _ _ _ _
  refine wp_seq ?_
  refine wp_region_list ?_
  refine seq_is (v := .int .i64 (shiftE (a1))) rfl (run_move rfl rfl) ?_
  (try simp only [Act.put, List.setIfInBounds_toArray, List.set_cons_zero, List.set_cons_succ])
  refine seq_is (v := .int .i64 (shiftE (a1))) rfl (run_move rfl rfl) ?_
  (try simp only [Act.put, List.setIfInBounds_toArray, List.set_cons_zero, List.set_cons_succ])
  refine seq_is (v := .bool (true)) rfl (run_cast (run_eql rfl rfl rfl) (decide_eq_true rfl)) ?_
  (try simp only [Act.put, List.setIfInBounds_toArray, List.set_cons_zero, List.set_cons_succ])
  refine seq_is (v := .bool (true)) rfl (run_move rfl rfl) ?_
  (try simp only [Act.put, List.setIfInBounds_toArray, List.set_cons_zero, List.set_cons_succ])
  refine list_want rfl rfl rfl (wp_run (v := .agg #[.bool (decide (shiftZ (x0) (a1) < 0)), x9.v]) (run_load2 rfl rfl (Z.bx 1 rfl)) ?_)
  (try simp only [Act.put, List.setIfInBounds_toArray, List.set_cons_zero, List.set_cons_succ])
  refine list_want rfl rfl rfl (wp_run (v := .agg #[.bool (decide (shiftZ (x0) (a1) < 0)), x10.v]) (run_load2 rfl rfl (Z.bx 0 rfl)) ?_)
  (try simp only [Act.put, List.setIfInBounds_toArray, List.set_cons_zero, List.set_cons_succ])
  refine seq_callw Z (fun h => list_want rfl rfl rfl h) rfl Try.func16 rfl rfl (args2 rfl rfl) (Z.callV (eqI_same (z1 := shiftZ (x0) (a1)) (z2 := shiftZ (x0) (a1)) (Z.rdO 1 rfl) (Z.rdO 0 rfl) (Bd.fm (Bd.abs (Bd.shift F0)) (by decide)) rfl)) ?_; clear Z; intro x11 W Z
  (try simp only [Act.put, List.setIfInBounds_toArray, List.set_cons_zero, List.set_cons_succ])
  refine seq_is (v := .bool (true)) rfl (run_pickT rfl rfl rfl) ?_
  (try simp only [Act.put, List.setIfInBounds_toArray, List.set_cons_zero, List.set_cons_succ])
  refine seq_is (v := .bool (true)) rfl (run_assign rfl rfl) ?_
  (try simp only [Act.put, List.setIfInBounds_toArray, List.set_cons_zero, List.set_cons_succ])
  show Code.wp _ _ _ _ _
  refine wp_ret ?_
  exact Z.endsV rfl rfl rfl rfl
end Go.Proofs.Ytmbmbmkmjbpcpaa.PA

