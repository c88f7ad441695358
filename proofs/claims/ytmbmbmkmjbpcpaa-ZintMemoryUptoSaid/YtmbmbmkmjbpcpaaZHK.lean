/- zint.two: a power of 2 as words of its own. -/
import Derived.Outline
import Derived.Test.YtmbmbmkmjbpcpaaZGK
import Derived.Test.YtmbmbmkmjbpcpaaPAx0K
import Derived.Test.YtmbmbmkmjbpcpaaPAx13K
import Derived.Test.YtmbmbmkmjbpcpaaZFK
namespace Go.Proofs.Ytmbmbmkmjbpcpaa.PA
open Go Go.Proofs.Ytmbmbmkmjbpcpaa.Nums Go.RowKit Go.Proofs.YtmbmbmkmjbpcpaaW.PrintWords Go.Proofs.YtmbmbmkmjbpcpaaW.PrintLast Go.Proofs.YtmbmbmkmjbpcpaaW.PrintMore
set_option linter.unusedVariables false
section
variable {a : Act} {o : Oper} {W : World} {p q : Operand}
theorem run_quo32 {n : Nat} (hn : n ≤ 9223372036854775807) (ho : o.op = .binOp .quo 3 p (.const (.int .i64 32)) 3) (he : a.eval p = .int .i64 n) : (execOp a.eval o).run Try.prog W = .ok (.value (.int .i64 ((n / 32 : Nat) : Int))) W := by
  have e2 : a.eval (.const (.int .i64 32)) = .int .i64 32 := rfl
  have e3 : IntKind.i64.wrap (Int.tdiv (n : Int) 32) = ((n / 32 : Nat) : Int) := by
    rw [Int.tdiv_eq_ediv_of_nonneg (by omega), i64_w, w64 (by omega) (by omega)]
    omega
  unfold execOp
  simp only [ho, he, e2]
  go_simp
  exact e3
theorem run_rem32 {n : Nat} (hn : n ≤ 9223372036854775807) (ho : o.op = .binOp .rem 3 p (.const (.int .i64 32)) 3) (he : a.eval p = .int .i64 n) : (execOp a.eval o).run Try.prog W = .ok (.value (.int .i64 ((n % 32 : Nat) : Int))) W := by
  have e2 : a.eval (.const (.int .i64 32)) = .int .i64 32 := rfl
  have e3 : Int.tmod (n : Int) 32 = ((n % 32 : Nat) : Int) := by
    rw [Int.tmod_eq_emod_of_nonneg (by omega)]
    omega
  have e4 : IntKind.i64.wrap ((n % 32 : Nat) : Int) = ((n % 32 : Nat) : Int) := by rw [i64_w, w64 (by omega) (by omega)]
  unfold execOp
  simp only [ho, he, e2]
  go_simp
  all_goals first | exact e3 | (rw [e3]; exact e4)
theorem run_shl1 {n : Nat} (hn : n < 32) (ho : o.op = .binOp .shl 68 (.const (.int .u32 1)) p 3) (he : a.eval p = .int .i64 n) : (execOp a.eval o).run Try.prog W = .ok (.value (.int .u32 (2 ^ n))) W := by
  have e2 : a.eval (.const (.int .u32 1)) = .int .u32 1 := rfl
  have h0 : (0 : Int) ≤ (n : Int) := by omega
  have h1 : ¬ ((n : Int) < 0) := by omega
  unfold execOp
  simp only [ho, he, e2]
  go_simp
  rw [IntKind.wrap_u32]
  have h2 : 2 ^ n < 4294967296 := Nat.pow_lt_pow_right (a := 2) (n := 32) (by omega) hn
  have h3 : (2 : Int) ^ n = ((2 ^ n : Nat) : Int) := by rw [Int.natCast_pow]; rfl
  rw [h3]
  generalize 2 ^ n = m at *
  omega
theorem run_indexE {ad ad' : Addr} {n c i : Nat} (hv : ad.add i = ad') (ho : o.op = .indexAddr 23 p q) (he : a.eval p = .slice (some ad) n c) (he2 : a.eval q = .int .i64 i) (hi : i < n) : (execOp a.eval o).run Try.prog W = .ok (.value (.pointer (some ad'))) W := by
  subst hv
  exact run_index ho he he2 hi
end
theorem twoL_nrm (n : Nat) : Nrm (twoL n) := by
  intro x hx
  unfold twoL at hx
  rw [List.getLast?_append] at hx
  simp at hx
  subst hx
  have h := Nat.pow_pos (n := n % 32) (show 0 < 2 by decide)
  have e : (2 : Int) ^ (n % 32) = ((2 ^ (n % 32) : Nat) : Int) := by rw [Int.natCast_pow]; rfl
  rw [e]
  generalize 2 ^ (n % 32) = m at *
  omega
theorem set_last (k : Nat) (x : Int) : (List.replicate (k + 1) (0 : Int)).set k x = List.replicate k 0 ++ [x] := by
  rw [List.replicate_succ', List.set_append_right _ _ (by simp)]
  simp
set_option maxHeartbeats 4000000 in
set_option maxRecDepth 100000 in
theorem zint_two.sem {w : World} {n : Nat} (hn : n ≤ 1000000000) : Calls Try.prog 90 #[.int .i64 (n : Int)] w (ResM w (2 ^ n)) := by
  have Z := Zt.start w (Has.nil w w)
  have hl : lm (2 ^ n) = twoL n := by rw [← twoL_val, lm_of (twoL_ok n) (twoL_nrm n)]
  go_enter Try.func90, Try.ntmps90
  refine wp_seq ?_
  refine wp_region_list ?_
  refine seq_is (v := .slice none 0 0) rfl (run_assign rfl rfl) ?_
  (try simp only [Act.put, List.setIfInBounds_toArray, List.set_cons_zero, List.set_cons_succ])
  show Code.wp _ _ _ _ _
  refine wp_seq ?_
  refine wp_region_list ?_
  refine seq_is (v := .int .i64 (n : Int)) rfl (run_move rfl rfl) ?_
  (try simp only [Act.put, List.setIfInBounds_toArray, List.set_cons_zero, List.set_cons_succ])
  refine seq_is rfl (run_quo32 (n := n) (by omega) rfl rfl) ?_
  (try simp only [Act.put, List.setIfInBounds_toArray, List.set_cons_zero, List.set_cons_succ])
  refine seq_is rfl (run_inc (i := n / 32) rfl rfl (by omega)) ?_
  (try simp only [Act.put, List.setIfInBounds_toArray, List.set_cons_zero, List.set_cons_succ])
  refine Kd.R_make (Kd.int .u32) (w0 := w) w.heap.size 68 rfl (N := 7) rfl 23 _ _ rfl ((n / 32 + 1 : Nat) : Int) rfl rfl Try.underlying23 (.int .u32 0) 4 info68 rfl (by decide) (by omega) 0 (ok := fun _ => True) (okp := fun _ => True) rfl (fun _ hk => hk) trivial (by omega) (by rw [Int.toNat_natCast]; omega) Z.below Z.below.size ?_
  intro v1 W1 ho hb hg hnew
  rw [Int.toNat_natCast] at ho
  clear hg hnew
  obtain ⟨g, cap, rfl, -, -, -⟩ := Kd.R_form ho (by simp)
  (try simp only [Act.put, List.setIfInBounds_toArray, List.set_cons_zero, List.set_cons_succ])
  refine seq_is rfl (run_assign rfl rfl) ?_
  (try simp only [Act.put, List.setIfInBounds_toArray, List.set_cons_zero, List.set_cons_succ])
  show Code.wp _ _ _ _ _
  have hlen : (List.replicate (n / 32 + 1) (0 : Int)).length = n / 32 + 1 := List.length_replicate
  rw [hlen] at ho
  obtain ⟨-, -, -, q, hq, cells, hcells⟩ := (Kd.R_bound ho).1 g rfl
  obtain ⟨hx, hf⟩ := Kd.R_celln 0 ho ((n / 32 : Nat) : Int) (by omega) (by omega)
  have hp := Kd.R_putn ho ((n / 32 : Nat) : Int) ((2 : Int) ^ (n % 32))
  rw [Int.toNat_natCast] at hx hf hp
  rw [set_last] at hp
  have hg : w.heap.size ≤ g := Kd.R_base ho g rfl
  have hb2 : Below w.heap.size w (W1.setCell ⟨g, n / 32, none⟩ (.int .u32 (2 ^ (n % 32)))) := below_set hb hg
  refine wp_seq ?_
  refine wp_region_list ?_
  rw [hlen]
  refine seq_is rfl (run_move rfl rfl) ?_
  (try simp only [Act.put, List.setIfInBounds_toArray, List.set_cons_zero, List.set_cons_succ])
  refine seq_is (v := .int .i64 (n : Int)) rfl (run_move rfl rfl) ?_
  (try simp only [Act.put, List.setIfInBounds_toArray, List.set_cons_zero, List.set_cons_succ])
  refine seq_is rfl (run_quo32 (n := n) (by omega) rfl rfl) ?_
  (try simp only [Act.put, List.setIfInBounds_toArray, List.set_cons_zero, List.set_cons_succ])
  refine seq_is (v := .int .i64 (n : Int)) rfl (run_move rfl rfl) ?_
  (try simp only [Act.put, List.setIfInBounds_toArray, List.set_cons_zero, List.set_cons_succ])
  refine seq_is rfl (run_rem32 (n := n) (by omega) rfl rfl) ?_
  (try simp only [Act.put, List.setIfInBounds_toArray, List.set_cons_zero, List.set_cons_succ])
  refine seq_is rfl (run_shl1 (n := n % 32) (Nat.mod_lt _ (by omega)) rfl rfl) ?_
  (try simp only [Act.put, List.setIfInBounds_toArray, List.set_cons_zero, List.set_cons_succ])
  refine seq_is (v := .pointer (some ⟨g, n / 32, none⟩)) rfl (run_indexE (ad := ⟨g, 0, none⟩) (n := n / 32 + 1) (c := cap) (i := n / 32) (by simp [Addr.add]; try omega) rfl rfl rfl (by omega)) ?_
  (try simp only [Act.put, List.setIfInBounds_toArray, List.set_cons_zero, List.set_cons_succ])
  refine list_op rfl (wp_mute (W' := W1.setCell ⟨g, n / 32, none⟩ (.int .u32 (2 ^ (n % 32)))) ?_ ?_)
  · unfold execOp
    go_simp
  show Code.wp _ _ _ _ _
  refine wp_seq ?_
  refine wp_region_list ?_
  refine seq_is rfl (run_move rfl rfl) ?_
  (try simp only [Act.put, List.setIfInBounds_toArray, List.set_cons_zero, List.set_cons_succ])
  refine seq_is rfl (run_assign rfl rfl) ?_
  (try simp only [Act.put, List.setIfInBounds_toArray, List.set_cons_zero, List.set_cons_succ])
  show Code.wp _ _ _ _ _
  refine wp_ret ?_
  refine bodyPost_ret (v := .slice (some ⟨g, 0, none⟩) (n / 32 + 1) cap) (by unfold results; go_simp) rfl ⟨_, rfl, ?_, hb2⟩
  rw [hl]
  exact hp
theorem lm_two (n : Nat) : lm (2 ^ n) = twoL n := by rw [← twoL_val, lm_of (twoL_ok n) (twoL_nrm n)]
theorem two_pos (n : Nat) : (0 : Int) < 2 ^ n := Int.pow_pos (by decide)
theorem fm_two {n : Nat} (h : n < 320000000) : Fm (2 ^ n) := by
  unfold Fm
  rw [lm_two, twoL_len]
  omega
section
variable {a : Act} {o : Oper} {W : World} {p q : Operand}
end
end Go.Proofs.Ytmbmbmkmjbpcpaa.PA


/- The walks of Top and of the reference's Two. -/
namespace Go.Proofs.Ytmbmbmkmjbpcpaa.PA
open Go Go.Proofs.Ytmbmbmkmjbpcpaa.Nums Go.RowKit Go.Proofs.YtmbmbmkmjbpcpaaW.PrintWords Go.Proofs.YtmbmbmkmjbpcpaaW.PrintLast Go.Proofs.YtmbmbmkmjbpcpaaW.PrintMore
set_option linter.unusedVariables false
set_option linter.unusedSimpArgs false
theorem Bd.two {E k : Nat} (h : E < k) : Bd k (2 ^ E) := by
  unfold Bd
  rw [Int.natAbs_pow]
  exact Nat.pow_lt_pow_right (by decide) h
end Go.Proofs.Ytmbmbmkmjbpcpaa.PA

