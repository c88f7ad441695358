/- The walk of the law ZintRests: what its code answers for arguments of a bulk of at most 1048576. -/
import Derived.Outline
import Derived.Test.YtmbmbmkmjbpcpaaZbezK
import Derived.Test.YtmbmbmkmjbpcpaaZFK
import Derived.Test.YtmbmbmkmjbpcpaaZEK
import Derived.Test.YtmbmbmkmjbpcpaaZDK
import Derived.Test.YtmbmbmkmjbpcpaaPAx0K
namespace Go.Proofs.Ytmbmbmkmjbpcpaa.PA
open Go Go.Proofs.Ytmbmbmkmjbpcpaa.Nums Go.RowKit Go.Proofs.YtmbmbmkmjbpcpaaW.PrintWords Go.Proofs.YtmbmbmkmjbpcpaaW.PrintLast Go.Proofs.YtmbmbmkmjbpcpaaW.PrintMore
set_option linter.unusedVariables false
set_option linter.unusedSimpArgs false
theorem Bd.bezG {k l : Nat} {a b : Int} (h : Bd k a) (h2 : Bd l b) : Bd (max k l) (bezG a b) := by
  rw [← gcdI_abs]
  exact h.abs.gcd h2.abs
theorem Bd.bezX {l : Nat} {a b : Int} (h2 : Bd l b) : Bd (l + 1) (bezX a b) := by
  by_cases h0 : b = 0
  · unfold PA.bezX
    rw [if_pos h0]
    refine (Bd.lit (k := 1) (z := a.sign) ?_).mono (by omega)
    have := sign_rng a
    omega
  · obtain ⟨-, e1, e2⟩ := bez_law (a := a) h0
    have hg := bezG_pos (a := a) h0
    refine h2.mono (Nat.le_succ l) |>.of_le ?_
    have : PA.bezX a b * 1 ≤ PA.bezX a b * PA.bezG a b := Int.mul_le_mul_of_nonneg_left (by omega) e1
    omega
theorem Bd.bezY {k l : Nat} {a b : Int} (h : Bd k a) (h2 : Bd l b) : Bd (max k l + 1 + max k l + 2) (bezY a b) := by
  have h' := h.mono (Nat.le_max_left k l)
  have h2' := h2.mono (Nat.le_max_right k l)
  unfold PA.bezY
  split
  · exact Nat.pow_pos (by omega)
  · refine (fdiv_bd (((h.bezG h2).mono (Nat.le_refl _)).sub ((Bd.bezX h2').mul h'))).mono ?_
    omega
theorem rests_sgn {a b : Int} (h0 : b ≠ 0) (h : decide ((a.fmod b).sign ≠ 0) = true) : decide ((a.fmod b).sign ≠ b.sign) = false := by
  have h := of_decide_eq_true h
  obtain ⟨m1, m2, m3⟩ := fm_rng (a := a) h0
  refine decide_eq_false (fun hn => hn ?_)
  have hr : a.fmod b ≠ 0 := fun e => h (by rw [e]; rfl)
  rcases Int.lt_trichotomy b 0 with hb | hb | hb
  · rw [Int.sign_eq_neg_one_of_neg hb, Int.sign_eq_neg_one_of_neg (by have := m3 hb; omega)]
  · exact absurd hb h0
  · rw [Int.sign_eq_one_of_pos hb, Int.sign_eq_one_of_pos (by have := m2 hb; omega)]
theorem cmp_neg {x y : Int} : cmp x y < 0 ↔ x < y := by
  unfold cmp
  split
  · simp [*]
  · split <;> (simp; omega)
theorem cmp_pos {x y : Int} : 0 < cmp x y ↔ y < x := by
  unfold cmp
  split
  · simp; omega
  · split <;> (simp; try omega)
theorem rests_cmp {a b : Int} (h0 : b ≠ 0) : decide ((0 : Int) ≤ cmp (((a.fmod b).natAbs : Nat) : Int) ((b.natAbs : Nat) : Int)) = false := by
  obtain ⟨m1, m2, m3⟩ := fm_rng (a := a) h0
  refine decide_eq_false (fun h => ?_)
  have := cmp_neg.mpr (show (((a.fmod b).natAbs : Nat) : Int) < ((b.natAbs : Nat) : Int) by omega)
  omega
theorem rests_half {a b : Int} (h0 : b ≠ 0) : decide ((0 : Int) < cmp (2 * (((nearZ a b * b - a).natAbs : Nat) : Int)) ((b.natAbs : Nat) : Int)) = false := by
  refine decide_eq_false (fun h => ?_)
  have h := cmp_pos.mp h
  obtain ⟨m1, m2, m3⟩ := fm_rng (a := 2 * a + b) (show 2 * b ≠ 0 by omega)
  have e := Int.fmod_add_mul_fdiv (2 * a + b) (2 * b)
  unfold nearZ at h
  generalize (2 * a + b).fdiv (2 * b) = q at *
  generalize (2 * a + b).fmod (2 * b) = r at *
  have e2 : 2 * b * q = 2 * (q * b) := by rw [Int.mul_assoc, Int.mul_comm b]
  rw [e2] at e
  generalize q * b = t at *
  rcases Int.lt_trichotomy b 0 with hb | hb | hb
  · have := m3 (by omega)
    omega
  · omega
  · have := m2 (by omega)
    omega
theorem rests_g {a b : Int} (h0 : b ≠ 0) : decide ((bezG a b).sign ≤ 0) = false := by
  rw [Int.sign_eq_one_of_pos (bezG_pos h0)]
  rfl
theorem ex_dvd {a g : Int} (hg : 0 < g) (h : g ∣ a) : decide (exE a g = 0) = true := by
  refine decide_eq_true ?_
  unfold exE
  have : a.fmod g = 0 := by
    obtain ⟨k, rfl⟩ := h
    exact Int.mul_fmod_right _ _
  rw [if_neg (by omega), if_pos this]
theorem rests_ex1 {a b : Int} (h0 : b ≠ 0) : decide (exE a (bezG a b) = 0) = true := ex_dvd (bezG_pos h0) (bezG_dvd a b).1
theorem rests_ex2 {a b : Int} (h0 : b ≠ 0) : decide (exE b (bezG a b) = 0) = true := ex_dvd (bezG_pos h0) (bezG_dvd a b).2
theorem rests_x {a b : Int} (h0 : b ≠ 0) : decide ((0 : Int) ≤ (bezX a b).sign) = true := by
  obtain ⟨-, h, -⟩ := bez_law (a := a) h0
  refine decide_eq_true ?_
  rcases Int.lt_or_le 0 (bezX a b) with h1 | h1
  · rw [Int.sign_eq_one_of_pos h1]
    decide
  · rw [show bezX a b = 0 by omega]
    decide
theorem rests_lt {a b : Int} (h0 : b ≠ 0) : decide (cmp (bezX a b * bezG a b) ((b.natAbs : Nat) : Int) < 0) = true := decide_eq_true (cmp_neg.mpr (bez_law (a := a) h0).2.2)
theorem rests_sum {a b : Int} : a.fdiv b * b + a.fmod b = a := by
  have := Int.fmod_add_mul_fdiv a b
  rw [Int.mul_comm] at this
  omega
set_option maxHeartbeats 8000000 in
set_option maxRecDepth 100000 in
theorem trammellaw02_ZintRests.walk (b0 : Bool) (a0 : Option Addr) (len0 cap0 : Nat) (q0 : List Int) (b1 : Bool) (a1 : Option Addr) (len1 cap1 : Nat) (q1 : List Int) (w : World) (w0 : bulks.IsRow .u32 w a0 len0 cap0 q0) (y0 : len0 ≤ 1048576) (w1 : bulks.IsRow .u32 w a1 len1 cap1 q1) (y1 : len1 ≤ 1048576) : Calls Try.prog 12 #[.agg #[.bool b0, .slice a0 len0 cap0], .agg #[.bool b1, .slice a1 len1 cap1]] w (RetV w (.bool true)) := by
  obtain ⟨l0, r0, o0, hl0⟩ := row_rd w0 y0
  obtain ⟨x0, N0, F0, hx0⟩ := arg_num (b := b0) o0 hl0
  obtain ⟨l1, r1, o1, hl1⟩ := row_rd w1 y1
  obtain ⟨x1, N1, F1, hx1⟩ := arg_num (b := b1) o1 hl1
  have Z := Zt.start w (r0.has.append r1.has)
  rcases Decidable.em (x1 = 0) with h0 | h0
  · have hs := sign0_t h0
    go_enter Try.func12, Try.ntmps12
    refine wp_seq ?_
    refine wp_region_list ?_
    refine seq_box Z rfl rfl rfl ?_; clear Z; intro g1 W Z
    (try simp only [Act.put, List.setIfInBounds_toArray, List.set_cons_zero, List.set_cons_succ])
    refine seq_box Z rfl rfl rfl ?_; clear Z; intro g2 W Z
    (try simp only [Act.put, List.setIfInBounds_toArray, List.set_cons_zero, List.set_cons_succ])
    refine seq_is (v := .bool (false)) rfl (run_assign rfl rfl) ?_
    (try simp only [Act.put, List.setIfInBounds_toArray, List.set_cons_zero, List.set_cons_succ])
    show Code.wp _ _ _ _ _
    refine wp_seq ?_
    refine wp_seq ?_
    refine wp_region_list ?_
    refine seq_call Z rfl rfl Try.func44 rfl rfl (show Array.map _ #[] = #[] by simp) (Z.callV (trammellaw02_alive.sem _)) ?_; clear Z; intro x3 W Z
    (try simp only [Act.put, List.setIfInBounds_toArray, List.set_cons_zero, List.set_cons_succ])
    refine seq_is (v := .bool (!(true))) rfl (run_not rfl rfl) ?_
    (try simp only [Act.put, List.setIfInBounds_toArray, List.set_cons_zero, List.set_cons_succ])
    show Code.wp _ _ _ _ _
    refine wp_cond_false rfl ?_
    refine wp_skip ?_
    show Code.wp _ _ _ _ _
    refine wp_seq ?_
    refine wp_region_list ?_
    refine seq_is (v := .agg #[.bool (b0), .slice a0 len0 cap0]) rfl (run_load2 rfl rfl (Z.bx 1 rfl)) ?_
    (try simp only [Act.put, List.setIfInBounds_toArray, List.set_cons_zero, List.set_cons_succ])
    refine seq_is (v := .agg #[.bool (b1), .slice a1 len1 cap1]) rfl (run_load2 rfl rfl (Z.bx 0 rfl)) ?_
    (try simp only [Act.put, List.setIfInBounds_toArray, List.set_cons_zero, List.set_cons_succ])
    refine seq_call Z rfl rfl Try.func51 rfl rfl (args2 rfl rfl) (Z.callIIi (zint_Floor.sem0 (N0 _ _ (Z.rd 0 rfl)) (N1 _ _ (Z.rd 1 rfl)) (by omega))) ?_; clear Z; intro x4 W Z
    (try simp only [Act.put, List.setIfInBounds_toArray, List.set_cons_zero, List.set_cons_succ])
    refine seq_is (v := .tuple #[.agg #[.bool (decide ((0 : Int) < 0)), x4.1.v], .agg #[.bool (decide ((0 : Int) < 0)), x4.2.v], .int .i64 (11)]) rfl (run_move rfl rfl) ?_
    (try simp only [Act.put, List.setIfInBounds_toArray, List.set_cons_zero, List.set_cons_succ])
    refine seq_is (v := .agg #[.bool (decide ((0 : Int) < 0)), x4.1.v]) rfl (run_extract rfl rfl rfl) ?_
    (try simp only [Act.put, List.setIfInBounds_toArray, List.set_cons_zero, List.set_cons_succ])
    refine seq_is (v := .agg #[.bool (decide ((0 : Int) < 0)), x4.2.v]) rfl (run_extract rfl rfl rfl) ?_
    (try simp only [Act.put, List.setIfInBounds_toArray, List.set_cons_zero, List.set_cons_succ])
    refine seq_is (v := .int .i64 (11)) rfl (run_extract rfl rfl rfl) ?_
    (try simp only [Act.put, List.setIfInBounds_toArray, List.set_cons_zero, List.set_cons_succ])
    refine seq_alloc Z rfl rfl ?_; clear Z; intro g5 W Z
    (try simp only [Act.put, List.setIfInBounds_toArray, List.set_cons_zero, List.set_cons_succ])
    refine seq_alloc Z rfl rfl ?_; clear Z; intro g6 W Z
    (try simp only [Act.put, List.setIfInBounds_toArray, List.set_cons_zero, List.set_cons_succ])
    refine seq_store Z 1 rfl rfl rfl rfl rfl ?_; clear Z; intro W Z
    (try simp only [Act.put, List.setIfInBounds_toArray, List.set_cons_zero, List.set_cons_succ])
    refine seq_store Z 0 rfl rfl rfl rfl rfl ?_; clear Z; intro W Z
    (try simp only [Act.put, List.setIfInBounds_toArray, List.set_cons_zero, List.set_cons_succ])
    refine seq_is (v := .int .i64 (11)) rfl (run_assign rfl rfl) ?_
    (try simp only [Act.put, List.setIfInBounds_toArray, List.set_cons_zero, List.set_cons_succ])
    show Code.wp _ _ _ _ _
    refine wp_seq ?_
    refine wp_region_list ?_
    refine seq_is (v := .agg #[.bool (b0), .slice a0 len0 cap0]) rfl (run_load2 rfl rfl (Z.bx 3 rfl)) ?_
    (try simp only [Act.put, List.setIfInBounds_toArray, List.set_cons_zero, List.set_cons_succ])
    refine seq_is (v := .agg #[.bool (b1), .slice a1 len1 cap1]) rfl (run_load2 rfl rfl (Z.bx 2 rfl)) ?_
    (try simp only [Act.put, List.setIfInBounds_toArray, List.set_cons_zero, List.set_cons_succ])
    refine seq_call Z rfl rfl Try.func52 rfl rfl (args2 rfl rfl) (Z.callIi (zint_Near.sem0 (N0 _ _ (Z.rd 2 rfl)) (N1 _ _ (Z.rd 3 rfl)) (Bd.mono F0 (by decide)) (Bd.mono F1 (by decide)) (by omega))) ?_; clear Z; intro x7 W Z
    (try simp only [Act.put, List.setIfInBounds_toArray, List.set_cons_zero, List.set_cons_succ])
    refine seq_is (v := .tuple #[.agg #[.bool (decide ((0 : Int) < 0)), x7.v], .int .i64 (11)]) rfl (run_move rfl rfl) ?_
    (try simp only [Act.put, List.setIfInBounds_toArray, List.set_cons_zero, List.set_cons_succ])
    refine seq_is (v := .agg #[.bool (decide ((0 : Int) < 0)), x7.v]) rfl (run_extract rfl rfl rfl) ?_
    (try simp only [Act.put, List.setIfInBounds_toArray, List.set_cons_zero, List.set_cons_succ])
    refine seq_is (v := .int .i64 (11)) rfl (run_extract rfl rfl rfl) ?_
    (try simp only [Act.put, List.setIfInBounds_toArray, List.set_cons_zero, List.set_cons_succ])
    refine seq_alloc Z rfl rfl ?_; clear Z; intro g8 W Z
    (try simp only [Act.put, List.setIfInBounds_toArray, List.set_cons_zero, List.set_cons_succ])
    refine seq_store Z 0 rfl rfl rfl rfl rfl ?_; clear Z; intro W Z
    (try simp only [Act.put, List.setIfInBounds_toArray, List.set_cons_zero, List.set_cons_succ])
    refine seq_is (v := .int .i64 (11)) rfl (run_assign rfl rfl) ?_
    (try simp only [Act.put, List.setIfInBounds_toArray, List.set_cons_zero, List.set_cons_succ])
    show Code.wp _ _ _ _ _
    refine wp_seq ?_
    refine wp_seq ?_
    refine wp_region_list ?_
    refine seq_is (v := .agg #[.bool (b1), .slice a1 len1 cap1]) rfl (run_load2 rfl rfl (Z.bx 3 rfl)) ?_
    (try simp only [Act.put, List.setIfInBounds_toArray, List.set_cons_zero, List.set_cons_succ])
    refine seq_call Z rfl rfl Try.func36 rfl rfl (args1 rfl) (Z.callV (zint_Sign.sem (N1 _ _ (Z.rd 4 rfl))  )) ?_; clear Z; intro x9 W Z
    (try simp only [Act.put, List.setIfInBounds_toArray, List.set_cons_zero, List.set_cons_succ])
    refine seq_is (v := .bool (decide (((x1).sign) = (0)))) rfl (run_eql rfl rfl rfl) ?_
    (try simp only [Act.put, List.setIfInBounds_toArray, List.set_cons_zero, List.set_cons_succ])
    show Code.wp _ _ _ _ _
    refine wp_cond_true ((show _ = Value.bool (decide (((x1).sign) = (0))) from rfl).trans (congrArg Value.bool hs)) ?_
    refine wp_seq ?_
    refine wp_region_list ?_
    refine seq_is (v := .int .i64 (11)) rfl (run_move rfl rfl) ?_
    (try simp only [Act.put, List.setIfInBounds_toArray, List.set_cons_zero, List.set_cons_succ])
    refine seq_is (v := .bool (decide ((11 : Int) ≠ (0)))) rfl (run_neqE rfl rfl rfl) ?_
    (try simp only [Act.put, List.setIfInBounds_toArray, List.set_cons_zero, List.set_cons_succ])
    refine seq_is (v := .bool (decide ((11 : Int) ≠ (0)))) rfl (run_move rfl rfl) ?_
    (try simp only [Act.put, List.setIfInBounds_toArray, List.set_cons_zero, List.set_cons_succ])
    refine list_want rfl rfl rfl (wp_run (v := .int .i64 (11)) (run_move rfl rfl) ?_)
    (try simp only [Act.put, List.setIfInBounds_toArray, List.set_cons_zero, List.set_cons_succ])
    refine list_want rfl rfl rfl (wp_run (v := .bool (decide ((11 : Int) ≠ (0)))) (run_neqE rfl rfl rfl) ?_)
    (try simp only [Act.put, List.setIfInBounds_toArray, List.set_cons_zero, List.set_cons_succ])
    refine seq_is (v := .bool (decide ((11 : Int) ≠ (0)))) rfl (run_pickT rfl rfl rfl) ?_
    (try simp only [Act.put, List.setIfInBounds_toArray, List.set_cons_zero, List.set_cons_succ])
    refine seq_is (v := .bool (decide ((11 : Int) ≠ (0)))) rfl (run_assign rfl rfl) ?_
    (try simp only [Act.put, List.setIfInBounds_toArray, List.set_cons_zero, List.set_cons_succ])
    show Code.wp _ _ _ _ _
    refine wp_ret ?_
    exact Z.endsV rfl rfl rfl rfl
  · have hs := sign0_f h0
    go_enter Try.func12, Try.ntmps12
    refine wp_seq ?_
    refine wp_region_list ?_
    refine seq_box Z rfl rfl rfl ?_; clear Z; intro g1 W Z
    (try simp only [Act.put, List.setIfInBounds_toArray, List.set_cons_zero, List.set_cons_succ])
    refine seq_box Z rfl rfl rfl ?_; clear Z; intro g2 W Z
    (try simp only [Act.put, List.setIfInBounds_toArray, List.set_cons_zero, List.set_cons_succ])
    refine seq_is (v := .bool (false)) rfl (run_assign rfl rfl) ?_
    (try simp only [Act.put, List.setIfInBounds_toArray, List.set_cons_zero, List.set_cons_succ])
    show Code.wp _ _ _ _ _
    refine wp_seq ?_
    refine wp_seq ?_
    refine wp_region_list ?_
    refine seq_call Z rfl rfl Try.func44 rfl rfl (show Array.map _ #[] = #[] by simp) (Z.callV (trammellaw02_alive.sem _)) ?_; clear Z; intro x3 W Z
    (try simp only [Act.put, List.setIfInBounds_toArray, List.set_cons_zero, List.set_cons_succ])
    refine seq_is (v := .bool (!(true))) rfl (run_not rfl rfl) ?_
    (try simp only [Act.put, List.setIfInBounds_toArray, List.set_cons_zero, List.set_cons_succ])
    show Code.wp _ _ _ _ _
    refine wp_cond_false rfl ?_
    refine wp_skip ?_
    show Code.wp _ _ _ _ _
    refine wp_seq ?_
    refine wp_region_list ?_
    refine seq_is (v := .agg #[.bool (b0), .slice a0 len0 cap0]) rfl (run_load2 rfl rfl (Z.bx 1 rfl)) ?_
    (try simp only [Act.put, List.setIfInBounds_toArray, List.set_cons_zero, List.set_cons_succ])
    refine seq_is (v := .agg #[.bool (b1), .slice a1 len1 cap1]) rfl (run_load2 rfl rfl (Z.bx 0 rfl)) ?_
    (try simp only [Act.put, List.setIfInBounds_toArray, List.set_cons_zero, List.set_cons_succ])
    refine seq_call Z rfl rfl Try.func51 rfl rfl (args2 rfl rfl) (Z.callIIi (zint_Floor.sem (N0 _ _ (Z.rd 0 rfl)) (N1 _ _ (Z.rd 1 rfl))  (Bd.mono F0 (by decide)) (Bd.mono F1 (by decide)) h0)) ?_; clear Z; intro x4 W Z
    (try simp only [Act.put, List.setIfInBounds_toArray, List.set_cons_zero, List.set_cons_succ])
    refine seq_is (v := .tuple #[.agg #[.bool (decide ((x0 : Int).fdiv (x1) < 0)), x4.1.v], .agg #[.bool (decide ((x0 : Int).fmod (x1) < 0)), x4.2.v], .int .i64 (0)]) rfl (run_move rfl rfl) ?_
    (try simp only [Act.put, List.setIfInBounds_toArray, List.set_cons_zero, List.set_cons_succ])
    refine seq_is (v := .agg #[.bool (decide ((x0 : Int).fdiv (x1) < 0)), x4.1.v]) rfl (run_extract rfl rfl rfl) ?_
    (try simp only [Act.put, List.setIfInBounds_toArray, List.set_cons_zero, List.set_cons_succ])
    refine seq_is (v := .agg #[.bool (decide ((x0 : Int).fmod (x1) < 0)), x4.2.v]) rfl (run_extract rfl rfl rfl) ?_
    (try simp only [Act.put, List.setIfInBounds_toArray, List.set_cons_zero, List.set_cons_succ])
    refine seq_is (v := .int .i64 (0)) rfl (run_extract rfl rfl rfl) ?_
    (try simp only [Act.put, List.setIfInBounds_toArray, List.set_cons_zero, List.set_cons_succ])
    refine seq_alloc Z rfl rfl ?_; clear Z; intro g5 W Z
    (try simp only [Act.put, List.setIfInBounds_toArray, List.set_cons_zero, List.set_cons_succ])
    refine seq_alloc Z rfl rfl ?_; clear Z; intro g6 W Z
    (try simp only [Act.put, List.setIfInBounds_toArray, List.set_cons_zero, List.set_cons_succ])
    refine seq_store Z 1 rfl rfl rfl rfl rfl ?_; clear Z; intro W Z
    (try simp only [Act.put, List.setIfInBounds_toArray, List.set_cons_zero, List.set_cons_succ])
    refine seq_store Z 0 rfl rfl rfl rfl rfl ?_; clear Z; intro W Z
    (try simp only [Act.put, List.setIfInBounds_toArray, List.set_cons_zero, List.set_cons_succ])
    refine seq_is (v := .int .i64 (0)) rfl (run_assign rfl rfl) ?_
    (try simp only [Act.put, List.setIfInBounds_toArray, List.set_cons_zero, List.set_cons_succ])
    show Code.wp _ _ _ _ _
    refine wp_seq ?_
    refine wp_region_list ?_
    refine seq_is (v := .agg #[.bool (b0), .slice a0 len0 cap0]) rfl (run_load2 rfl rfl (Z.bx 3 rfl)) ?_
    (try simp only [Act.put, List.setIfInBounds_toArray, List.set_cons_zero, List.set_cons_succ])
    refine seq_is (v := .agg #[.bool (b1), .slice a1 len1 cap1]) rfl (run_load2 rfl rfl (Z.bx 2 rfl)) ?_
    (try simp only [Act.put, List.setIfInBounds_toArray, List.set_cons_zero, List.set_cons_succ])
    refine seq_call Z rfl rfl Try.func52 rfl rfl (args2 rfl rfl) (Z.callIi (zint_Near.sem (N0 _ _ (Z.rd 2 rfl)) (N1 _ _ (Z.rd 3 rfl))  (Bd.mono F0 (by decide)) (Bd.mono F1 (by decide)) h0)) ?_; clear Z; intro x7 W Z
    (try simp only [Act.put, List.setIfInBounds_toArray, List.set_cons_zero, List.set_cons_succ])
    refine seq_is (v := .tuple #[.agg #[.bool (decide (nearZ (x0) (x1) < 0)), x7.v], .int .i64 (0)]) rfl (run_move rfl rfl) ?_
    (try simp only [Act.put, List.setIfInBounds_toArray, List.set_cons_zero, List.set_cons_succ])
    refine seq_is (v := .agg #[.bool (decide (nearZ (x0) (x1) < 0)), x7.v]) rfl (run_extract rfl rfl rfl) ?_
    (try simp only [Act.put, List.setIfInBounds_toArray, List.set_cons_zero, List.set_cons_succ])
    refine seq_is (v := .int .i64 (0)) rfl (run_extract rfl rfl rfl) ?_
    (try simp only [Act.put, List.setIfInBounds_toArray, List.set_cons_zero, List.set_cons_succ])
    refine seq_alloc Z rfl rfl ?_; clear Z; intro g8 W Z
    (try simp only [Act.put, List.setIfInBounds_toArray, List.set_cons_zero, List.set_cons_succ])
    refine seq_store Z 0 rfl rfl rfl rfl rfl ?_; clear Z; intro W Z
    (try simp only [Act.put, List.setIfInBounds_toArray, List.set_cons_zero, List.set_cons_succ])
    refine seq_is (v := .int .i64 (0)) rfl (run_assign rfl rfl) ?_
    (try simp only [Act.put, List.setIfInBounds_toArray, List.set_cons_zero, List.set_cons_succ])
    show Code.wp _ _ _ _ _
    refine wp_seq ?_
    refine wp_seq ?_
    refine wp_region_list ?_
    refine seq_is (v := .agg #[.bool (b1), .slice a1 len1 cap1]) rfl (run_load2 rfl rfl (Z.bx 3 rfl)) ?_
    (try simp only [Act.put, List.setIfInBounds_toArray, List.set_cons_zero, List.set_cons_succ])
    refine seq_call Z rfl rfl Try.func36 rfl rfl (args1 rfl) (Z.callV (zint_Sign.sem (N1 _ _ (Z.rd 4 rfl))  )) ?_; clear Z; intro x9 W Z
    (try simp only [Act.put, List.setIfInBounds_toArray, List.set_cons_zero, List.set_cons_succ])
    refine seq_is (v := .bool (decide (((x1).sign) = (0)))) rfl (run_eql rfl rfl rfl) ?_
    (try simp only [Act.put, List.setIfInBounds_toArray, List.set_cons_zero, List.set_cons_succ])
    show Code.wp _ _ _ _ _
    refine wp_cond_false ((show _ = Value.bool (decide (((x1).sign) = (0))) from rfl).trans (congrArg Value.bool hs)) ?_
    refine wp_skip ?_
    show Code.wp _ _ _ _ _
    refine wp_seq ?_
    refine wp_seq ?_
    rcases Bool.eq_false_or_eq_true (decide ((((x0 : Int).fmod (x1)).sign) ≠ (0))) with hk112 | hk112
    · refine wp_dag (pre := [_, _, _, _, _, _, _, _, _, _, _, _, _, _, _, _, _, _, _, _, _, _, _, _, _, _, _, _, _, _, _, _, _, _, _, _, _]) (sps := [.is (.int .i64 (0)), .is (.bool (decide ((0 : Int) ≠ (0)))), .is (.bool (decide ((0 : Int) ≠ (0)))), .is (.int .i64 (0)), .is (.bool (decide ((0 : Int) ≠ (0)))), .is (.bool (decide ((0 : Int) ≠ (0)))), .is (.bool (decide ((0 : Int) ≠ (0)))), .is (.agg #[.bool (decide ((x0 : Int).fdiv (x1) < 0)), x4.1.v]), .is (.agg #[.bool (b1), .slice a1 len1 cap1]), spI w (((x0 : Int).fdiv (x1)) * (x1)), .is (.agg #[.bool (decide ((x0 : Int).fmod (x1) < 0)), x4.2.v]), spI w ((((x0 : Int).fdiv (x1)) * (x1)) + ((x0 : Int).fmod (x1))), .is (.agg #[.bool (b0), .slice a0 len0 cap0]), spI w ((x0)), .is (.bool (true)), .is (.bool (!(true))), .is (.bool (!(true))), .is (.bool (!(true))), .is (.agg #[.bool (decide ((x0 : Int).fmod (x1) < 0)), x4.2.v]), .is (.int .i64 (((x0 : Int).fmod (x1)).sign)), .is (.bool (decide ((((x0 : Int).fmod (x1)).sign) ≠ (0)))), .is (.bool (decide ((((x0 : Int).fmod (x1)).sign) ≠ (0)))), .is (.agg #[.bool (decide ((x0 : Int).fmod (x1) < 0)), x4.2.v]), .is (.int .i64 (((x0 : Int).fmod (x1)).sign)), .is (.agg #[.bool (b1), .slice a1 len1 cap1]), .is (.int .i64 ((x1).sign)), .is (.bool (decide ((((x0 : Int).fmod (x1)).sign) ≠ ((x1).sign)))), .is (.bool (decide ((((x0 : Int).fmod (x1)).sign) ≠ ((x1).sign)))), .is (.bool (decide ((((x0 : Int).fmod (x1)).sign) ≠ ((x1).sign)))), .is (.bool (decide ((((x0 : Int).fmod (x1)).sign) ≠ ((x1).sign)))), .is (.agg #[.bool (decide ((x0 : Int).fmod (x1) < 0)), x4.2.v]), spI w (((((x0 : Int).fmod (x1))).natAbs : Nat)), .is (.agg #[.bool (b1), .slice a1 len1 cap1]), spI w ((((x1)).natAbs : Nat)), .is (.int .i64 (cmp (((((x0 : Int).fmod (x1))).natAbs : Nat)) ((((x1)).natAbs : Nat)))), .is (.bool (decide ((0) ≤ (cmp (((((x0 : Int).fmod (x1))).natAbs : Nat)) ((((x1)).natAbs : Nat)))))), .is (.bool (decide ((0) ≤ (cmp (((((x0 : Int).fmod (x1))).natAbs : Nat)) ((((x1)).natAbs : Nat))))))]) Z (by kernel_rfl) _ rfl (by kernel_rfl) (by kernel_rfl) rfl ⟨?_, ?_, ?_, ?_, ?_, ?_, ?_, ?_, ?_, ?_, ?_, ?_, ?_, ?_, ?_, ?_, ?_, ?_, ?_, ?_, ?_, ?_, ?_, ?_, ?_, ?_, ?_, ?_, ?_, ?_, ?_, ?_, ?_, ?_, ?_, ?_, ?_, trivial⟩ ?_
      · intro a e113 W Q Z; exact step_is (fun _ h => op_plain rfl rfl h) (run_move rfl (ev e113))
      · intro a x115 e116 W Q Z; exact step_is (fun _ h => op_plain rfl rfl h) (run_neqE rfl (ev e116) rfl)
      · intro a x118 e119 W Q Z; exact step_is (fun _ h => op_plain rfl rfl h) (run_move rfl (ev e119))
      · intro a x121 e122 e123 W Q Z; exact step_is (fun _ h => op_want rfl rfl rfl e122 h) (run_move rfl (ev e123))
      · intro a x125 e126 x127 e128 W Q Z; exact step_is (fun _ h => op_want rfl rfl rfl e126 h) (run_neqE rfl (ev e128) rfl)
      · intro a x130 e131 x132 e133 W Q Z; exact step_is (fun _ h => op_plain rfl rfl h) (run_pickF rfl (ev e131) (ev e133))
      · intro a x135 e136 W Q Z; exact step_is (fun _ h => op_plain rfl rfl h) (run_move rfl (ev e136))
      · intro a x138 e139 e140 W Q Z; exact step_is (fun _ h => op_want rfl rfl rfl e139 h) (run_load2 rfl (ev e140) (Z.bx 2 rfl))
      · intro a x142 e143 e144 W Q Z; exact step_is (fun _ h => op_want rfl rfl rfl e143 h) (run_load2 rfl (ev e144) (Z.bx 3 rfl))
      · intro a x146 e147 x148 e149 x150 e151 W Q Z; exact step_call (fun _ h => op_want rfl rfl rfl e147 h) rfl Try.func23 rfl rfl (args2 (ev e149) (ev e151)) (Z.callI (zint_Mul.sem (Z.own 1 rfl (Bd.fm (Bd.abs (fdiv_bd F0)) (by decide))) (N1 _ _ (Z.rd 4 rfl)) (Bd.fm (Bd.mul (Bd.abs (fdiv_bd F0)) (Bd.abs F1)) (by decide)) ))
      · intro a x153 e154 e155 W Q Z; exact step_is (fun _ h => op_want rfl rfl rfl e154 h) (run_load2 rfl (ev e155) (Z.bx 1 rfl))
      · intro a x157 e158 x159 e160 x161 e162 W Q Z; exact step_call (fun _ h => op_want rfl rfl rfl e158 h) rfl Try.func19 rfl rfl (args2 (ev e160) (ev e162)) (Z.callI (zint_Add.sem (Z.own 0 rfl (Bd.fm (Bd.abs (Bd.mul (fdiv_bd F0) F1)) (by decide))) (Z.own 3 rfl (Bd.fm (Bd.abs (fmod_bd (k := 0) h0 F1)) (by decide))) (Bd.fm (Bd.add (Bd.abs (Bd.mul (fdiv_bd F0) F1)) (Bd.abs (fmod_bd (k := 0) h0 F1))) (by decide)) (Bd.fm (Bd.sub (Bd.abs (fmod_bd (k := 0) h0 F1)) (Bd.abs (Bd.mul (fdiv_bd F0) F1))) (by decide)) (Bd.fm (Bd.sub (Bd.abs (Bd.mul (fdiv_bd F0) F1)) (Bd.abs (fmod_bd (k := 0) h0 F1))) (by decide)) ))
      · intro a x164 e165 e166 W Q Z; exact step_is (fun _ h => op_want rfl rfl rfl e165 h) (run_load2 rfl (ev e166) (Z.bx 4 rfl))
      · intro a x168 e169 x170 e171 W Q Z; exact step_call (fun _ h => op_want rfl rfl rfl e169 h) rfl Try.func32 rfl rfl (args1 (ev e171)) (Z.callI (zint_Form.sem (N0 _ _ (Z.rd 3 rfl))  ))
      · intro a x173 e174 x175 e176 x177 e178 W Q Z; exact step_call (fun _ h => op_want rfl rfl rfl e174 h) rfl Try.func16 rfl rfl (args2 (ev e176) (ev e178)) (Z.callV (eqI_same (z1 := (((x0 : Int).fdiv (x1)) * (x1)) + ((x0 : Int).fmod (x1))) (z2 := (x0)) (Z.rdO 1 rfl) (Z.rdO 0 rfl) (Bd.fm (Bd.abs (Bd.add (Bd.mul (fdiv_bd F0) F1) (fmod_bd (k := 0) h0 F1))) (by decide)) rests_sum))
      · intro a x180 e181 x182 e183 W Q Z; exact step_is (fun _ h => op_want rfl rfl rfl e181 h) (run_not rfl (ev e183))
      · intro a x185 e186 x187 e188 W Q Z; exact step_is (fun _ h => op_plain rfl rfl h) (run_pickF rfl (ev e186) (ev e188))
      · intro a x190 e191 W Q Z; exact step_is (fun _ h => op_plain rfl rfl h) (run_move rfl (ev e191))
      · intro a x193 e194 e195 W Q Z; exact step_is (fun _ h => op_want rfl rfl rfl e194 h) (run_load2 rfl (ev e195) (Z.bx 1 rfl))
      · intro a x197 e198 x199 e200 W Q Z; exact step_call (fun _ h => op_want rfl rfl rfl e198 h) rfl Try.func36 rfl rfl (args1 (ev e200)) (Z.callV (zint_Sign.sem (Z.own 2 rfl (Bd.fm (Bd.abs (fmod_bd (k := 0) h0 F1)) (by decide)))  ))
      · intro a x202 e203 x204 e205 W Q Z; exact step_is (fun _ h => op_want rfl rfl rfl e203 h) (run_neq rfl (ev e205) rfl)
      · intro a x207 e208 x209 e210 W Q Z; exact step_is (fun _ h => op_want rfl rfl rfl e208 h) (run_move rfl (ev e210))
      · intro a x212 e213 e214 W Q Z; exact step_is (fun _ h => op_want rfl rfl rfl (e213.trans (congrArg some (congrArg Value.bool hk112))) h) (run_load2 rfl (ev e214) (Z.bx 1 rfl))
      · intro a x216 e217 x218 e219 W Q Z; exact step_call (fun _ h => op_want rfl rfl rfl (e217.trans (congrArg some (congrArg Value.bool hk112))) h) rfl Try.func36 rfl rfl (args1 (ev e219)) (Z.callV (zint_Sign.sem (Z.own 2 rfl (Bd.fm (Bd.abs (fmod_bd (k := 0) h0 F1)) (by decide)))  ))
      · intro a x221 e222 e223 W Q Z; exact step_is (fun _ h => op_want rfl rfl rfl (e222.trans (congrArg some (congrArg Value.bool hk112))) h) (run_load2 rfl (ev e223) (Z.bx 3 rfl))
      · intro a x225 e226 x227 e228 W Q Z; exact step_call (fun _ h => op_want rfl rfl rfl (e226.trans (congrArg some (congrArg Value.bool hk112))) h) rfl Try.func36 rfl rfl (args1 (ev e228)) (Z.callV (zint_Sign.sem (N1 _ _ (Z.rd 4 rfl))  ))
      · intro a x230 e231 x232 e233 x234 e235 W Q Z; exact step_is (fun _ h => op_want rfl rfl rfl (e231.trans (congrArg some (congrArg Value.bool hk112))) h) (run_neq rfl (ev e233) (ev e235))
      · intro a x237 e238 x239 e240 x241 e242 W Q Z; exact step_is (fun _ h => op_want rfl rfl rfl e238 h) (run_pickT rfl ((show _ = Value.bool (decide ((((x0 : Int).fmod (x1)).sign) ≠ (0))) from (ev e240)).trans (congrArg Value.bool hk112)) (ev e242))
      · intro a x244 e245 x246 e247 W Q Z; exact step_is (fun _ h => op_plain rfl rfl h) (run_pickF rfl (ev e245) (ev e247))
      · intro a x249 e250 W Q Z; exact step_is (fun _ h => op_plain rfl rfl h) (run_move rfl (ev e250))
      · intro a x252 e253 e254 W Q Z; exact step_is (fun _ h => op_want rfl rfl rfl (e253.trans (congrArg some (congrArg Value.bool (rests_sgn h0 hk112)))) h) (run_load2 rfl (ev e254) (Z.bx 1 rfl))
      · intro a x256 e257 x258 e259 W Q Z; exact step_call (fun _ h => op_want rfl rfl rfl (e257.trans (congrArg some (congrArg Value.bool (rests_sgn h0 hk112)))) h) rfl Try.func27 rfl rfl (args1 (ev e259)) (Z.callI (zint_Abs.sem (Z.own 2 rfl (Bd.fm (Bd.abs (fmod_bd (k := 0) h0 F1)) (by decide)))  ))
      · intro a x261 e262 e263 W Q Z; exact step_is (fun _ h => op_want rfl rfl rfl (e262.trans (congrArg some (congrArg Value.bool (rests_sgn h0 hk112)))) h) (run_load2 rfl (ev e263) (Z.bx 3 rfl))
      · intro a x265 e266 x267 e268 W Q Z; exact step_call (fun _ h => op_want rfl rfl rfl (e266.trans (congrArg some (congrArg Value.bool (rests_sgn h0 hk112)))) h) rfl Try.func27 rfl rfl (args1 (ev e268)) (Z.callI (zint_Abs.sem (N1 _ _ (Z.rd 4 rfl))  ))
      · intro a x270 e271 x272 e273 x274 e275 W Q Z; exact step_call (fun _ h => op_want rfl rfl rfl (e271.trans (congrArg some (congrArg Value.bool (rests_sgn h0 hk112)))) h) rfl Try.func38 rfl rfl (args2 (ev e273) (ev e275)) (Z.callV (zint_Compare.sem (Z.own 1 rfl (Bd.fm (Bd.abs (Bd.abs (fmod_bd (k := 0) h0 F1))) (by decide))) (Z.own 0 rfl (Bd.fm (Bd.abs (Bd.abs F1)) (by decide)))  ))
      · intro a x277 e278 x279 e280 W Q Z; exact step_is (fun _ h => op_want rfl rfl rfl (e278.trans (congrArg some (congrArg Value.bool (rests_sgn h0 hk112)))) h) (run_geq rfl (ev e280) rfl)
      · intro a x282 e283 x284 e285 W Q Z; exact step_is (fun _ h => op_plain rfl rfl h) (run_pickF rfl ((show _ = Value.bool (decide ((((x0 : Int).fmod (x1)).sign) ≠ ((x1).sign))) from (ev e283)).trans (congrArg Value.bool (rests_sgn h0 hk112))) (ev e285))
      clear Z; intro x114 x117 x120 x124 x129 x134 x137 x141 x145 x152 x156 x163 x167 x172 x179 x184 x189 x192 x196 x201 x206 x211 x215 x220 x224 x229 x236 x243 x248 x251 x255 x260 x264 x269 x276 x281 x286 W Z
      (try simp only [Act.put, List.setIfInBounds_toArray, List.set_cons_zero, List.set_cons_succ])
      show Code.wp _ _ _ _ _
      refine wp_cond_false ((show _ = Value.bool (decide ((0) ≤ (cmp (((((x0 : Int).fmod (x1))).natAbs : Nat)) ((((x1)).natAbs : Nat))))) from rfl).trans (congrArg Value.bool (rests_cmp h0))) ?_
      refine wp_skip ?_
      show Code.wp _ _ _ _ _
      refine wp_seq ?_
      refine wp_dag (pre := [_, _, _, _, _, _, _, _, _]) (sps := [spI w ((2 : Int)), .is (.agg #[.bool (decide (nearZ (x0) (x1) < 0)), x7.v]), .is (.agg #[.bool (b1), .slice a1 len1 cap1]), spI w ((nearZ (x0) (x1)) * (x1)), .is (.agg #[.bool (b0), .slice a0 len0 cap0]), spI w (((nearZ (x0) (x1)) * (x1)) - (x0)), spI w ((((((nearZ (x0) (x1)) * (x1)) - (x0))).natAbs : Nat)), spI w (((2 : Int)) * ((((((nearZ (x0) (x1)) * (x1)) - (x0))).natAbs : Nat))), .box 25 #[.bool false, .slice none 0 0]]) Z (by kernel_rfl) _ rfl (by kernel_rfl) (by kernel_rfl) rfl ⟨?_, ?_, ?_, ?_, ?_, ?_, ?_, ?_, ?_, trivial⟩ ?_
      · intro a W Q Z; exact step_call (fun _ h => op_plain rfl rfl h) rfl Try.func30 rfl rfl (args1 rfl) (Z.callI (zint_Of.sem (by omega) (by omega)))
      · intro a e288 W Q Z; exact step_is (fun _ h => op_plain rfl rfl h) (run_load2 rfl (ev e288) (Z.bx 0 rfl))
      · intro a e290 W Q Z; exact step_is (fun _ h => op_plain rfl rfl h) (run_load2 rfl (ev e290) (Z.bx 3 rfl))
      · intro a x292 e293 x294 e295 W Q Z; exact step_call (fun _ h => op_plain rfl rfl h) rfl Try.func23 rfl rfl (args2 (ev e293) (ev e295)) (Z.callI (zint_Mul.sem (Z.own 5 rfl (Bd.fm (Bd.abs (Bd.near F0 F1)) (by decide))) (N1 _ _ (Z.rd 9 rfl)) (Bd.fm (Bd.mul (Bd.abs (Bd.near F0 F1)) (Bd.abs F1)) (by decide)) ))
      · intro a e297 W Q Z; exact step_is (fun _ h => op_plain rfl rfl h) (run_load2 rfl (ev e297) (Z.bx 4 rfl))
      · intro a x299 e300 x301 e302 W Q Z; exact step_call (fun _ h => op_plain rfl rfl h) rfl Try.func21 rfl rfl (args2 (ev e300) (ev e302)) (Z.callI (zint_Sub.sem (Z.own 0 rfl (Bd.fm (Bd.abs (Bd.mul (Bd.near F0 F1) F1)) (by decide))) (N0 _ _ (Z.rd 9 rfl)) (Bd.fm (Bd.abs (Bd.neg F0)) (by decide)) (Bd.fm (Bd.add (Bd.abs (Bd.mul (Bd.near F0 F1) F1)) (Bd.abs (Bd.neg F0))) (by decide)) (Bd.fm (Bd.sub (Bd.abs (Bd.neg F0)) (Bd.abs (Bd.mul (Bd.near F0 F1) F1))) (by decide)) (Bd.fm (Bd.sub (Bd.abs (Bd.mul (Bd.near F0 F1) F1)) (Bd.abs (Bd.neg F0))) (by decide)) ))
      · intro a x304 e305 W Q Z; exact step_call (fun _ h => op_plain rfl rfl h) rfl Try.func27 rfl rfl (args1 (ev e305)) (Z.callI (zint_Abs.sem (Z.own 0 rfl (Bd.fm (Bd.abs (Bd.sub (Bd.mul (Bd.near F0 F1) F1) F0)) (by decide)))  ))
      · intro a x307 e308 x309 e310 W Q Z; exact step_call (fun _ h => op_plain rfl rfl h) rfl Try.func23 rfl rfl (args2 (ev e308) (ev e310)) (Z.callI (zint_Mul.sem (Z.own 1 rfl (Bd.fm (Bd.abs (Bd.lit (k := 64) (z := 2) (by decide))) (by decide))) (Z.own 0 rfl (Bd.fm (Bd.abs (Bd.abs (Bd.sub (Bd.mul (Bd.near F0 F1) F1) F0))) (by decide))) (Bd.fm (Bd.mul (Bd.abs (Bd.lit (k := 64) (z := 2) (by decide))) (Bd.abs (Bd.abs (Bd.sub (Bd.mul (Bd.near F0 F1) F1) F0)))) (by decide)) ))
      · intro a W Q Z; exact step_box (fun _ h => op_plain rfl rfl h) (by decide) (run_alloc2 rfl)
      clear Z; intro x287 x289 x291 x296 x298 x303 x306 x311 g312 W Z
      (try simp only [Act.put, List.setIfInBounds_toArray, List.set_cons_zero, List.set_cons_succ])
      refine seq_store Z 0 rfl rfl rfl rfl rfl ?_; clear Z; intro W Z
      (try simp only [Act.put, List.setIfInBounds_toArray, List.set_cons_zero, List.set_cons_succ])
      show Code.wp _ _ _ _ _
      refine wp_seq ?_
      refine wp_seq ?_
      refine wp_dag (pre := [_, _, _, _, _]) (sps := [.is (.agg #[.bool (decide (((2 : Int)) * ((((((nearZ (x0) (x1)) * (x1)) - (x0))).natAbs : Nat)) < 0)), x311.v]), .is (.agg #[.bool (b1), .slice a1 len1 cap1]), spI w ((((x1)).natAbs : Nat)), .is (.int .i64 (cmp (((2 : Int)) * ((((((nearZ (x0) (x1)) * (x1)) - (x0))).natAbs : Nat))) ((((x1)).natAbs : Nat)))), .is (.bool (decide ((0) < (cmp (((2 : Int)) * ((((((nearZ (x0) (x1)) * (x1)) - (x0))).natAbs : Nat))) ((((x1)).natAbs : Nat))))))]) Z (by kernel_rfl) _ rfl (by kernel_rfl) (by kernel_rfl) rfl ⟨?_, ?_, ?_, ?_, ?_, trivial⟩ ?_
      · intro a e313 W Q Z; exact step_is (fun _ h => op_plain rfl rfl h) (run_load2 rfl (ev e313) (Z.bx 0 rfl))
      · intro a e315 W Q Z; exact step_is (fun _ h => op_plain rfl rfl h) (run_load2 rfl (ev e315) (Z.bx 4 rfl))
      · intro a x317 e318 W Q Z; exact step_call (fun _ h => op_plain rfl rfl h) rfl Try.func27 rfl rfl (args1 (ev e318)) (Z.callI (zint_Abs.sem (N1 _ _ (Z.rd 14 rfl))  ))
      · intro a x320 e321 x322 e323 W Q Z; exact step_call (fun _ h => op_plain rfl rfl h) rfl Try.func38 rfl rfl (args2 (ev e321) (ev e323)) (Z.callV (zint_Compare.sem (Z.own 1 rfl (Bd.fm (Bd.abs (Bd.mul (Bd.lit (k := 64) (z := 2) (by decide)) (Bd.abs (Bd.sub (Bd.mul (Bd.near F0 F1) F1) F0)))) (by decide))) (Z.own 0 rfl (Bd.fm (Bd.abs (Bd.abs F1)) (by decide)))  ))
      · intro a x325 e326 W Q Z; exact step_is (fun _ h => op_plain rfl rfl h) (run_gtr rfl (ev e326) rfl)
      clear Z; intro x314 x316 x319 x324 x327 W Z
      (try simp only [Act.put, List.setIfInBounds_toArray, List.set_cons_zero, List.set_cons_succ])
      show Code.wp _ _ _ _ _
      refine wp_cond_false ((show _ = Value.bool (decide ((0) < (cmp (((2 : Int)) * ((((((nearZ (x0) (x1)) * (x1)) - (x0))).natAbs : Nat))) ((((x1)).natAbs : Nat))))) from rfl).trans (congrArg Value.bool (rests_half h0))) ?_
      refine wp_skip ?_
      show Code.wp _ _ _ _ _
      refine wp_seq ?_
      refine wp_region_list ?_
      refine seq_is (v := .agg #[.bool (b0), .slice a0 len0 cap0]) rfl (run_load2 rfl rfl (Z.bx 5 rfl)) ?_
      (try simp only [Act.put, List.setIfInBounds_toArray, List.set_cons_zero, List.set_cons_succ])
      refine seq_is (v := .agg #[.bool (b1), .slice a1 len1 cap1]) rfl (run_load2 rfl rfl (Z.bx 4 rfl)) ?_
      (try simp only [Act.put, List.setIfInBounds_toArray, List.set_cons_zero, List.set_cons_succ])
      refine seq_call Z rfl rfl Try.func59 rfl rfl (args2 rfl rfl) (Z.callIII (zint_Bezout.sem (N0 _ _ (Z.rd 14 rfl)) (N1 _ _ (Z.rd 15 rfl))  (Bd.mono F0 (by decide)) (Bd.mono F1 (by decide)))) ?_; clear Z; intro x328 W Z
      (try simp only [Act.put, List.setIfInBounds_toArray, List.set_cons_zero, List.set_cons_succ])
      refine seq_is (v := .tuple #[.agg #[.bool (decide (bezG (x0) (x1) < 0)), x328.1.v], .agg #[.bool (decide (bezX (x0) (x1) < 0)), x328.2.1.v], .agg #[.bool (decide (bezY (x0) (x1) < 0)), x328.2.2.v]]) rfl (run_move rfl rfl) ?_
      (try simp only [Act.put, List.setIfInBounds_toArray, List.set_cons_zero, List.set_cons_succ])
      refine seq_is (v := .agg #[.bool (decide (bezG (x0) (x1) < 0)), x328.1.v]) rfl (run_extract rfl rfl rfl) ?_
      (try simp only [Act.put, List.setIfInBounds_toArray, List.set_cons_zero, List.set_cons_succ])
      refine seq_is (v := .agg #[.bool (decide (bezX (x0) (x1) < 0)), x328.2.1.v]) rfl (run_extract rfl rfl rfl) ?_
      (try simp only [Act.put, List.setIfInBounds_toArray, List.set_cons_zero, List.set_cons_succ])
      refine seq_is (v := .agg #[.bool (decide (bezY (x0) (x1) < 0)), x328.2.2.v]) rfl (run_extract rfl rfl rfl) ?_
      (try simp only [Act.put, List.setIfInBounds_toArray, List.set_cons_zero, List.set_cons_succ])
      refine seq_alloc Z rfl rfl ?_; clear Z; intro g329 W Z
      (try simp only [Act.put, List.setIfInBounds_toArray, List.set_cons_zero, List.set_cons_succ])
      refine seq_alloc Z rfl rfl ?_; clear Z; intro g330 W Z
      (try simp only [Act.put, List.setIfInBounds_toArray, List.set_cons_zero, List.set_cons_succ])
      refine seq_alloc Z rfl rfl ?_; clear Z; intro g331 W Z
      (try simp only [Act.put, List.setIfInBounds_toArray, List.set_cons_zero, List.set_cons_succ])
      refine seq_store Z 2 rfl rfl rfl rfl rfl ?_; clear Z; intro W Z
      (try simp only [Act.put, List.setIfInBounds_toArray, List.set_cons_zero, List.set_cons_succ])
      refine seq_store Z 1 rfl rfl rfl rfl rfl ?_; clear Z; intro W Z
      (try simp only [Act.put, List.setIfInBounds_toArray, List.set_cons_zero, List.set_cons_succ])
      refine seq_store Z 0 rfl rfl rfl rfl rfl ?_; clear Z; intro W Z
      (try simp only [Act.put, List.setIfInBounds_toArray, List.set_cons_zero, List.set_cons_succ])
      show Code.wp _ _ _ _ _
      refine wp_seq ?_
      refine wp_seq ?_
      refine wp_dag (pre := [_, _, _, _, _, _, _, _, _, _, _, _, _, _, _]) (sps := [.is (.agg #[.bool (decide (bezX (x0) (x1) < 0)), x328.2.1.v]), .is (.agg #[.bool (b0), .slice a0 len0 cap0]), spI w ((bezX (x0) (x1)) * (x0)), .is (.agg #[.bool (decide (bezY (x0) (x1) < 0)), x328.2.2.v]), .is (.agg #[.bool (b1), .slice a1 len1 cap1]), spI w ((bezY (x0) (x1)) * (x1)), spI w (((bezX (x0) (x1)) * (x0)) + ((bezY (x0) (x1)) * (x1))), .is (.agg #[.bool (decide (bezG (x0) (x1) < 0)), x328.1.v]), .is (.bool (true)), .is (.bool (!(true))), .is (.bool (!(true))), .is (.agg #[.bool (decide (bezG (x0) (x1) < 0)), x328.1.v]), .is (.int .i64 ((bezG (x0) (x1)).sign)), .is (.bool (decide (((bezG (x0) (x1)).sign) ≤ (0)))), .is (.bool (decide (((bezG (x0) (x1)).sign) ≤ (0))))]) Z (by kernel_rfl) _ rfl (by kernel_rfl) (by kernel_rfl) rfl ⟨?_, ?_, ?_, ?_, ?_, ?_, ?_, ?_, ?_, ?_, ?_, ?_, ?_, ?_, ?_, trivial⟩ ?_
      · intro a e332 W Q Z; exact step_is (fun _ h => op_plain rfl rfl h) (run_load2 rfl (ev e332) (Z.bx 1 rfl))
      · intro a e334 W Q Z; exact step_is (fun _ h => op_plain rfl rfl h) (run_load2 rfl (ev e334) (Z.bx 8 rfl))
      · intro a x336 e337 x338 e339 W Q Z; exact step_call (fun _ h => op_plain rfl rfl h) rfl Try.func23 rfl rfl (args2 (ev e337) (ev e339)) (Z.callI (zint_Mul.sem (Z.own 1 rfl (Bd.fm (Bd.abs (Bd.bezX F1)) (by decide))) (N0 _ _ (Z.rd 17 rfl)) (Bd.fm (Bd.mul (Bd.abs (Bd.bezX F1)) (Bd.abs F0)) (by decide)) ))
      · intro a e341 W Q Z; exact step_is (fun _ h => op_plain rfl rfl h) (run_load2 rfl (ev e341) (Z.bx 0 rfl))
      · intro a e343 W Q Z; exact step_is (fun _ h => op_plain rfl rfl h) (run_load2 rfl (ev e343) (Z.bx 7 rfl))
      · intro a x345 e346 x347 e348 W Q Z; exact step_call (fun _ h => op_plain rfl rfl h) rfl Try.func23 rfl rfl (args2 (ev e346) (ev e348)) (Z.callI (zint_Mul.sem (Z.own 2 rfl (Bd.fm (Bd.abs (Bd.bezY F0 F1)) (by decide))) (N1 _ _ (Z.rd 18 rfl)) (Bd.fm (Bd.mul (Bd.abs (Bd.bezY F0 F1)) (Bd.abs F1)) (by decide)) ))
      · intro a x350 e351 x352 e353 W Q Z; exact step_call (fun _ h => op_plain rfl rfl h) rfl Try.func19 rfl rfl (args2 (ev e351) (ev e353)) (Z.callI (zint_Add.sem (Z.own 1 rfl (Bd.fm (Bd.abs (Bd.mul (Bd.bezX F1) F0)) (by decide))) (Z.own 0 rfl (Bd.fm (Bd.abs (Bd.mul (Bd.bezY F0 F1) F1)) (by decide))) (Bd.fm (Bd.add (Bd.abs (Bd.mul (Bd.bezX F1) F0)) (Bd.abs (Bd.mul (Bd.bezY F0 F1) F1))) (by decide)) (Bd.fm (Bd.sub (Bd.abs (Bd.mul (Bd.bezY F0 F1) F1)) (Bd.abs (Bd.mul (Bd.bezX F1) F0))) (by decide)) (Bd.fm (Bd.sub (Bd.abs (Bd.mul (Bd.bezX F1) F0)) (Bd.abs (Bd.mul (Bd.bezY F0 F1) F1))) (by decide)) ))
      · intro a e355 W Q Z; exact step_is (fun _ h => op_plain rfl rfl h) (run_load2 rfl (ev e355) (Z.bx 2 rfl))
      · intro a x357 e358 x359 e360 W Q Z; exact step_call (fun _ h => op_plain rfl rfl h) rfl Try.func16 rfl rfl (args2 (ev e358) (ev e360)) (Z.callV (eqI_same (z1 := ((bezX (x0) (x1)) * (x0)) + ((bezY (x0) (x1)) * (x1))) (z2 := bezG (x0) (x1)) (Z.rdO 0 rfl) (Z.rdO 1 rfl) (Bd.fm (Bd.abs (Bd.add (Bd.mul (Bd.bezX F1) F0) (Bd.mul (Bd.bezY F0 F1) F1))) (by decide)) (bez_law h0).1))
      · intro a x362 e363 W Q Z; exact step_is (fun _ h => op_plain rfl rfl h) (run_not rfl (ev e363))
      · intro a x365 e366 W Q Z; exact step_is (fun _ h => op_plain rfl rfl h) (run_move rfl (ev e366))
      · intro a x368 e369 e370 W Q Z; exact step_is (fun _ h => op_want rfl rfl rfl e369 h) (run_load2 rfl (ev e370) (Z.bx 2 rfl))
      · intro a x372 e373 x374 e375 W Q Z; exact step_call (fun _ h => op_want rfl rfl rfl e373 h) rfl Try.func36 rfl rfl (args1 (ev e375)) (Z.callV (zint_Sign.sem (Z.own 0 rfl (Bd.fm (Bd.abs (Bd.bezG F0 F1)) (by decide)))  ))
      · intro a x377 e378 x379 e380 W Q Z; exact step_is (fun _ h => op_want rfl rfl rfl e378 h) (run_leq rfl (ev e380) rfl)
      · intro a x382 e383 x384 e385 W Q Z; exact step_is (fun _ h => op_plain rfl rfl h) (run_pickF rfl (ev e383) (ev e385))
      clear Z; intro x333 x335 x340 x342 x344 x349 x354 x356 x361 x364 x367 x371 x376 x381 x386 W Z
      (try simp only [Act.put, List.setIfInBounds_toArray, List.set_cons_zero, List.set_cons_succ])
      show Code.wp _ _ _ _ _
      refine wp_cond_false ((show _ = Value.bool (decide (((bezG (x0) (x1)).sign) ≤ (0))) from rfl).trans (congrArg Value.bool (rests_g h0))) ?_
      refine wp_skip ?_
      show Code.wp _ _ _ _ _
      refine wp_seq ?_
      refine wp_region_list ?_
      refine seq_is (v := .agg #[.bool (b0), .slice a0 len0 cap0]) rfl (run_load2 rfl rfl (Z.bx 8 rfl)) ?_
      (try simp only [Act.put, List.setIfInBounds_toArray, List.set_cons_zero, List.set_cons_succ])
      refine seq_is (v := .agg #[.bool (decide (bezG (x0) (x1) < 0)), x328.1.v]) rfl (run_load2 rfl rfl (Z.bx 2 rfl)) ?_
      (try simp only [Act.put, List.setIfInBounds_toArray, List.set_cons_zero, List.set_cons_succ])
      refine seq_call Z rfl rfl Try.func53 rfl rfl (args2 rfl rfl) (Z.callIi (zint_Exact.sem (N0 _ _ (Z.rd 20 rfl)) (Z.own 3 rfl (Bd.fm (Bd.abs (Bd.bezG F0 F1)) (by decide)))  (Bd.mono F0 (by decide)) (Bd.mono (Bd.bezG F0 F1) (by decide)))) ?_; clear Z; intro x387 W Z
      (try simp only [Act.put, List.setIfInBounds_toArray, List.set_cons_zero, List.set_cons_succ])
      refine seq_is (v := .tuple #[.agg #[.bool (decide (exZ (x0) (bezG (x0) (x1)) < 0)), x387.v], .int .i64 (exE (x0) (bezG (x0) (x1)))]) rfl (run_move rfl rfl) ?_
      (try simp only [Act.put, List.setIfInBounds_toArray, List.set_cons_zero, List.set_cons_succ])
      refine seq_is (v := .agg #[.bool (decide (exZ (x0) (bezG (x0) (x1)) < 0)), x387.v]) rfl (run_extract rfl rfl rfl) ?_
      (try simp only [Act.put, List.setIfInBounds_toArray, List.set_cons_zero, List.set_cons_succ])
      refine seq_is (v := .int .i64 (exE (x0) (bezG (x0) (x1)))) rfl (run_extract rfl rfl rfl) ?_
      (try simp only [Act.put, List.setIfInBounds_toArray, List.set_cons_zero, List.set_cons_succ])
      refine seq_alloc Z rfl rfl ?_; clear Z; intro g388 W Z
      (try simp only [Act.put, List.setIfInBounds_toArray, List.set_cons_zero, List.set_cons_succ])
      refine seq_store Z 0 rfl rfl rfl rfl rfl ?_; clear Z; intro W Z
      (try simp only [Act.put, List.setIfInBounds_toArray, List.set_cons_zero, List.set_cons_succ])
      refine seq_is (v := .int .i64 (exE (x0) (bezG (x0) (x1)))) rfl (run_assign rfl rfl) ?_
      (try simp only [Act.put, List.setIfInBounds_toArray, List.set_cons_zero, List.set_cons_succ])
      show Code.wp _ _ _ _ _
      refine wp_seq ?_
      refine wp_region_list ?_
      refine seq_is (v := .agg #[.bool (b1), .slice a1 len1 cap1]) rfl (run_load2 rfl rfl (Z.bx 8 rfl)) ?_
      (try simp only [Act.put, List.setIfInBounds_toArray, List.set_cons_zero, List.set_cons_succ])
      refine seq_is (v := .agg #[.bool (decide (bezG (x0) (x1) < 0)), x328.1.v]) rfl (run_load2 rfl rfl (Z.bx 3 rfl)) ?_
      (try simp only [Act.put, List.setIfInBounds_toArray, List.set_cons_zero, List.set_cons_succ])
      refine seq_call Z rfl rfl Try.func53 rfl rfl (args2 rfl rfl) (Z.callIi (zint_Exact.sem (N1 _ _ (Z.rd 22 rfl)) (Z.own 4 rfl (Bd.fm (Bd.abs (Bd.bezG F0 F1)) (by decide)))  (Bd.mono F1 (by decide)) (Bd.mono (Bd.bezG F0 F1) (by decide)))) ?_; clear Z; intro x389 W Z
      (try simp only [Act.put, List.setIfInBounds_toArray, List.set_cons_zero, List.set_cons_succ])
      refine seq_is (v := .tuple #[.agg #[.bool (decide (exZ (x1) (bezG (x0) (x1)) < 0)), x389.v], .int .i64 (exE (x1) (bezG (x0) (x1)))]) rfl (run_move rfl rfl) ?_
      (try simp only [Act.put, List.setIfInBounds_toArray, List.set_cons_zero, List.set_cons_succ])
      refine seq_is (v := .agg #[.bool (decide (exZ (x1) (bezG (x0) (x1)) < 0)), x389.v]) rfl (run_extract rfl rfl rfl) ?_
      (try simp only [Act.put, List.setIfInBounds_toArray, List.set_cons_zero, List.set_cons_succ])
      refine seq_is (v := .int .i64 (exE (x1) (bezG (x0) (x1)))) rfl (run_extract rfl rfl rfl) ?_
      (try simp only [Act.put, List.setIfInBounds_toArray, List.set_cons_zero, List.set_cons_succ])
      refine seq_alloc Z rfl rfl ?_; clear Z; intro g390 W Z
      (try simp only [Act.put, List.setIfInBounds_toArray, List.set_cons_zero, List.set_cons_succ])
      refine seq_store Z 0 rfl rfl rfl rfl rfl ?_; clear Z; intro W Z
      (try simp only [Act.put, List.setIfInBounds_toArray, List.set_cons_zero, List.set_cons_succ])
      refine seq_is (v := .int .i64 (exE (x1) (bezG (x0) (x1)))) rfl (run_assign rfl rfl) ?_
      (try simp only [Act.put, List.setIfInBounds_toArray, List.set_cons_zero, List.set_cons_succ])
      show Code.wp _ _ _ _ _
      refine wp_seq ?_
      refine wp_dag (pre := [_, _, _, _, _, _, _, _, _, _, _, _, _, _, _, _, _, _, _, _, _]) (sps := [.is (.int .i64 (exE (x0) (bezG (x0) (x1)))), .is (.bool (decide ((exE (x0) (bezG (x0) (x1))) = (0)))), .is (.bool (decide ((exE (x0) (bezG (x0) (x1))) = (0)))), .is (.int .i64 (exE (x1) (bezG (x0) (x1)))), .is (.bool (decide ((exE (x1) (bezG (x0) (x1))) = (0)))), .is (.bool (decide ((exE (x1) (bezG (x0) (x1))) = (0)))), .is (.bool (decide ((exE (x1) (bezG (x0) (x1))) = (0)))), .is (.agg #[.bool (decide (bezX (x0) (x1) < 0)), x328.2.1.v]), .is (.int .i64 ((bezX (x0) (x1)).sign)), .is (.bool (decide ((0) ≤ ((bezX (x0) (x1)).sign)))), .is (.bool (decide ((0) ≤ ((bezX (x0) (x1)).sign)))), .is (.bool (decide ((0) ≤ ((bezX (x0) (x1)).sign)))), .is (.agg #[.bool (decide (bezX (x0) (x1) < 0)), x328.2.1.v]), .is (.agg #[.bool (decide (bezG (x0) (x1) < 0)), x328.1.v]), spI w ((bezX (x0) (x1)) * (bezG (x0) (x1))), .is (.agg #[.bool (b1), .slice a1 len1 cap1]), spI w ((((x1)).natAbs : Nat)), .is (.int .i64 (cmp ((bezX (x0) (x1)) * (bezG (x0) (x1))) ((((x1)).natAbs : Nat)))), .is (.bool (decide ((cmp ((bezX (x0) (x1)) * (bezG (x0) (x1))) ((((x1)).natAbs : Nat))) < (0)))), .is (.bool (decide ((cmp ((bezX (x0) (x1)) * (bezG (x0) (x1))) ((((x1)).natAbs : Nat))) < (0)))), .is (.bool (decide ((cmp ((bezX (x0) (x1)) * (bezG (x0) (x1))) ((((x1)).natAbs : Nat))) < (0))))]) Z (by kernel_rfl) _ rfl (by kernel_rfl) (by kernel_rfl) rfl ⟨?_, ?_, ?_, ?_, ?_, ?_, ?_, ?_, ?_, ?_, ?_, ?_, ?_, ?_, ?_, ?_, ?_, ?_, ?_, ?_, ?_, trivial⟩ ?_
      · intro a e391 W Q Z; exact step_is (fun _ h => op_plain rfl rfl h) (run_move rfl (ev e391))
      · intro a x393 e394 W Q Z; exact step_is (fun _ h => op_plain rfl rfl h) (run_eqlE rfl (ev e394) rfl)
      · intro a x396 e397 W Q Z; exact step_is (fun _ h => op_plain rfl rfl h) (run_move rfl (ev e397))
      · intro a x399 e400 e401 W Q Z; exact step_is (fun _ h => op_want rfl rfl rfl (e400.trans (congrArg some (congrArg Value.bool (rests_ex1 h0)))) h) (run_move rfl (ev e401))
      · intro a x403 e404 x405 e406 W Q Z; exact step_is (fun _ h => op_want rfl rfl rfl (e404.trans (congrArg some (congrArg Value.bool (rests_ex1 h0)))) h) (run_eqlE rfl (ev e406) rfl)
      · intro a x408 e409 x410 e411 W Q Z; exact step_is (fun _ h => op_plain rfl rfl h) (run_pickT rfl ((show _ = Value.bool (decide ((exE (x0) (bezG (x0) (x1))) = (0))) from (ev e409)).trans (congrArg Value.bool (rests_ex1 h0))) (ev e411))
      · intro a x413 e414 W Q Z; exact step_is (fun _ h => op_plain rfl rfl h) (run_move rfl (ev e414))
      · intro a x416 e417 e418 W Q Z; exact step_is (fun _ h => op_want rfl rfl rfl (e417.trans (congrArg some (congrArg Value.bool (rests_ex2 h0)))) h) (run_load2 rfl (ev e418) (Z.bx 3 rfl))
      · intro a x420 e421 x422 e423 W Q Z; exact step_call (fun _ h => op_want rfl rfl rfl (e421.trans (congrArg some (congrArg Value.bool (rests_ex2 h0)))) h) rfl Try.func36 rfl rfl (args1 (ev e423)) (Z.callV (zint_Sign.sem (Z.own 6 rfl (Bd.fm (Bd.abs (Bd.bezX F1)) (by decide)))  ))
      · intro a x425 e426 x427 e428 W Q Z; exact step_is (fun _ h => op_want rfl rfl rfl (e426.trans (congrArg some (congrArg Value.bool (rests_ex2 h0)))) h) (run_geq rfl (ev e428) rfl)
      · intro a x430 e431 x432 e433 W Q Z; exact step_is (fun _ h => op_plain rfl rfl h) (run_pickT rfl ((show _ = Value.bool (decide ((exE (x1) (bezG (x0) (x1))) = (0))) from (ev e431)).trans (congrArg Value.bool (rests_ex2 h0))) (ev e433))
      · intro a x435 e436 W Q Z; exact step_is (fun _ h => op_plain rfl rfl h) (run_move rfl (ev e436))
      · intro a x438 e439 e440 W Q Z; exact step_is (fun _ h => op_want rfl rfl rfl (e439.trans (congrArg some (congrArg Value.bool (rests_x h0)))) h) (run_load2 rfl (ev e440) (Z.bx 3 rfl))
      · intro a x442 e443 e444 W Q Z; exact step_is (fun _ h => op_want rfl rfl rfl (e443.trans (congrArg some (congrArg Value.bool (rests_x h0)))) h) (run_load2 rfl (ev e444) (Z.bx 4 rfl))
      · intro a x446 e447 x448 e449 x450 e451 W Q Z; exact step_call (fun _ h => op_want rfl rfl rfl (e447.trans (congrArg some (congrArg Value.bool (rests_x h0)))) h) rfl Try.func23 rfl rfl (args2 (ev e449) (ev e451)) (Z.callI (zint_Mul.sem (Z.own 6 rfl (Bd.fm (Bd.abs (Bd.bezX F1)) (by decide))) (Z.own 5 rfl (Bd.fm (Bd.abs (Bd.bezG F0 F1)) (by decide))) (Bd.fm (Bd.mul (Bd.abs (Bd.bezX F1)) (Bd.abs (Bd.bezG F0 F1))) (by decide)) ))
      · intro a x453 e454 e455 W Q Z; exact step_is (fun _ h => op_want rfl rfl rfl (e454.trans (congrArg some (congrArg Value.bool (rests_x h0)))) h) (run_load2 rfl (ev e455) (Z.bx 9 rfl))
      · intro a x457 e458 x459 e460 W Q Z; exact step_call (fun _ h => op_want rfl rfl rfl (e458.trans (congrArg some (congrArg Value.bool (rests_x h0)))) h) rfl Try.func27 rfl rfl (args1 (ev e460)) (Z.callI (zint_Abs.sem (N1 _ _ (Z.rd 23 rfl))  ))
      · intro a x462 e463 x464 e465 x466 e467 W Q Z; exact step_call (fun _ h => op_want rfl rfl rfl (e463.trans (congrArg some (congrArg Value.bool (rests_x h0)))) h) rfl Try.func38 rfl rfl (args2 (ev e465) (ev e467)) (Z.callV (zint_Compare.sem (Z.own 1 rfl (Bd.fm (Bd.abs (Bd.mul (Bd.bezX F1) (Bd.bezG F0 F1))) (by decide))) (Z.own 0 rfl (Bd.fm (Bd.abs (Bd.abs F1)) (by decide)))  ))
      · intro a x469 e470 x471 e472 W Q Z; exact step_is (fun _ h => op_want rfl rfl rfl (e470.trans (congrArg some (congrArg Value.bool (rests_x h0)))) h) (run_lss rfl (ev e472) rfl)
      · intro a x474 e475 x476 e477 W Q Z; exact step_is (fun _ h => op_plain rfl rfl h) (run_pickT rfl ((show _ = Value.bool (decide ((0) ≤ ((bezX (x0) (x1)).sign))) from (ev e475)).trans (congrArg Value.bool (rests_x h0))) (ev e477))
      · intro a x479 e480 W Q Z; exact step_is (fun _ h => op_plain rfl rfl h) (run_assign rfl (ev e480))
      clear Z; intro x392 x395 x398 x402 x407 x412 x415 x419 x424 x429 x434 x437 x441 x445 x452 x456 x461 x468 x473 x478 x481 W Z
      (try simp only [Act.put, List.setIfInBounds_toArray, List.set_cons_zero, List.set_cons_succ])
      show Code.wp _ _ _ _ _
      refine wp_ret ?_
      exact Z.endsV rfl rfl rfl (by first | rfl | exact (congrArg Value.bool (rests_lt h0)) | simp)
    · refine wp_dag (pre := [_, _, _, _, _, _, _, _, _, _, _, _, _, _, _, _, _, _, _, _, _, _, _, _, _, _, _, _, _, _, _, _, _, _, _, _, _]) (sps := [.is (.int .i64 (0)), .is (.bool (decide ((0 : Int) ≠ (0)))), .is (.bool (decide ((0 : Int) ≠ (0)))), .is (.int .i64 (0)), .is (.bool (decide ((0 : Int) ≠ (0)))), .is (.bool (decide ((0 : Int) ≠ (0)))), .is (.bool (decide ((0 : Int) ≠ (0)))), .is (.agg #[.bool (decide ((x0 : Int).fdiv (x1) < 0)), x4.1.v]), .is (.agg #[.bool (b1), .slice a1 len1 cap1]), spI w (((x0 : Int).fdiv (x1)) * (x1)), .is (.agg #[.bool (decide ((x0 : Int).fmod (x1) < 0)), x4.2.v]), spI w ((((x0 : Int).fdiv (x1)) * (x1)) + ((x0 : Int).fmod (x1))), .is (.agg #[.bool (b0), .slice a0 len0 cap0]), spI w ((x0)), .is (.bool (true)), .is (.bool (!(true))), .is (.bool (!(true))), .is (.bool (!(true))), .is (.agg #[.bool (decide ((x0 : Int).fmod (x1) < 0)), x4.2.v]), .is (.int .i64 (((x0 : Int).fmod (x1)).sign)), .is (.bool (decide ((((x0 : Int).fmod (x1)).sign) ≠ (0)))), .is (.bool (decide ((((x0 : Int).fmod (x1)).sign) ≠ (0)))), .is undef, .is undef, .is undef, .is undef, .is undef, .is (.bool (false)), .is (.bool (false)), .is (.bool (false)), .is (.agg #[.bool (decide ((x0 : Int).fmod (x1) < 0)), x4.2.v]), spI w (((((x0 : Int).fmod (x1))).natAbs : Nat)), .is (.agg #[.bool (b1), .slice a1 len1 cap1]), spI w ((((x1)).natAbs : Nat)), .is (.int .i64 (cmp (((((x0 : Int).fmod (x1))).natAbs : Nat)) ((((x1)).natAbs : Nat)))), .is (.bool (decide ((0) ≤ (cmp (((((x0 : Int).fmod (x1))).natAbs : Nat)) ((((x1)).natAbs : Nat)))))), .is (.bool (decide ((0) ≤ (cmp (((((x0 : Int).fmod (x1))).natAbs : Nat)) ((((x1)).natAbs : Nat))))))]) Z (by kernel_rfl) _ rfl (by kernel_rfl) (by kernel_rfl) rfl ⟨?_, ?_, ?_, ?_, ?_, ?_, ?_, ?_, ?_, ?_, ?_, ?_, ?_, ?_, ?_, ?_, ?_, ?_, ?_, ?_, ?_, ?_, ?_, ?_, ?_, ?_, ?_, ?_, ?_, ?_, ?_, ?_, ?_, ?_, ?_, ?_, ?_, trivial⟩ ?_
      · intro a e482 W Q Z; exact step_is (fun _ h => op_plain rfl rfl h) (run_move rfl (ev e482))
      · intro a x484 e485 W Q Z; exact step_is (fun _ h => op_plain rfl rfl h) (run_neqE rfl (ev e485) rfl)
      · intro a x487 e488 W Q Z; exact step_is (fun _ h => op_plain rfl rfl h) (run_move rfl (ev e488))
      · intro a x490 e491 e492 W Q Z; exact step_is (fun _ h => op_want rfl rfl rfl e491 h) (run_move rfl (ev e492))
      · intro a x494 e495 x496 e497 W Q Z; exact step_is (fun _ h => op_want rfl rfl rfl e495 h) (run_neqE rfl (ev e497) rfl)
      · intro a x499 e500 x501 e502 W Q Z; exact step_is (fun _ h => op_plain rfl rfl h) (run_pickF rfl (ev e500) (ev e502))
      · intro a x504 e505 W Q Z; exact step_is (fun _ h => op_plain rfl rfl h) (run_move rfl (ev e505))
      · intro a x507 e508 e509 W Q Z; exact step_is (fun _ h => op_want rfl rfl rfl e508 h) (run_load2 rfl (ev e509) (Z.bx 2 rfl))
      · intro a x511 e512 e513 W Q Z; exact step_is (fun _ h => op_want rfl rfl rfl e512 h) (run_load2 rfl (ev e513) (Z.bx 3 rfl))
      · intro a x515 e516 x517 e518 x519 e520 W Q Z; exact step_call (fun _ h => op_want rfl rfl rfl e516 h) rfl Try.func23 rfl rfl (args2 (ev e518) (ev e520)) (Z.callI (zint_Mul.sem (Z.own 1 rfl (Bd.fm (Bd.abs (fdiv_bd F0)) (by decide))) (N1 _ _ (Z.rd 4 rfl)) (Bd.fm (Bd.mul (Bd.abs (fdiv_bd F0)) (Bd.abs F1)) (by decide)) ))
      · intro a x522 e523 e524 W Q Z; exact step_is (fun _ h => op_want rfl rfl rfl e523 h) (run_load2 rfl (ev e524) (Z.bx 1 rfl))
      · intro a x526 e527 x528 e529 x530 e531 W Q Z; exact step_call (fun _ h => op_want rfl rfl rfl e527 h) rfl Try.func19 rfl rfl (args2 (ev e529) (ev e531)) (Z.callI (zint_Add.sem (Z.own 0 rfl (Bd.fm (Bd.abs (Bd.mul (fdiv_bd F0) F1)) (by decide))) (Z.own 3 rfl (Bd.fm (Bd.abs (fmod_bd (k := 0) h0 F1)) (by decide))) (Bd.fm (Bd.add (Bd.abs (Bd.mul (fdiv_bd F0) F1)) (Bd.abs (fmod_bd (k := 0) h0 F1))) (by decide)) (Bd.fm (Bd.sub (Bd.abs (fmod_bd (k := 0) h0 F1)) (Bd.abs (Bd.mul (fdiv_bd F0) F1))) (by decide)) (Bd.fm (Bd.sub (Bd.abs (Bd.mul (fdiv_bd F0) F1)) (Bd.abs (fmod_bd (k := 0) h0 F1))) (by decide)) ))
      · intro a x533 e534 e535 W Q Z; exact step_is (fun _ h => op_want rfl rfl rfl e534 h) (run_load2 rfl (ev e535) (Z.bx 4 rfl))
      · intro a x537 e538 x539 e540 W Q Z; exact step_call (fun _ h => op_want rfl rfl rfl e538 h) rfl Try.func32 rfl rfl (args1 (ev e540)) (Z.callI (zint_Form.sem (N0 _ _ (Z.rd 3 rfl))  ))
      · intro a x542 e543 x544 e545 x546 e547 W Q Z; exact step_call (fun _ h => op_want rfl rfl rfl e543 h) rfl Try.func16 rfl rfl (args2 (ev e545) (ev e547)) (Z.callV (eqI_same (z1 := (((x0 : Int).fdiv (x1)) * (x1)) + ((x0 : Int).fmod (x1))) (z2 := (x0)) (Z.rdO 1 rfl) (Z.rdO 0 rfl) (Bd.fm (Bd.abs (Bd.add (Bd.mul (fdiv_bd F0) F1) (fmod_bd (k := 0) h0 F1))) (by decide)) rests_sum))
      · intro a x549 e550 x551 e552 W Q Z; exact step_is (fun _ h => op_want rfl rfl rfl e550 h) (run_not rfl (ev e552))
      · intro a x554 e555 x556 e557 W Q Z; exact step_is (fun _ h => op_plain rfl rfl h) (run_pickF rfl (ev e555) (ev e557))
      · intro a x559 e560 W Q Z; exact step_is (fun _ h => op_plain rfl rfl h) (run_move rfl (ev e560))
      · intro a x562 e563 e564 W Q Z; exact step_is (fun _ h => op_want rfl rfl rfl e563 h) (run_load2 rfl (ev e564) (Z.bx 1 rfl))
      · intro a x566 e567 x568 e569 W Q Z; exact step_call (fun _ h => op_want rfl rfl rfl e567 h) rfl Try.func36 rfl rfl (args1 (ev e569)) (Z.callV (zint_Sign.sem (Z.own 2 rfl (Bd.fm (Bd.abs (fmod_bd (k := 0) h0 F1)) (by decide)))  ))
      · intro a x571 e572 x573 e574 W Q Z; exact step_is (fun _ h => op_want rfl rfl rfl e572 h) (run_neq rfl (ev e574) rfl)
      · intro a x576 e577 x578 e579 W Q Z; exact step_is (fun _ h => op_want rfl rfl rfl e577 h) (run_move rfl (ev e579))
      · intro a x581 e582 e583 W Q Z; exact step_un rfl rfl rfl (e582.trans (congrArg some (congrArg Value.bool hk112))) (by decide)
      · intro a x585 e586 x587 e588 W Q Z; exact step_un rfl rfl rfl (e586.trans (congrArg some (congrArg Value.bool hk112))) (by decide)
      · intro a x590 e591 e592 W Q Z; exact step_un rfl rfl rfl (e591.trans (congrArg some (congrArg Value.bool hk112))) (by decide)
      · intro a x594 e595 x596 e597 W Q Z; exact step_un rfl rfl rfl (e595.trans (congrArg some (congrArg Value.bool hk112))) (by decide)
      · intro a x599 e600 x601 e602 x603 e604 W Q Z; exact step_un rfl rfl rfl (e600.trans (congrArg some (congrArg Value.bool hk112))) (by decide)
      · intro a x606 e607 x608 e609 x610 e611 W Q Z; exact step_is (fun _ h => op_want rfl rfl rfl e607 h) (run_pickF rfl ((show _ = Value.bool (decide ((((x0 : Int).fmod (x1)).sign) ≠ (0))) from (ev e609)).trans (congrArg Value.bool hk112)) rfl)
      · intro a x613 e614 x615 e616 W Q Z; exact step_is (fun _ h => op_plain rfl rfl h) (run_pickF rfl (ev e614) (ev e616))
      · intro a x618 e619 W Q Z; exact step_is (fun _ h => op_plain rfl rfl h) (run_move rfl (ev e619))
      · intro a x621 e622 e623 W Q Z; exact step_is (fun _ h => op_want rfl rfl rfl e622 h) (run_load2 rfl (ev e623) (Z.bx 1 rfl))
      · intro a x625 e626 x627 e628 W Q Z; exact step_call (fun _ h => op_want rfl rfl rfl e626 h) rfl Try.func27 rfl rfl (args1 (ev e628)) (Z.callI (zint_Abs.sem (Z.own 2 rfl (Bd.fm (Bd.abs (fmod_bd (k := 0) h0 F1)) (by decide)))  ))
      · intro a x630 e631 e632 W Q Z; exact step_is (fun _ h => op_want rfl rfl rfl e631 h) (run_load2 rfl (ev e632) (Z.bx 3 rfl))
      · intro a x634 e635 x636 e637 W Q Z; exact step_call (fun _ h => op_want rfl rfl rfl e635 h) rfl Try.func27 rfl rfl (args1 (ev e637)) (Z.callI (zint_Abs.sem (N1 _ _ (Z.rd 4 rfl))  ))
      · intro a x639 e640 x641 e642 x643 e644 W Q Z; exact step_call (fun _ h => op_want rfl rfl rfl e640 h) rfl Try.func38 rfl rfl (args2 (ev e642) (ev e644)) (Z.callV (zint_Compare.sem (Z.own 1 rfl (Bd.fm (Bd.abs (Bd.abs (fmod_bd (k := 0) h0 F1))) (by decide))) (Z.own 0 rfl (Bd.fm (Bd.abs (Bd.abs F1)) (by decide)))  ))
      · intro a x646 e647 x648 e649 W Q Z; exact step_is (fun _ h => op_want rfl rfl rfl e647 h) (run_geq rfl (ev e649) rfl)
      · intro a x651 e652 x653 e654 W Q Z; exact step_is (fun _ h => op_plain rfl rfl h) (run_pickF rfl (ev e652) (ev e654))
      clear Z; intro x483 x486 x489 x493 x498 x503 x506 x510 x514 x521 x525 x532 x536 x541 x548 x553 x558 x561 x565 x570 x575 x580 x584 x589 x593 x598 x605 x612 x617 x620 x624 x629 x633 x638 x645 x650 x655 W Z
      (try simp only [Act.put, List.setIfInBounds_toArray, List.set_cons_zero, List.set_cons_succ])
      show Code.wp _ _ _ _ _
      refine wp_cond_false ((show _ = Value.bool (decide ((0) ≤ (cmp (((((x0 : Int).fmod (x1))).natAbs : Nat)) ((((x1)).natAbs : Nat))))) from rfl).trans (congrArg Value.bool (rests_cmp h0))) ?_
      refine wp_skip ?_
      show Code.wp _ _ _ _ _
      refine wp_seq ?_
      refine wp_dag (pre := [_, _, _, _, _, _, _, _, _]) (sps := [spI w ((2 : Int)), .is (.agg #[.bool (decide (nearZ (x0) (x1) < 0)), x7.v]), .is (.agg #[.bool (b1), .slice a1 len1 cap1]), spI w ((nearZ (x0) (x1)) * (x1)), .is (.agg #[.bool (b0), .slice a0 len0 cap0]), spI w (((nearZ (x0) (x1)) * (x1)) - (x0)), spI w ((((((nearZ (x0) (x1)) * (x1)) - (x0))).natAbs : Nat)), spI w (((2 : Int)) * ((((((nearZ (x0) (x1)) * (x1)) - (x0))).natAbs : Nat))), .box 25 #[.bool false, .slice none 0 0]]) Z (by kernel_rfl) _ rfl (by kernel_rfl) (by kernel_rfl) rfl ⟨?_, ?_, ?_, ?_, ?_, ?_, ?_, ?_, ?_, trivial⟩ ?_
      · intro a W Q Z; exact step_call (fun _ h => op_plain rfl rfl h) rfl Try.func30 rfl rfl (args1 rfl) (Z.callI (zint_Of.sem (by omega) (by omega)))
      · intro a e657 W Q Z; exact step_is (fun _ h => op_plain rfl rfl h) (run_load2 rfl (ev e657) (Z.bx 0 rfl))
      · intro a e659 W Q Z; exact step_is (fun _ h => op_plain rfl rfl h) (run_load2 rfl (ev e659) (Z.bx 3 rfl))
      · intro a x661 e662 x663 e664 W Q Z; exact step_call (fun _ h => op_plain rfl rfl h) rfl Try.func23 rfl rfl (args2 (ev e662) (ev e664)) (Z.callI (zint_Mul.sem (Z.own 5 rfl (Bd.fm (Bd.abs (Bd.near F0 F1)) (by decide))) (N1 _ _ (Z.rd 9 rfl)) (Bd.fm (Bd.mul (Bd.abs (Bd.near F0 F1)) (Bd.abs F1)) (by decide)) ))
      · intro a e666 W Q Z; exact step_is (fun _ h => op_plain rfl rfl h) (run_load2 rfl (ev e666) (Z.bx 4 rfl))
      · intro a x668 e669 x670 e671 W Q Z; exact step_call (fun _ h => op_plain rfl rfl h) rfl Try.func21 rfl rfl (args2 (ev e669) (ev e671)) (Z.callI (zint_Sub.sem (Z.own 0 rfl (Bd.fm (Bd.abs (Bd.mul (Bd.near F0 F1) F1)) (by decide))) (N0 _ _ (Z.rd 9 rfl)) (Bd.fm (Bd.abs (Bd.neg F0)) (by decide)) (Bd.fm (Bd.add (Bd.abs (Bd.mul (Bd.near F0 F1) F1)) (Bd.abs (Bd.neg F0))) (by decide)) (Bd.fm (Bd.sub (Bd.abs (Bd.neg F0)) (Bd.abs (Bd.mul (Bd.near F0 F1) F1))) (by decide)) (Bd.fm (Bd.sub (Bd.abs (Bd.mul (Bd.near F0 F1) F1)) (Bd.abs (Bd.neg F0))) (by decide)) ))
      · intro a x673 e674 W Q Z; exact step_call (fun _ h => op_plain rfl rfl h) rfl Try.func27 rfl rfl (args1 (ev e674)) (Z.callI (zint_Abs.sem (Z.own 0 rfl (Bd.fm (Bd.abs (Bd.sub (Bd.mul (Bd.near F0 F1) F1) F0)) (by decide)))  ))
      · intro a x676 e677 x678 e679 W Q Z; exact step_call (fun _ h => op_plain rfl rfl h) rfl Try.func23 rfl rfl (args2 (ev e677) (ev e679)) (Z.callI (zint_Mul.sem (Z.own 1 rfl (Bd.fm (Bd.abs (Bd.lit (k := 64) (z := 2) (by decide))) (by decide))) (Z.own 0 rfl (Bd.fm (Bd.abs (Bd.abs (Bd.sub (Bd.mul (Bd.near F0 F1) F1) F0))) (by decide))) (Bd.fm (Bd.mul (Bd.abs (Bd.lit (k := 64) (z := 2) (by decide))) (Bd.abs (Bd.abs (Bd.sub (Bd.mul (Bd.near F0 F1) F1) F0)))) (by decide)) ))
      · intro a W Q Z; exact step_box (fun _ h => op_plain rfl rfl h) (by decide) (run_alloc2 rfl)
      clear Z; intro x656 x658 x660 x665 x667 x672 x675 x680 g681 W Z
      (try simp only [Act.put, List.setIfInBounds_toArray, List.set_cons_zero, List.set_cons_succ])
      refine seq_store Z 0 rfl rfl rfl rfl rfl ?_; clear Z; intro W Z
      (try simp only [Act.put, List.setIfInBounds_toArray, List.set_cons_zero, List.set_cons_succ])
      show Code.wp _ _ _ _ _
      refine wp_seq ?_
      refine wp_seq ?_
      refine wp_dag (pre := [_, _, _, _, _]) (sps := [.is (.agg #[.bool (decide (((2 : Int)) * ((((((nearZ (x0) (x1)) * (x1)) - (x0))).natAbs : Nat)) < 0)), x680.v]), .is (.agg #[.bool (b1), .slice a1 len1 cap1]), spI w ((((x1)).natAbs : Nat)), .is (.int .i64 (cmp (((2 : Int)) * ((((((nearZ (x0) (x1)) * (x1)) - (x0))).natAbs : Nat))) ((((x1)).natAbs : Nat)))), .is (.bool (decide ((0) < (cmp (((2 : Int)) * ((((((nearZ (x0) (x1)) * (x1)) - (x0))).natAbs : Nat))) ((((x1)).natAbs : Nat))))))]) Z (by kernel_rfl) _ rfl (by kernel_rfl) (by kernel_rfl) rfl ⟨?_, ?_, ?_, ?_, ?_, trivial⟩ ?_
      · intro a e682 W Q Z; exact step_is (fun _ h => op_plain rfl rfl h) (run_load2 rfl (ev e682) (Z.bx 0 rfl))
      · intro a e684 W Q Z; exact step_is (fun _ h => op_plain rfl rfl h) (run_load2 rfl (ev e684) (Z.bx 4 rfl))
      · intro a x686 e687 W Q Z; exact step_call (fun _ h => op_plain rfl rfl h) rfl Try.func27 rfl rfl (args1 (ev e687)) (Z.callI (zint_Abs.sem (N1 _ _ (Z.rd 14 rfl))  ))
      · intro a x689 e690 x691 e692 W Q Z; exact step_call (fun _ h => op_plain rfl rfl h) rfl Try.func38 rfl rfl (args2 (ev e690) (ev e692)) (Z.callV (zint_Compare.sem (Z.own 1 rfl (Bd.fm (Bd.abs (Bd.mul (Bd.lit (k := 64) (z := 2) (by decide)) (Bd.abs (Bd.sub (Bd.mul (Bd.near F0 F1) F1) F0)))) (by decide))) (Z.own 0 rfl (Bd.fm (Bd.abs (Bd.abs F1)) (by decide)))  ))
      · intro a x694 e695 W Q Z; exact step_is (fun _ h => op_plain rfl rfl h) (run_gtr rfl (ev e695) rfl)
      clear Z; intro x683 x685 x688 x693 x696 W Z
      (try simp only [Act.put, List.setIfInBounds_toArray, List.set_cons_zero, List.set_cons_succ])
      show Code.wp _ _ _ _ _
      refine wp_cond_false ((show _ = Value.bool (decide ((0) < (cmp (((2 : Int)) * ((((((nearZ (x0) (x1)) * (x1)) - (x0))).natAbs : Nat))) ((((x1)).natAbs : Nat))))) from rfl).trans (congrArg Value.bool (rests_half h0))) ?_
      refine wp_skip ?_
      show Code.wp _ _ _ _ _
      refine wp_seq ?_
      refine wp_region_list ?_
      refine seq_is (v := .agg #[.bool (b0), .slice a0 len0 cap0]) rfl (run_load2 rfl rfl (Z.bx 5 rfl)) ?_
      (try simp only [Act.put, List.setIfInBounds_toArray, List.set_cons_zero, List.set_cons_succ])
      refine seq_is (v := .agg #[.bool (b1), .slice a1 len1 cap1]) rfl (run_load2 rfl rfl (Z.bx 4 rfl)) ?_
      (try simp only [Act.put, List.setIfInBounds_toArray, List.set_cons_zero, List.set_cons_succ])
      refine seq_call Z rfl rfl Try.func59 rfl rfl (args2 rfl rfl) (Z.callIII (zint_Bezout.sem (N0 _ _ (Z.rd 14 rfl)) (N1 _ _ (Z.rd 15 rfl))  (Bd.mono F0 (by decide)) (Bd.mono F1 (by decide)))) ?_; clear Z; intro x697 W Z
      (try simp only [Act.put, List.setIfInBounds_toArray, List.set_cons_zero, List.set_cons_succ])
      refine seq_is (v := .tuple #[.agg #[.bool (decide (bezG (x0) (x1) < 0)), x697.1.v], .agg #[.bool (decide (bezX (x0) (x1) < 0)), x697.2.1.v], .agg #[.bool (decide (bezY (x0) (x1) < 0)), x697.2.2.v]]) rfl (run_move rfl rfl) ?_
      (try simp only [Act.put, List.setIfInBounds_toArray, List.set_cons_zero, List.set_cons_succ])
      refine seq_is (v := .agg #[.bool (decide (bezG (x0) (x1) < 0)), x697.1.v]) rfl (run_extract rfl rfl rfl) ?_
      (try simp only [Act.put, List.setIfInBounds_toArray, List.set_cons_zero, List.set_cons_succ])
      refine seq_is (v := .agg #[.bool (decide (bezX (x0) (x1) < 0)), x697.2.1.v]) rfl (run_extract rfl rfl rfl) ?_
      (try simp only [Act.put, List.setIfInBounds_toArray, List.set_cons_zero, List.set_cons_succ])
      refine seq_is (v := .agg #[.bool (decide (bezY (x0) (x1) < 0)), x697.2.2.v]) rfl (run_extract rfl rfl rfl) ?_
      (try simp only [Act.put, List.setIfInBounds_toArray, List.set_cons_zero, List.set_cons_succ])
      refine seq_alloc Z rfl rfl ?_; clear Z; intro g698 W Z
      (try simp only [Act.put, List.setIfInBounds_toArray, List.set_cons_zero, List.set_cons_succ])
      refine seq_alloc Z rfl rfl ?_; clear Z; intro g699 W Z
      (try simp only [Act.put, List.setIfInBounds_toArray, List.set_cons_zero, List.set_cons_succ])
      refine seq_alloc Z rfl rfl ?_; clear Z; intro g700 W Z
      (try simp only [Act.put, List.setIfInBounds_toArray, List.set_cons_zero, List.set_cons_succ])
      refine seq_store Z 2 rfl rfl rfl rfl rfl ?_; clear Z; intro W Z
      (try simp only [Act.put, List.setIfInBounds_toArray, List.set_cons_zero, List.set_cons_succ])
      refine seq_store Z 1 rfl rfl rfl rfl rfl ?_; clear Z; intro W Z
      (try simp only [Act.put, List.setIfInBounds_toArray, List.set_cons_zero, List.set_cons_succ])
      refine seq_store Z 0 rfl rfl rfl rfl rfl ?_; clear Z; intro W Z
      (try simp only [Act.put, List.setIfInBounds_toArray, List.set_cons_zero, List.set_cons_succ])
      show Code.wp _ _ _ _ _
      refine wp_seq ?_
      refine wp_seq ?_
      refine wp_dag (pre := [_, _, _, _, _, _, _, _, _, _, _, _, _, _, _]) (sps := [.is (.agg #[.bool (decide (bezX (x0) (x1) < 0)), x697.2.1.v]), .is (.agg #[.bool (b0), .slice a0 len0 cap0]), spI w ((bezX (x0) (x1)) * (x0)), .is (.agg #[.bool (decide (bezY (x0) (x1) < 0)), x697.2.2.v]), .is (.agg #[.bool (b1), .slice a1 len1 cap1]), spI w ((bezY (x0) (x1)) * (x1)), spI w (((bezX (x0) (x1)) * (x0)) + ((bezY (x0) (x1)) * (x1))), .is (.agg #[.bool (decide (bezG (x0) (x1) < 0)), x697.1.v]), .is (.bool (true)), .is (.bool (!(true))), .is (.bool (!(true))), .is (.agg #[.bool (decide (bezG (x0) (x1) < 0)), x697.1.v]), .is (.int .i64 ((bezG (x0) (x1)).sign)), .is (.bool (decide (((bezG (x0) (x1)).sign) ≤ (0)))), .is (.bool (decide (((bezG (x0) (x1)).sign) ≤ (0))))]) Z (by kernel_rfl) _ rfl (by kernel_rfl) (by kernel_rfl) rfl ⟨?_, ?_, ?_, ?_, ?_, ?_, ?_, ?_, ?_, ?_, ?_, ?_, ?_, ?_, ?_, trivial⟩ ?_
      · intro a e701 W Q Z; exact step_is (fun _ h => op_plain rfl rfl h) (run_load2 rfl (ev e701) (Z.bx 1 rfl))
      · intro a e703 W Q Z; exact step_is (fun _ h => op_plain rfl rfl h) (run_load2 rfl (ev e703) (Z.bx 8 rfl))
      · intro a x705 e706 x707 e708 W Q Z; exact step_call (fun _ h => op_plain rfl rfl h) rfl Try.func23 rfl rfl (args2 (ev e706) (ev e708)) (Z.callI (zint_Mul.sem (Z.own 1 rfl (Bd.fm (Bd.abs (Bd.bezX F1)) (by decide))) (N0 _ _ (Z.rd 17 rfl)) (Bd.fm (Bd.mul (Bd.abs (Bd.bezX F1)) (Bd.abs F0)) (by decide)) ))
      · intro a e710 W Q Z; exact step_is (fun _ h => op_plain rfl rfl h) (run_load2 rfl (ev e710) (Z.bx 0 rfl))
      · intro a e712 W Q Z; exact step_is (fun _ h => op_plain rfl rfl h) (run_load2 rfl (ev e712) (Z.bx 7 rfl))
      · intro a x714 e715 x716 e717 W Q Z; exact step_call (fun _ h => op_plain rfl rfl h) rfl Try.func23 rfl rfl (args2 (ev e715) (ev e717)) (Z.callI (zint_Mul.sem (Z.own 2 rfl (Bd.fm (Bd.abs (Bd.bezY F0 F1)) (by decide))) (N1 _ _ (Z.rd 18 rfl)) (Bd.fm (Bd.mul (Bd.abs (Bd.bezY F0 F1)) (Bd.abs F1)) (by decide)) ))
      · intro a x719 e720 x721 e722 W Q Z; exact step_call (fun _ h => op_plain rfl rfl h) rfl Try.func19 rfl rfl (args2 (ev e720) (ev e722)) (Z.callI (zint_Add.sem (Z.own 1 rfl (Bd.fm (Bd.abs (Bd.mul (Bd.bezX F1) F0)) (by decide))) (Z.own 0 rfl (Bd.fm (Bd.abs (Bd.mul (Bd.bezY F0 F1) F1)) (by decide))) (Bd.fm (Bd.add (Bd.abs (Bd.mul (Bd.bezX F1) F0)) (Bd.abs (Bd.mul (Bd.bezY F0 F1) F1))) (by decide)) (Bd.fm (Bd.sub (Bd.abs (Bd.mul (Bd.bezY F0 F1) F1)) (Bd.abs (Bd.mul (Bd.bezX F1) F0))) (by decide)) (Bd.fm (Bd.sub (Bd.abs (Bd.mul (Bd.bezX F1) F0)) (Bd.abs (Bd.mul (Bd.bezY F0 F1) F1))) (by decide)) ))
      · intro a e724 W Q Z; exact step_is (fun _ h => op_plain rfl rfl h) (run_load2 rfl (ev e724) (Z.bx 2 rfl))
      · intro a x726 e727 x728 e729 W Q Z; exact step_call (fun _ h => op_plain rfl rfl h) rfl Try.func16 rfl rfl (args2 (ev e727) (ev e729)) (Z.callV (eqI_same (z1 := ((bezX (x0) (x1)) * (x0)) + ((bezY (x0) (x1)) * (x1))) (z2 := bezG (x0) (x1)) (Z.rdO 0 rfl) (Z.rdO 1 rfl) (Bd.fm (Bd.abs (Bd.add (Bd.mul (Bd.bezX F1) F0) (Bd.mul (Bd.bezY F0 F1) F1))) (by decide)) (bez_law h0).1))
      · intro a x731 e732 W Q Z; exact step_is (fun _ h => op_plain rfl rfl h) (run_not rfl (ev e732))
      · intro a x734 e735 W Q Z; exact step_is (fun _ h => op_plain rfl rfl h) (run_move rfl (ev e735))
      · intro a x737 e738 e739 W Q Z; exact step_is (fun _ h => op_want rfl rfl rfl e738 h) (run_load2 rfl (ev e739) (Z.bx 2 rfl))
      · intro a x741 e742 x743 e744 W Q Z; exact step_call (fun _ h => op_want rfl rfl rfl e742 h) rfl Try.func36 rfl rfl (args1 (ev e744)) (Z.callV (zint_Sign.sem (Z.own 0 rfl (Bd.fm (Bd.abs (Bd.bezG F0 F1)) (by decide)))  ))
      · intro a x746 e747 x748 e749 W Q Z; exact step_is (fun _ h => op_want rfl rfl rfl e747 h) (run_leq rfl (ev e749) rfl)
      · intro a x751 e752 x753 e754 W Q Z; exact step_is (fun _ h => op_plain rfl rfl h) (run_pickF rfl (ev e752) (ev e754))
      clear Z; intro x702 x704 x709 x711 x713 x718 x723 x725 x730 x733 x736 x740 x745 x750 x755 W Z
      (try simp only [Act.put, List.setIfInBounds_toArray, List.set_cons_zero, List.set_cons_succ])
      show Code.wp _ _ _ _ _
      refine wp_cond_false ((show _ = Value.bool (decide (((bezG (x0) (x1)).sign) ≤ (0))) from rfl).trans (congrArg Value.bool (rests_g h0))) ?_
      refine wp_skip ?_
      show Code.wp _ _ _ _ _
      refine wp_seq ?_
      refine wp_region_list ?_
      refine seq_is (v := .agg #[.bool (b0), .slice a0 len0 cap0]) rfl (run_load2 rfl rfl (Z.bx 8 rfl)) ?_
      (try simp only [Act.put, List.setIfInBounds_toArray, List.set_cons_zero, List.set_cons_succ])
      refine seq_is (v := .agg #[.bool (decide (bezG (x0) (x1) < 0)), x697.1.v]) rfl (run_load2 rfl rfl (Z.bx 2 rfl)) ?_
      (try simp only [Act.put, List.setIfInBounds_toArray, List.set_cons_zero, List.set_cons_succ])
      refine seq_call Z rfl rfl Try.func53 rfl rfl (args2 rfl rfl) (Z.callIi (zint_Exact.sem (N0 _ _ (Z.rd 20 rfl)) (Z.own 3 rfl (Bd.fm (Bd.abs (Bd.bezG F0 F1)) (by decide)))  (Bd.mono F0 (by decide)) (Bd.mono (Bd.bezG F0 F1) (by decide)))) ?_; clear Z; intro x756 W Z
      (try simp only [Act.put, List.setIfInBounds_toArray, List.set_cons_zero, List.set_cons_succ])
      refine seq_is (v := .tuple #[.agg #[.bool (decide (exZ (x0) (bezG (x0) (x1)) < 0)), x756.v], .int .i64 (exE (x0) (bezG (x0) (x1)))]) rfl (run_move rfl rfl) ?_
      (try simp only [Act.put, List.setIfInBounds_toArray, List.set_cons_zero, List.set_cons_succ])
      refine seq_is (v := .agg #[.bool (decide (exZ (x0) (bezG (x0) (x1)) < 0)), x756.v]) rfl (run_extract rfl rfl rfl) ?_
      (try simp only [Act.put, List.setIfInBounds_toArray, List.set_cons_zero, List.set_cons_succ])
      refine seq_is (v := .int .i64 (exE (x0) (bezG (x0) (x1)))) rfl (run_extract rfl rfl rfl) ?_
      (try simp only [Act.put, List.setIfInBounds_toArray, List.set_cons_zero, List.set_cons_succ])
      refine seq_alloc Z rfl rfl ?_; clear Z; intro g757 W Z
      (try simp only [Act.put, List.setIfInBounds_toArray, List.set_cons_zero, List.set_cons_succ])
      refine seq_store Z 0 rfl rfl rfl rfl rfl ?_; clear Z; intro W Z
      (try simp only [Act.put, List.setIfInBounds_toArray, List.set_cons_zero, List.set_cons_succ])
      refine seq_is (v := .int .i64 (exE (x0) (bezG (x0) (x1)))) rfl (run_assign rfl rfl) ?_
      (try simp only [Act.put, List.setIfInBounds_toArray, List.set_cons_zero, List.set_cons_succ])
      show Code.wp _ _ _ _ _
      refine wp_seq ?_
      refine wp_region_list ?_
      refine seq_is (v := .agg #[.bool (b1), .slice a1 len1 cap1]) rfl (run_load2 rfl rfl (Z.bx 8 rfl)) ?_
      (try simp only [Act.put, List.setIfInBounds_toArray, List.set_cons_zero, List.set_cons_succ])
      refine seq_is (v := .agg #[.bool (decide (bezG (x0) (x1) < 0)), x697.1.v]) rfl (run_load2 rfl rfl (Z.bx 3 rfl)) ?_
      (try simp only [Act.put, List.setIfInBounds_toArray, List.set_cons_zero, List.set_cons_succ])
      refine seq_call Z rfl rfl Try.func53 rfl rfl (args2 rfl rfl) (Z.callIi (zint_Exact.sem (N1 _ _ (Z.rd 22 rfl)) (Z.own 4 rfl (Bd.fm (Bd.abs (Bd.bezG F0 F1)) (by decide)))  (Bd.mono F1 (by decide)) (Bd.mono (Bd.bezG F0 F1) (by decide)))) ?_; clear Z; intro x758 W Z
      (try simp only [Act.put, List.setIfInBounds_toArray, List.set_cons_zero, List.set_cons_succ])
      refine seq_is (v := .tuple #[.agg #[.bool (decide (exZ (x1) (bezG (x0) (x1)) < 0)), x758.v], .int .i64 (exE (x1) (bezG (x0) (x1)))]) rfl (run_move rfl rfl) ?_
      (try simp only [Act.put, List.setIfInBounds_toArray, List.set_cons_zero, List.set_cons_succ])
      refine seq_is (v := .agg #[.bool (decide (exZ (x1) (bezG (x0) (x1)) < 0)), x758.v]) rfl (run_extract rfl rfl rfl) ?_
      (try simp only [Act.put, List.setIfInBounds_toArray, List.set_cons_zero, List.set_cons_succ])
      refine seq_is (v := .int .i64 (exE (x1) (bezG (x0) (x1)))) rfl (run_extract rfl rfl rfl) ?_
      (try simp only [Act.put, List.setIfInBounds_toArray, List.set_cons_zero, List.set_cons_succ])
      refine seq_alloc Z rfl rfl ?_; clear Z; intro g759 W Z
      (try simp only [Act.put, List.setIfInBounds_toArray, List.set_cons_zero, List.set_cons_succ])
      refine seq_store Z 0 rfl rfl rfl rfl rfl ?_; clear Z; intro W Z
      (try simp only [Act.put, List.setIfInBounds_toArray, List.set_cons_zero, List.set_cons_succ])
      refine seq_is (v := .int .i64 (exE (x1) (bezG (x0) (x1)))) rfl (run_assign rfl rfl) ?_
      (try simp only [Act.put, List.setIfInBounds_toArray, List.set_cons_zero, List.set_cons_succ])
      show Code.wp _ _ _ _ _
      refine wp_seq ?_
      refine wp_dag (pre := [_, _, _, _, _, _, _, _, _, _, _, _, _, _, _, _, _, _, _, _, _]) (sps := [.is (.int .i64 (exE (x0) (bezG (x0) (x1)))), .is (.bool (decide ((exE (x0) (bezG (x0) (x1))) = (0)))), .is (.bool (decide ((exE (x0) (bezG (x0) (x1))) = (0)))), .is (.int .i64 (exE (x1) (bezG (x0) (x1)))), .is (.bool (decide ((exE (x1) (bezG (x0) (x1))) = (0)))), .is (.bool (decide ((exE (x1) (bezG (x0) (x1))) = (0)))), .is (.bool (decide ((exE (x1) (bezG (x0) (x1))) = (0)))), .is (.agg #[.bool (decide (bezX (x0) (x1) < 0)), x697.2.1.v]), .is (.int .i64 ((bezX (x0) (x1)).sign)), .is (.bool (decide ((0) ≤ ((bezX (x0) (x1)).sign)))), .is (.bool (decide ((0) ≤ ((bezX (x0) (x1)).sign)))), .is (.bool (decide ((0) ≤ ((bezX (x0) (x1)).sign)))), .is (.agg #[.bool (decide (bezX (x0) (x1) < 0)), x697.2.1.v]), .is (.agg #[.bool (decide (bezG (x0) (x1) < 0)), x697.1.v]), spI w ((bezX (x0) (x1)) * (bezG (x0) (x1))), .is (.agg #[.bool (b1), .slice a1 len1 cap1]), spI w ((((x1)).natAbs : Nat)), .is (.int .i64 (cmp ((bezX (x0) (x1)) * (bezG (x0) (x1))) ((((x1)).natAbs : Nat)))), .is (.bool (decide ((cmp ((bezX (x0) (x1)) * (bezG (x0) (x1))) ((((x1)).natAbs : Nat))) < (0)))), .is (.bool (decide ((cmp ((bezX (x0) (x1)) * (bezG (x0) (x1))) ((((x1)).natAbs : Nat))) < (0)))), .is (.bool (decide ((cmp ((bezX (x0) (x1)) * (bezG (x0) (x1))) ((((x1)).natAbs : Nat))) < (0))))]) Z (by kernel_rfl) _ rfl (by kernel_rfl) (by kernel_rfl) rfl ⟨?_, ?_, ?_, ?_, ?_, ?_, ?_, ?_, ?_, ?_, ?_, ?_, ?_, ?_, ?_, ?_, ?_, ?_, ?_, ?_, ?_, trivial⟩ ?_
      · intro a e760 W Q Z; exact step_is (fun _ h => op_plain rfl rfl h) (run_move rfl (ev e760))
      · intro a x762 e763 W Q Z; exact step_is (fun _ h => op_plain rfl rfl h) (run_eqlE rfl (ev e763) rfl)
      · intro a x765 e766 W Q Z; exact step_is (fun _ h => op_plain rfl rfl h) (run_move rfl (ev e766))
      · intro a x768 e769 e770 W Q Z; exact step_is (fun _ h => op_want rfl rfl rfl (e769.trans (congrArg some (congrArg Value.bool (rests_ex1 h0)))) h) (run_move rfl (ev e770))
      · intro a x772 e773 x774 e775 W Q Z; exact step_is (fun _ h => op_want rfl rfl rfl (e773.trans (congrArg some (congrArg Value.bool (rests_ex1 h0)))) h) (run_eqlE rfl (ev e775) rfl)
      · intro a x777 e778 x779 e780 W Q Z; exact step_is (fun _ h => op_plain rfl rfl h) (run_pickT rfl ((show _ = Value.bool (decide ((exE (x0) (bezG (x0) (x1))) = (0))) from (ev e778)).trans (congrArg Value.bool (rests_ex1 h0))) (ev e780))
      · intro a x782 e783 W Q Z; exact step_is (fun _ h => op_plain rfl rfl h) (run_move rfl (ev e783))
      · intro a x785 e786 e787 W Q Z; exact step_is (fun _ h => op_want rfl rfl rfl (e786.trans (congrArg some (congrArg Value.bool (rests_ex2 h0)))) h) (run_load2 rfl (ev e787) (Z.bx 3 rfl))
      · intro a x789 e790 x791 e792 W Q Z; exact step_call (fun _ h => op_want rfl rfl rfl (e790.trans (congrArg some (congrArg Value.bool (rests_ex2 h0)))) h) rfl Try.func36 rfl rfl (args1 (ev e792)) (Z.callV (zint_Sign.sem (Z.own 6 rfl (Bd.fm (Bd.abs (Bd.bezX F1)) (by decide)))  ))
      · intro a x794 e795 x796 e797 W Q Z; exact step_is (fun _ h => op_want rfl rfl rfl (e795.trans (congrArg some (congrArg Value.bool (rests_ex2 h0)))) h) (run_geq rfl (ev e797) rfl)
      · intro a x799 e800 x801 e802 W Q Z; exact step_is (fun _ h => op_plain rfl rfl h) (run_pickT rfl ((show _ = Value.bool (decide ((exE (x1) (bezG (x0) (x1))) = (0))) from (ev e800)).trans (congrArg Value.bool (rests_ex2 h0))) (ev e802))
      · intro a x804 e805 W Q Z; exact step_is (fun _ h => op_plain rfl rfl h) (run_move rfl (ev e805))
      · intro a x807 e808 e809 W Q Z; exact step_is (fun _ h => op_want rfl rfl rfl (e808.trans (congrArg some (congrArg Value.bool (rests_x h0)))) h) (run_load2 rfl (ev e809) (Z.bx 3 rfl))
      · intro a x811 e812 e813 W Q Z; exact step_is (fun _ h => op_want rfl rfl rfl (e812.trans (congrArg some (congrArg Value.bool (rests_x h0)))) h) (run_load2 rfl (ev e813) (Z.bx 4 rfl))
      · intro a x815 e816 x817 e818 x819 e820 W Q Z; exact step_call (fun _ h => op_want rfl rfl rfl (e816.trans (congrArg some (congrArg Value.bool (rests_x h0)))) h) rfl Try.func23 rfl rfl (args2 (ev e818) (ev e820)) (Z.callI (zint_Mul.sem (Z.own 6 rfl (Bd.fm (Bd.abs (Bd.bezX F1)) (by decide))) (Z.own 5 rfl (Bd.fm (Bd.abs (Bd.bezG F0 F1)) (by decide))) (Bd.fm (Bd.mul (Bd.abs (Bd.bezX F1)) (Bd.abs (Bd.bezG F0 F1))) (by decide)) ))
      · intro a x822 e823 e824 W Q Z; exact step_is (fun _ h => op_want rfl rfl rfl (e823.trans (congrArg some (congrArg Value.bool (rests_x h0)))) h) (run_load2 rfl (ev e824) (Z.bx 9 rfl))
      · intro a x826 e827 x828 e829 W Q Z; exact step_call (fun _ h => op_want rfl rfl rfl (e827.trans (congrArg some (congrArg Value.bool (rests_x h0)))) h) rfl Try.func27 rfl rfl (args1 (ev e829)) (Z.callI (zint_Abs.sem (N1 _ _ (Z.rd 23 rfl))  ))
      · intro a x831 e832 x833 e834 x835 e836 W Q Z; exact step_call (fun _ h => op_want rfl rfl rfl (e832.trans (congrArg some (congrArg Value.bool (rests_x h0)))) h) rfl Try.func38 rfl rfl (args2 (ev e834) (ev e836)) (Z.callV (zint_Compare.sem (Z.own 1 rfl (Bd.fm (Bd.abs (Bd.mul (Bd.bezX F1) (Bd.bezG F0 F1))) (by decide))) (Z.own 0 rfl (Bd.fm (Bd.abs (Bd.abs F1)) (by decide)))  ))
      · intro a x838 e839 x840 e841 W Q Z; exact step_is (fun _ h => op_want rfl rfl rfl (e839.trans (congrArg some (congrArg Value.bool (rests_x h0)))) h) (run_lss rfl (ev e841) rfl)
      · intro a x843 e844 x845 e846 W Q Z; exact step_is (fun _ h => op_plain rfl rfl h) (run_pickT rfl ((show _ = Value.bool (decide ((0) ≤ ((bezX (x0) (x1)).sign))) from (ev e844)).trans (congrArg Value.bool (rests_x h0))) (ev e846))
      · intro a x848 e849 W Q Z; exact step_is (fun _ h => op_plain rfl rfl h) (run_assign rfl (ev e849))
      clear Z; intro x761 x764 x767 x771 x776 x781 x784 x788 x793 x798 x803 x806 x810 x814 x821 x825 x830 x837 x842 x847 x850 W Z
      (try simp only [Act.put, List.setIfInBounds_toArray, List.set_cons_zero, List.set_cons_succ])
      show Code.wp _ _ _ _ _
      refine wp_ret ?_
      exact Z.endsV rfl rfl rfl (by first | rfl | exact (congrArg Value.bool (rests_lt h0)) | simp)

end Go.Proofs.Ytmbmbmkmjbpcpaa.PA

