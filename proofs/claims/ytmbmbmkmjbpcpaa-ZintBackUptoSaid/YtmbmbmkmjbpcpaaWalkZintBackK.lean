/- The walk of the law ZintBack: what its code answers for arguments of a bulk of at most 1048576. -/
import Derived.Outline
import Derived.Test.YtmbmbmkmjbpcpaaZreadzK
import Derived.Test.YtmbmbmkmjbpcpaaZOK
import Derived.Test.YtmbmbmkmjbpcpaaZIK
import Derived.Test.YtmbmbmkmjbpcpaaZHK
import Derived.Test.YtmbmbmkmjbpcpaaZDK
import Derived.Test.YtmbmbmkmjbpcpaaPAx0K
namespace Go.Proofs.Ytmbmbmkmjbpcpaa.PA
open Go Go.Proofs.Ytmbmbmkmjbpcpaa.Nums Go.RowKit Go.Proofs.YtmbmbmkmjbpcpaaW.PrintWords Go.Proofs.YtmbmbmkmjbpcpaaW.PrintLast Go.Proofs.YtmbmbmkmjbpcpaaW.PrintMore
set_option linter.unusedVariables false
set_option linter.unusedSimpArgs false
theorem readZ_bd {s : ByteArray} : Bd 262144 (readZ s).1 := by
  have h0 : Bd 262144 0 := (Bd.lit (k := 1) (z := 0) (by decide)).mono (by omega)
  unfold readZ
  split
  · exact h0
  · split
    · exact h0
    · split
      · refine Bd.zof (rdN_bd ?_)
        rw [tlS_size]
        omega
      · exact h0
theorem Bd.root {k : Nat} {x : Int} (h : Bd k x) : Bd k (rootI x) := by
  refine h.of_le ?_
  rcases Int.lt_or_le x 0 with h0 | h0
  · have e : rootI x = 0 := by
      unfold rootI
      rw [show x.toNat = 0 by omega]
      rfl
    rw [e]
    exact Nat.zero_le _
  · have := (rootI_is h0).le
    have := rootI_nn x
    omega
theorem Bd.rootZ {k : Nat} {z : Int} (h : Bd k z) : Bd k (rootZ z) := by
  unfold PA.rootZ
  split
  · exact Nat.pow_pos (by omega)
  · exact h.root
theorem Bd.shift {k : Nat} {z n : Int} (h : Bd k z) : Bd (k + 65537) (shiftZ z n) := by
  unfold shiftZ
  split
  · exact (Bd.lit (k := 1) (z := 0) (by decide)).mono (by omega)
  · split
    · exact h.mul (Bd.two (by omega))
    · exact (fdiv_bd h).mono (by omega)
theorem wp_seq_k {P : Program} {Q : Exit → Act → World → Prop} {c1 c2 : Code} {a : Act} {W : World} (S : Act → World → Prop) (h : (∀ a W, S a W → c2.wp P Q a W) → (Code.seq c1 c2).wp P Q a W) (hk : ∀ a W, S a W → c2.wp P Q a W) : (Code.seq c1 c2).wp P Q a W := h hk
theorem step_unU {P : Program} {Q : Exit → Act → World → Prop} {pre : List Oper} {w0 W : World} {a : Act} {o : Oper} {i j d : Nat} {b : Bool} (ho : pre.toArray[i]? = some o) (hg : o.guard = some (j, b)) (hs : (pre.toArray[j]?).bind (·.dst) = some d) (he : a.tmps[d]? = some undef) : wpOp P pre.toArray Q i (fun a' W' => ∃ u, a' = a.put o.dst u ∧ Below W.heap.size W W' ∧ (Sp.is undef).New w0 W W' u) a W := by
  have e : Region.wanted o (yielded pre.toArray a.tmps) = false := by
    unfold Region.wanted yielded
    rw [hg]
    simp only
    rw [hs]
    simp only [Option.bind_some, he]
    rfl
  unfold Go.wpOp
  rw [ho]
  simp only [e]
  exact ⟨undef, rfl, Below.refl _ _, (), rfl, Has.nil _ _⟩
theorem run_geqW {a : Act} {o : Oper} {W : World} {p q : Operand} {x y : Int} (ho : o.op = .binOp .geq 50 p q 50) (he : a.eval p = .int .u64 x) (he2 : a.eval q = .int .u64 y) : (execOp a.eval o).run Try.prog W = .ok (.value (.bool (decide (y ≤ x)))) W := by
  unfold execOp
  simp only [ho, he, he2]
  go_simp
  try (first | rfl | (by_cases h : x = y <;> simp [h]))
theorem run_lssW {a : Act} {o : Oper} {W : World} {p q : Operand} {x y : Int} (ho : o.op = .binOp .lss 50 p q 50) (he : a.eval p = .int .u64 x) (he2 : a.eval q = .int .u64 y) : (execOp a.eval o).run Try.prog W = .ok (.value (.bool (decide (x < y)))) W := by
  unfold execOp
  simp only [ho, he, he2]
  go_simp
theorem run_addL {a : Act} {o : Oper} {W : World} {p q : Operand} {x y z : Int} (h : IntKind.i64.wrap (x + y) = z) (ho : o.op = .binOp .add 2 p q 2) (he : a.eval p = .int .i64 x) (he2 : a.eval q = .int .i64 y) : (execOp a.eval o).run Try.prog W = .ok (.value (.int .i64 z)) W := by
  subst h
  unfold execOp
  simp only [ho, he, he2]
  go_simp
theorem back_i64 {z : Int} : IntKind.i64.wrap (topM z) = topM z := by
  have := topM_rng z
  exact i64s (by omega) (by omega)
theorem back_inc {z : Int} : IntKind.i64.wrap (topM z + 1) = topM z + 1 := by
  have := topM_rng z
  exact i64s (by omega) (by omega)
theorem text_short {v : Int} {n : Nat} (hn : n ≤ 60000) (h0 : 0 ≤ v) (h : v.toNat < 2 ^ n) : (textOf v).size ≤ 65535 := by
  unfold textOf
  split
  · show 1 ≤ 65535
    omega
  · rw [str_size, List.length_reverse]
    have := digs_len v.toNat n (Nat.lt_of_lt_of_le h (Nat.pow_le_pow_left (by decide) _))
    omega
theorem zint_Read.back {w : World} {z : Int} (h : decide (((bl (((z).natAbs : Nat) : Int).toNat : Nat) : Int) < 10000) = true) : Calls Try.prog 42 #[.string (textZ z)] w (ResIii w z (.int .i64 0) (.int .i64 0)) := by
  have h := of_decide_eq_true h
  have hs := text_short (v := ((z.natAbs : Nat) : Int)) (n := bl (((z.natAbs : Nat) : Int)).toNat) (by omega) (by omega) (bl_lt _)
  have hr := zint_Read.sem (w := w) (a0 := textZ z) (by
    unfold textZ
    split
    · rw [ByteArray.size_append]
      show 1 + _ ≤ _
      omega
    · omega)
  rw [readZ_text hs] at hr
  exact hr
theorem cmp_pos {x y : Int} : 0 < cmp x y ↔ y < x := by
  unfold cmp
  split
  · simp; omega
  · split <;> (simp; try omega)
theorem root_nn {z : Int} (h : decide (rootE z = 0) = true) : 0 ≤ z := by
  have h := of_decide_eq_true h
  unfold rootE at h
  split at h
  · exact absurd h (by decide)
  · omega
theorem back_root {z : Int} : ((decide (rootE z = 0)) != (decide (0 ≤ z.sign))) = false := by
  unfold rootE
  by_cases hz : z < 0
  · rw [if_pos hz, Int.sign_eq_neg_one_of_neg hz]
    rfl
  · rw [if_neg hz]
    rcases Int.lt_or_le 0 z with h | h
    · rw [Int.sign_eq_one_of_pos h]
      rfl
    · rw [show z = 0 by omega]
      rfl
theorem rootZ_is {z : Int} (h : 0 ≤ z) : 0 ≤ rootZ z ∧ rootZ z * rootZ z ≤ z ∧ z < (rootZ z + 1) * (rootZ z + 1) := by
  unfold rootZ
  rw [if_neg (by omega)]
  have h1 := rootI_is h
  unfold IsRoot at h1
  exact h1
theorem back_nn {z : Int} : decide ((rootZ z).sign < 0) = false := by
  refine decide_eq_false (fun h => ?_)
  have hr : 0 ≤ rootZ z := by
    by_cases hz : z < 0
    · unfold rootZ
      rw [if_pos hz]
      omega
    · exact (rootZ_is (by omega)).1
  have := Int.sign_nonneg_iff.mpr hr
  omega
theorem back_sq {z : Int} (h : decide (rootE z = 0) = true) : decide ((0 : Int) < cmp (rootZ z * rootZ z) z) = false := by
  refine decide_eq_false (fun h1 => ?_)
  have := cmp_pos.mp h1
  have := (rootZ_is (root_nn h)).2.1
  omega
theorem back_sq1 {z : Int} (h : decide (rootE z = 0) = true) : decide (cmp ((rootZ z + 1) * (rootZ z + 1)) z ≤ 0) = false := by
  refine decide_eq_false (fun h1 => ?_)
  have := cmp_pos.mpr (rootZ_is (root_nn h)).2.2
  omega
theorem back_hi {z : Int} : decide ((9007199254740992 : Int) ≤ topM z) = false := by
  have := topM_rng z
  exact decide_eq_false (by omega)
theorem back_e {z : Int} : decide (((topE z : Nat) : Int) < 0) = false := decide_eq_false (by omega)
theorem top_dm (z : Int) : topM z * 2 ^ topE z ≤ ((z.natAbs : Nat) : Int) ∧ ((z.natAbs : Nat) : Int) < (topM z + 1) * 2 ^ topE z ∧ (((z.natAbs : Nat) : Int) % 2 ^ topE z = 0 ↔ topM z * 2 ^ topE z = ((z.natAbs : Nat) : Int)) := by
  have e := Int.emod_add_mul_ediv ((z.natAbs : Nat) : Int) (2 ^ topE z)
  have h0 := Int.emod_nonneg ((z.natAbs : Nat) : Int) (Int.ne_of_gt (two_pos (topE z)))
  have h1 := Int.emod_lt_of_pos ((z.natAbs : Nat) : Int) (two_pos (topE z))
  rw [Int.mul_comm (2 ^ topE z)] at e
  unfold topM
  rw [Int.add_mul, Int.one_mul]
  refine ⟨by omega, by omega, by omega⟩
theorem back_lo {z : Int} (h : decide ((0 : Int) < ((topE z : Nat) : Int)) = true) : decide (topM z < (4503599627370496 : Int)) = false := by
  have h := of_decide_eq_true h
  refine decide_eq_false (fun h1 => ?_)
  obtain ⟨-, h2, -⟩ := top_dm z
  have hE : topE z = bl z.natAbs - 53 := rfl
  have hb : 2 ^ (bl z.natAbs - 1) ≤ z.natAbs := Nat.not_lt.mp (fun h9 => by have := bl_le h9; omega)
  have h3 : (topM z + 1) * 2 ^ topE z ≤ 4503599627370496 * 2 ^ topE z := Int.mul_le_mul_of_nonneg_right (by omega) (Int.le_of_lt (two_pos _))
  have h4 : (4503599627370496 : Int) * 2 ^ topE z = ((2 ^ (bl z.natAbs - 1) : Nat) : Int) := by
    rw [show bl z.natAbs - 1 = 52 + topE z by omega, Nat.pow_add, Int.natCast_mul, Int.natCast_pow, Int.natCast_pow]
    rfl
  omega
theorem shE {n : Nat} : shiftE ((n : Nat) : Int) = if 65536 < n then 2 else 0 := by
  unfold shiftE
  by_cases h : 65536 < n
  · rw [if_pos (by omega), if_pos h]
  · rw [if_neg (by omega), if_neg h]
theorem back_long {z : Int} (h : decide (shiftE ((topE z : Nat) : Int) ≠ 0) = true) : decide ((65536 : Int) < ((topE z : Nat) : Int)) = true := by
  have h := of_decide_eq_true h
  rw [shE] at h
  by_cases h1 : 65536 < topE z
  · exact decide_eq_true (by omega)
  · rw [if_neg h1] at h
    exact absurd rfl h
theorem sh_z {z m : Int} (h : decide (shiftE ((topE z : Nat) : Int) ≠ 0) = false) : shiftZ m ((topE z : Nat) : Int) = m * 2 ^ topE z := by
  have h := Classical.not_not.mp (of_decide_eq_false h)
  rw [shE] at h
  have h1 : ¬ 65536 < topE z := by
    intro h1
    rw [if_pos h1] at h
    exact absurd h (by decide)
  have := (shift_up (z := m) (n := ((topE z : Nat) : Int)) (by omega) (by omega)).1
  rw [← this, Int.toNat_natCast]
theorem back_up {z : Int} (h : decide (shiftE ((topE z : Nat) : Int) ≠ 0) = false) : decide (cmp (shiftZ (topM z) ((topE z : Nat) : Int)) ((z.natAbs : Nat) : Int) ≤ 0) = true := by
  rw [sh_z h]
  refine decide_eq_true ?_
  have := (top_dm z).1
  rcases Int.lt_or_le 0 (cmp (topM z * 2 ^ topE z) ((z.natAbs : Nat) : Int)) with h1 | h1
  · have := cmp_pos.mp h1
    omega
  · exact h1
theorem back_next {z : Int} (h : decide (shiftE ((topE z : Nat) : Int) ≠ 0) = false) : decide ((0 : Int) < cmp (shiftZ (topM z + 1) ((topE z : Nat) : Int)) ((z.natAbs : Nat) : Int)) = true := by
  rw [sh_z h]
  exact decide_eq_true (cmp_pos.mpr (top_dm z).2.1)
theorem back_is {z : Int} (h : decide (shiftE ((topE z : Nat) : Int) ≠ 0) = false) : ((topB z) == (decide (shiftZ (topM z) ((topE z : Nat) : Int) = ((z.natAbs : Nat) : Int)))) = true := by
  rw [sh_z h]
  have e : topB z = decide (topM z * 2 ^ topE z = ((z.natAbs : Nat) : Int)) := by
    unfold topB
    exact decide_eq_decide.mpr (top_dm z).2.2
  rw [e]
  exact beq_self_eq_true _
set_option maxHeartbeats 8000000 in
set_option maxRecDepth 100000 in
theorem trammellaw02_ZintBack.walk (b0 : Bool) (a0 : Option Addr) (len0 cap0 : Nat) (q0 : List Int) (a1 : ByteArray) (w : World) (w0 : bulks.IsRow .u32 w a0 len0 cap0 q0) (y0 : len0 ≤ 1048576) (w1 : a1.size ≤ 1048576) : Calls Try.prog 14 #[.agg #[.bool b0, .slice a0 len0 cap0], .string a1] w (RetV w (.bool true)) := by
  obtain ⟨l0, r0, o0, hl0⟩ := row_rd w0 y0
  obtain ⟨x0, N0, F0, hx0⟩ := arg_num (b := b0) o0 hl0
  have Z := Zt.start w r0.has
  go_enter Try.func14, Try.ntmps14
  refine wp_seq ?_
  refine wp_region_list ?_
  refine seq_box Z rfl rfl rfl ?_; clear Z; intro g1 W Z
  (try simp only [Act.put, List.setIfInBounds_toArray, List.set_cons_zero, List.set_cons_succ])
  refine seq_is (v := .bool (false)) rfl (run_assign rfl rfl) ?_
  (try simp only [Act.put, List.setIfInBounds_toArray, List.set_cons_zero, List.set_cons_succ])
  show Code.wp _ _ _ _ _
  refine wp_seq ?_
  refine wp_seq ?_
  refine wp_region_list ?_
  refine seq_call Z rfl rfl Try.func44 rfl rfl (show Array.map _ #[] = #[] by simp) (Z.callV (trammellaw02_alive.sem _)) ?_; clear Z; intro x2 W Z
  (try simp only [Act.put, List.setIfInBounds_toArray, List.set_cons_zero, List.set_cons_succ])
  refine seq_is (v := .bool (!(true))) rfl (run_not rfl rfl) ?_
  (try simp only [Act.put, List.setIfInBounds_toArray, List.set_cons_zero, List.set_cons_succ])
  show Code.wp _ _ _ _ _
  refine wp_cond_false rfl ?_
  refine wp_skip ?_
  show Code.wp _ _ _ _ _
  refine wp_seq_k (S := fun a W => ∃ (u4_3 u5_3 u6_3 u7_3 u22_3 u23_3 u24_3 u25_3 u26_3 u27_3 u28_3 u29_3 u30_3 u31_3 u32_3 u33_3 u34_3 u35_3 u36_3 u37_3 u38_3 u39_3 u40_3 u41_3 u42_3 u43_3 u44_3 : Value), a = { tmps := #[.agg #[.bool (b0), .slice a0 len0 cap0], .string a1, .pointer (some ⟨g1, 0, none⟩), undef, u4_3, u5_3, u6_3, u7_3, undef, undef, undef, undef, undef, undef, undef, undef, undef, undef, undef, undef, .bool (true), .bool (!(true)), u22_3, u23_3, u24_3, u25_3, u26_3, u27_3, u28_3, u29_3, u30_3, u31_3, u32_3, u33_3, u34_3, u35_3, u36_3, u37_3, u38_3, u39_3, u40_3, u41_3, u42_3, u43_3, u44_3, undef, undef, undef, undef, undef, undef, undef, undef, undef, undef, undef, undef, undef, undef, undef, undef, undef, undef, undef, undef, undef, undef, undef, undef, undef, undef, undef, undef, undef, undef, undef, undef, undef, undef, undef, undef, undef, undef, undef, undef, undef, undef, undef, undef, undef, undef, undef, undef, undef, undef, undef, undef, undef, undef, undef, undef, undef, undef, undef, undef, undef, undef, undef, undef, undef, undef, undef, undef, undef, undef, undef, undef, undef, undef, undef, undef, undef, undef, undef, undef, undef, undef, undef, undef, undef, undef, undef, undef, undef, undef, undef, undef, undef, undef, undef, undef, undef, undef, undef, undef, undef, undef, undef, undef, undef, undef, undef, undef, undef, undef, undef, undef], defers := [] } ∧ Zt w W [(.slice a0 len0 cap0, tyR l0)] [(g1, 25, #[.bool (b0), .slice a0 len0 cap0])]) (fun K => ?_) (fun a W => ?_)
  · refine wp_seq ?_
    refine wp_seq ?_
    refine wp_region_list ?_
    refine seq_is (v := .agg #[.bool (b0), .slice a0 len0 cap0]) rfl (run_load2 rfl rfl (Z.bx 0 rfl)) ?_
    (try simp only [Act.put, List.setIfInBounds_toArray, List.set_cons_zero, List.set_cons_succ])
    refine seq_call Z rfl rfl Try.func47 rfl rfl (args1 rfl) (Z.callV (zint_Bits.sem (N0 _ _ (Z.rd 0 rfl))  )) ?_; clear Z; intro x3 W Z
    (try simp only [Act.put, List.setIfInBounds_toArray, List.set_cons_zero, List.set_cons_succ])
    refine seq_is (v := .bool (decide ((((bl (((x0).natAbs : Nat) : Int).toNat : Nat) : Int)) < (10000)))) rfl (run_lss rfl rfl rfl) ?_
    (try simp only [Act.put, List.setIfInBounds_toArray, List.set_cons_zero, List.set_cons_succ])
    show Code.wp _ _ _ _ _
    refine wp_cond_split (t := decide ((((bl (((x0).natAbs : Nat) : Int).toNat : Nat) : Int)) < (10000))) rfl ?_ ?_
    · intro hc4
      refine wp_seq ?_
      refine wp_region_list ?_
      refine seq_is (v := .agg #[.bool (b0), .slice a0 len0 cap0]) rfl (run_load2 rfl rfl (Z.bx 0 rfl)) ?_
      (try simp only [Act.put, List.setIfInBounds_toArray, List.set_cons_zero, List.set_cons_succ])
      refine seq_call Z rfl rfl Try.func40 rfl rfl (args1 rfl) (Z.callV (zint_Text.sem (N0 _ _ (Z.rd 0 rfl))  )) ?_; clear Z; intro x5 W Z
      (try simp only [Act.put, List.setIfInBounds_toArray, List.set_cons_zero, List.set_cons_succ])
      refine seq_call Z rfl rfl Try.func42 rfl rfl (args1 rfl) (Z.callIii (zint_Read.back hc4)) ?_; clear Z; intro x6 W Z
      (try simp only [Act.put, List.setIfInBounds_toArray, List.set_cons_zero, List.set_cons_succ])
      refine seq_is (v := .tuple #[.agg #[.bool (decide (x0 < 0)), x6.v], .int .i64 (0), .int .i64 (0)]) rfl (run_move rfl rfl) ?_
      (try simp only [Act.put, List.setIfInBounds_toArray, List.set_cons_zero, List.set_cons_succ])
      refine seq_is (v := .agg #[.bool (decide (x0 < 0)), x6.v]) rfl (run_extract rfl rfl rfl) ?_
      (try simp only [Act.put, List.setIfInBounds_toArray, List.set_cons_zero, List.set_cons_succ])
      refine seq_is (v := .int .i64 (0)) rfl (run_extract rfl rfl rfl) ?_
      (try simp only [Act.put, List.setIfInBounds_toArray, List.set_cons_zero, List.set_cons_succ])
      refine seq_is (v := .int .i64 (0)) rfl (run_extract rfl rfl rfl) ?_
      (try simp only [Act.put, List.setIfInBounds_toArray, List.set_cons_zero, List.set_cons_succ])
      refine seq_alloc Z rfl rfl ?_; clear Z; intro g7 W Z
      (try simp only [Act.put, List.setIfInBounds_toArray, List.set_cons_zero, List.set_cons_succ])
      refine seq_store Z 0 rfl rfl rfl rfl rfl ?_; clear Z; intro W Z
      (try simp only [Act.put, List.setIfInBounds_toArray, List.set_cons_zero, List.set_cons_succ])
      refine seq_is (v := .int .i64 (0)) rfl (run_assign rfl rfl) ?_
      (try simp only [Act.put, List.setIfInBounds_toArray, List.set_cons_zero, List.set_cons_succ])
      refine seq_is (v := .int .i64 (0)) rfl (run_assign rfl rfl) ?_
      (try simp only [Act.put, List.setIfInBounds_toArray, List.set_cons_zero, List.set_cons_succ])
      show Code.wp _ _ _ _ _
      refine wp_seq ?_
      refine wp_dag (pre := [_, _, _, _, _, _, _, _, _, _, _, _, _]) (sps := [.is (.int .i64 (0)), .is (.bool (decide ((0 : Int) ≠ (0)))), .is (.bool (decide ((0 : Int) ≠ (0)))), .is (.int .i64 (0)), .is (.bool (decide ((0 : Int) ≠ (0)))), .is (.bool (decide ((0 : Int) ≠ (0)))), .is (.bool (decide ((0 : Int) ≠ (0)))), .is (.agg #[.bool (decide (x0 < 0)), x6.v]), .is (.agg #[.bool (b0), .slice a0 len0 cap0]), spI w ((x0)), .is (.bool (true)), .is (.bool (!(true))), .is (.bool (!(true)))]) Z (by kernel_rfl) _ rfl (by kernel_rfl) (by kernel_rfl) rfl ⟨?_, ?_, ?_, ?_, ?_, ?_, ?_, ?_, ?_, ?_, ?_, ?_, ?_, trivial⟩ ?_
      · intro a e8 W Q Z; exact step_is (fun _ h => op_plain rfl rfl h) (run_move rfl (ev e8))
      · intro a x10 e11 W Q Z; exact step_is (fun _ h => op_plain rfl rfl h) (run_neqE rfl (ev e11) rfl)
      · intro a x13 e14 W Q Z; exact step_is (fun _ h => op_plain rfl rfl h) (run_move rfl (ev e14))
      · intro a x16 e17 e18 W Q Z; exact step_is (fun _ h => op_want rfl rfl rfl e17 h) (run_move rfl (ev e18))
      · intro a x20 e21 x22 e23 W Q Z; exact step_is (fun _ h => op_want rfl rfl rfl e21 h) (run_neq rfl (ev e23) rfl)
      · intro a x25 e26 x27 e28 W Q Z; exact step_is (fun _ h => op_plain rfl rfl h) (run_pickF rfl (ev e26) (ev e28))
      · intro a x30 e31 W Q Z; exact step_is (fun _ h => op_plain rfl rfl h) (run_move rfl (ev e31))
      · intro a x33 e34 e35 W Q Z; exact step_is (fun _ h => op_want rfl rfl rfl e34 h) (run_load2 rfl (ev e35) (Z.bx 0 rfl))
      · intro a x37 e38 e39 W Q Z; exact step_is (fun _ h => op_want rfl rfl rfl e38 h) (run_load2 rfl (ev e39) (Z.bx 1 rfl))
      · intro a x41 e42 x43 e44 W Q Z; exact step_call (fun _ h => op_want rfl rfl rfl e42 h) rfl Try.func32 rfl rfl (args1 (ev e44)) (Z.callI (zint_Form.sem (N0 _ _ (Z.rd 1 rfl))  ))
      · intro a x46 e47 x48 e49 x50 e51 W Q Z; exact step_call (fun _ h => op_want rfl rfl rfl e47 h) rfl Try.func16 rfl rfl (args2 (ev e49) (ev e51)) (Z.callV (eqI_same (z1 := x0) (z2 := (x0)) (Z.rdO 1 rfl) (Z.rdO 0 rfl) (Bd.fm (Bd.abs F0) (by decide)) rfl))
      · intro a x53 e54 x55 e56 W Q Z; exact step_is (fun _ h => op_want rfl rfl rfl e54 h) (run_not rfl (ev e56))
      · intro a x58 e59 x60 e61 W Q Z; exact step_is (fun _ h => op_plain rfl rfl h) (run_pickF rfl (ev e59) (ev e61))
      clear Z; intro x9 x12 x15 x19 x24 x29 x32 x36 x40 x45 x52 x57 x62 W Z
      (try simp only [Act.put, List.setIfInBounds_toArray, List.set_cons_zero, List.set_cons_succ])
      show Code.wp _ _ _ _ _
      refine wp_cond_false rfl ?_
      refine wp_skip ?_
      show Code.wp _ _ _ _ _
      exact K _ _ ⟨_, _, _, _, _, _, _, _, _, _, _, _, _, _, _, _, _, _, _, _, _, _, _, _, _, _, _, rfl, ((Z.forget 0).retype (has_cons (Z.has 2 rfl) (Has.nil _ _)))⟩
    · intro hc4
      refine wp_skip ?_
      show Code.wp _ _ _ _ _
      exact K _ _ ⟨_, _, _, _, _, _, _, _, _, _, _, _, _, _, _, _, _, _, _, _, _, _, _, _, _, _, _, rfl, (Z.retype (has_cons (Z.has 0 rfl) (Has.nil _ _)))⟩
  · clear Z; rintro ⟨u4_3, u5_3, u6_3, u7_3, u22_3, u23_3, u24_3, u25_3, u26_3, u27_3, u28_3, u29_3, u30_3, u31_3, u32_3, u33_3, u34_3, u35_3, u36_3, u37_3, u38_3, u39_3, u40_3, u41_3, u42_3, u43_3, u44_3, rfl, Z⟩
    refine wp_seq ?_
    refine wp_region_list ?_
    refine seq_is (v := .string a1) rfl (run_move rfl rfl) ?_
    (try simp only [Act.put, List.setIfInBounds_toArray, List.set_cons_zero, List.set_cons_succ])
    refine seq_call Z rfl rfl Try.func42 rfl rfl (args1 rfl) (Z.callIii (zint_Read.sem (a0 := a1) (by omega))) ?_; clear Z; intro x63 W Z
    (try simp only [Act.put, List.setIfInBounds_toArray, List.set_cons_zero, List.set_cons_succ])
    refine seq_is (v := .tuple #[.agg #[.bool (decide ((readZ a1).1 < 0)), x63.v], .int .i64 ((readZ a1).2.1), .int .i64 ((readZ a1).2.2)]) rfl (run_move rfl rfl) ?_
    (try simp only [Act.put, List.setIfInBounds_toArray, List.set_cons_zero, List.set_cons_succ])
    refine seq_is (v := .agg #[.bool (decide ((readZ a1).1 < 0)), x63.v]) rfl (run_extract rfl rfl rfl) ?_
    (try simp only [Act.put, List.setIfInBounds_toArray, List.set_cons_zero, List.set_cons_succ])
    refine seq_is (v := .int .i64 ((readZ a1).2.1)) rfl (run_extract rfl rfl rfl) ?_
    (try simp only [Act.put, List.setIfInBounds_toArray, List.set_cons_zero, List.set_cons_succ])
    refine seq_is (v := .int .i64 ((readZ a1).2.2)) rfl (run_extract rfl rfl rfl) ?_
    (try simp only [Act.put, List.setIfInBounds_toArray, List.set_cons_zero, List.set_cons_succ])
    refine seq_alloc Z rfl rfl ?_; clear Z; intro g64 W Z
    (try simp only [Act.put, List.setIfInBounds_toArray, List.set_cons_zero, List.set_cons_succ])
    refine seq_store Z 0 rfl rfl rfl rfl rfl ?_; clear Z; intro W Z
    (try simp only [Act.put, List.setIfInBounds_toArray, List.set_cons_zero, List.set_cons_succ])
    refine seq_is (v := .int .i64 ((readZ a1).2.1)) rfl (run_assign rfl rfl) ?_
    (try simp only [Act.put, List.setIfInBounds_toArray, List.set_cons_zero, List.set_cons_succ])
    refine seq_is (v := .int .i64 ((readZ a1).2.2)) rfl (run_assign rfl rfl) ?_
    (try simp only [Act.put, List.setIfInBounds_toArray, List.set_cons_zero, List.set_cons_succ])
    show Code.wp _ _ _ _ _
    refine wp_seq_k (S := fun a W => ∃ (u4_8 u51_8 u52_8 u53_8 u54_8 u55_8 u56_8 u57_8 u58_8 : Value), a = { tmps := #[.agg #[.bool (b0), .slice a0 len0 cap0], .string a1, .pointer (some ⟨g1, 0, none⟩), undef, u4_8, u5_3, u6_3, u7_3, .pointer (some ⟨g64, 0, none⟩), .int .i64 ((readZ a1).2.1), .int .i64 ((readZ a1).2.2), undef, undef, undef, undef, undef, undef, undef, undef, undef, .bool (true), .bool (!(true)), u22_3, u23_3, u24_3, u25_3, u26_3, u27_3, u28_3, u29_3, u30_3, u31_3, u32_3, u33_3, u34_3, u35_3, u36_3, u37_3, u38_3, u39_3, u40_3, u41_3, u42_3, u43_3, u44_3, .tuple #[.agg #[.bool (decide ((readZ a1).1 < 0)), x63.v], .int .i64 ((readZ a1).2.1), .int .i64 ((readZ a1).2.2)], .string a1, .tuple #[.agg #[.bool (decide ((readZ a1).1 < 0)), x63.v], .int .i64 ((readZ a1).2.1), .int .i64 ((readZ a1).2.2)], .agg #[.bool (decide ((readZ a1).1 < 0)), x63.v], .int .i64 ((readZ a1).2.1), .int .i64 ((readZ a1).2.2), u51_8, u52_8, u53_8, u54_8, u55_8, u56_8, u57_8, u58_8, undef, undef, undef, undef, undef, undef, undef, undef, undef, undef, undef, undef, undef, undef, undef, undef, undef, undef, undef, undef, undef, undef, undef, undef, undef, undef, undef, undef, undef, undef, undef, undef, undef, undef, undef, undef, undef, undef, undef, undef, undef, undef, undef, undef, undef, undef, undef, undef, undef, undef, undef, undef, undef, undef, undef, undef, undef, undef, undef, undef, undef, undef, undef, undef, undef, undef, undef, undef, undef, undef, undef, undef, undef, undef, undef, undef, undef, undef, undef, undef, undef, undef, undef, undef, undef, undef, undef, undef, undef, undef, undef, undef, undef, undef, undef, undef, undef, undef], defers := [] } ∧ Zt w W [(x63.v, tyO w (mg ((readZ a1).1))), (.slice a0 len0 cap0, tyR l0)] [(g64, 25, #[.bool (decide ((readZ a1).1 < 0)), x63.v]), (g1, 25, #[.bool (b0), .slice a0 len0 cap0])]) (fun K => ?_) (fun a W => ?_)
    · refine wp_seq ?_
      refine wp_seq ?_
      rcases Bool.eq_false_or_eq_true (decide (((readZ a1).2.2) = (0))) with hk65 | hk65
      · refine wp_region_list ?_
        refine seq_is (v := .int .i64 ((readZ a1).2.2)) rfl (run_move rfl rfl) ?_
        (try simp only [Act.put, List.setIfInBounds_toArray, List.set_cons_zero, List.set_cons_succ])
        refine seq_is (v := .bool (decide (((readZ a1).2.2) = (0)))) rfl (run_eqlE rfl rfl rfl) ?_
        (try simp only [Act.put, List.setIfInBounds_toArray, List.set_cons_zero, List.set_cons_succ])
        refine seq_is (v := .bool (decide (((readZ a1).2.2) = (0)))) rfl (run_move rfl rfl) ?_
        (try simp only [Act.put, List.setIfInBounds_toArray, List.set_cons_zero, List.set_cons_succ])
        refine list_want rfl rfl (congrArg some (congrArg Value.bool hk65)) (wp_run (v := .agg #[.bool (decide ((readZ a1).1 < 0)), x63.v]) (run_load2 rfl rfl (Z.bx 0 rfl)) ?_)
        (try simp only [Act.put, List.setIfInBounds_toArray, List.set_cons_zero, List.set_cons_succ])
        refine seq_callw Z (fun h => list_want rfl rfl (congrArg some (congrArg Value.bool hk65)) h) rfl Try.func40 rfl rfl (args1 rfl) (Z.callV (zint_Text.sem (Z.own 0 rfl (Bd.fm (Bd.abs readZ_bd) (by decide)))  )) ?_; clear Z; intro x66 W Z
        (try simp only [Act.put, List.setIfInBounds_toArray, List.set_cons_zero, List.set_cons_succ])
        refine list_want rfl rfl (congrArg some (congrArg Value.bool hk65)) (wp_run (v := .string a1) (run_move rfl rfl) ?_)
        (try simp only [Act.put, List.setIfInBounds_toArray, List.set_cons_zero, List.set_cons_succ])
        refine list_want rfl rfl (congrArg some (congrArg Value.bool hk65)) (wp_run (v := .bool (false)) (run_neqS (textZ_read (of_decide_eq_true hk65)) rfl rfl rfl) ?_)
        (try simp only [Act.put, List.setIfInBounds_toArray, List.set_cons_zero, List.set_cons_succ])
        refine seq_is (v := .bool (false)) rfl (run_pickT rfl ((show _ = Value.bool (decide (((readZ a1).2.2) = (0))) from rfl).trans (congrArg Value.bool hk65)) rfl) ?_
        (try simp only [Act.put, List.setIfInBounds_toArray, List.set_cons_zero, List.set_cons_succ])
        show Code.wp _ _ _ _ _
        refine wp_cond_false rfl ?_
        refine wp_skip ?_
        show Code.wp _ _ _ _ _
        exact K _ _ ⟨_, _, _, _, _, _, _, _, _, rfl, (Z.retype (has_cons (Z.has 0 rfl) (has_cons (Z.has 1 rfl) (Has.nil _ _))))⟩
      · refine wp_region_list ?_
        refine seq_is (v := .int .i64 ((readZ a1).2.2)) rfl (run_move rfl rfl) ?_
        (try simp only [Act.put, List.setIfInBounds_toArray, List.set_cons_zero, List.set_cons_succ])
        refine seq_is (v := .bool (decide (((readZ a1).2.2) = (0)))) rfl (run_eqlE rfl rfl rfl) ?_
        (try simp only [Act.put, List.setIfInBounds_toArray, List.set_cons_zero, List.set_cons_succ])
        refine seq_is (v := .bool (decide (((readZ a1).2.2) = (0)))) rfl (run_move rfl rfl) ?_
        (try simp only [Act.put, List.setIfInBounds_toArray, List.set_cons_zero, List.set_cons_succ])
        refine list_unwant rfl rfl (congrArg some (congrArg Value.bool hk65)) (by decide) ?_
        (try simp only [Act.put, List.setIfInBounds_toArray, List.set_cons_zero, List.set_cons_succ])
        refine list_unwant rfl rfl (congrArg some (congrArg Value.bool hk65)) (by decide) ?_
        (try simp only [Act.put, List.setIfInBounds_toArray, List.set_cons_zero, List.set_cons_succ])
        refine list_unwant rfl rfl (congrArg some (congrArg Value.bool hk65)) (by decide) ?_
        (try simp only [Act.put, List.setIfInBounds_toArray, List.set_cons_zero, List.set_cons_succ])
        refine list_unwant rfl rfl (congrArg some (congrArg Value.bool hk65)) (by decide) ?_
        (try simp only [Act.put, List.setIfInBounds_toArray, List.set_cons_zero, List.set_cons_succ])
        refine seq_is (v := .bool (false)) rfl (run_pickF rfl ((show _ = Value.bool (decide (((readZ a1).2.2) = (0))) from rfl).trans (congrArg Value.bool hk65)) rfl) ?_
        (try simp only [Act.put, List.setIfInBounds_toArray, List.set_cons_zero, List.set_cons_succ])
        show Code.wp _ _ _ _ _
        refine wp_cond_false rfl ?_
        refine wp_skip ?_
        show Code.wp _ _ _ _ _
        exact K _ _ ⟨_, _, _, _, _, _, _, _, _, rfl, (Z.retype (has_cons (Z.has 0 rfl) (has_cons (Z.has 1 rfl) (Has.nil _ _))))⟩
    · clear Z; rintro ⟨u4_8, u51_8, u52_8, u53_8, u54_8, u55_8, u56_8, u57_8, u58_8, rfl, Z⟩
      refine wp_seq ?_
      refine wp_region_list ?_
      refine seq_is (v := .agg #[.bool (b0), .slice a0 len0 cap0]) rfl (run_load2 rfl rfl (Z.bx 1 rfl)) ?_
      (try simp only [Act.put, List.setIfInBounds_toArray, List.set_cons_zero, List.set_cons_succ])
      refine seq_call Z rfl rfl Try.func45 rfl rfl (args1 rfl) (Z.callIi (zint_Root.sem (N0 _ _ (Z.rd 1 rfl)) (Bd.fm (Bd.root (Bd.abs F0)) (by decide)) )) ?_; clear Z; intro x67 W Z
      (try simp only [Act.put, List.setIfInBounds_toArray, List.set_cons_zero, List.set_cons_succ])
      refine seq_is (v := .tuple #[.agg #[.bool (decide (rootZ (x0) < 0)), x67.v], .int .i64 (rootE (x0))]) rfl (run_move rfl rfl) ?_
      (try simp only [Act.put, List.setIfInBounds_toArray, List.set_cons_zero, List.set_cons_succ])
      refine seq_is (v := .agg #[.bool (decide (rootZ (x0) < 0)), x67.v]) rfl (run_extract rfl rfl rfl) ?_
      (try simp only [Act.put, List.setIfInBounds_toArray, List.set_cons_zero, List.set_cons_succ])
      refine seq_is (v := .int .i64 (rootE (x0))) rfl (run_extract rfl rfl rfl) ?_
      (try simp only [Act.put, List.setIfInBounds_toArray, List.set_cons_zero, List.set_cons_succ])
      refine seq_alloc Z rfl rfl ?_; clear Z; intro g68 W Z
      (try simp only [Act.put, List.setIfInBounds_toArray, List.set_cons_zero, List.set_cons_succ])
      refine seq_store Z 0 rfl rfl rfl rfl rfl ?_; clear Z; intro W Z
      (try simp only [Act.put, List.setIfInBounds_toArray, List.set_cons_zero, List.set_cons_succ])
      refine seq_is (v := .int .i64 (rootE (x0))) rfl (run_assign rfl rfl) ?_
      (try simp only [Act.put, List.setIfInBounds_toArray, List.set_cons_zero, List.set_cons_succ])
      show Code.wp _ _ _ _ _
      refine wp_seq_k (S := fun a W => ∃ (u4_11 u64_11 u65_11 u66_11 u67_11 u68_11 u69_11 : Value), a = { tmps := #[.agg #[.bool (b0), .slice a0 len0 cap0], .string a1, .pointer (some ⟨g1, 0, none⟩), undef, u4_11, u5_3, u6_3, u7_3, .pointer (some ⟨g64, 0, none⟩), .int .i64 ((readZ a1).2.1), .int .i64 (rootE (x0)), .pointer (some ⟨g68, 0, none⟩), undef, undef, undef, undef, undef, undef, undef, undef, .bool (true), .bool (!(true)), u22_3, u23_3, u24_3, u25_3, u26_3, u27_3, u28_3, u29_3, u30_3, u31_3, u32_3, u33_3, u34_3, u35_3, u36_3, u37_3, u38_3, u39_3, u40_3, u41_3, u42_3, u43_3, u44_3, .tuple #[.agg #[.bool (decide ((readZ a1).1 < 0)), x63.v], .int .i64 ((readZ a1).2.1), .int .i64 ((readZ a1).2.2)], .string a1, .tuple #[.agg #[.bool (decide ((readZ a1).1 < 0)), x63.v], .int .i64 ((readZ a1).2.1), .int .i64 ((readZ a1).2.2)], .agg #[.bool (decide ((readZ a1).1 < 0)), x63.v], .int .i64 ((readZ a1).2.1), .int .i64 ((readZ a1).2.2), u51_8, u52_8, u53_8, u54_8, u55_8, u56_8, u57_8, u58_8, .tuple #[.agg #[.bool (decide (rootZ (x0) < 0)), x67.v], .int .i64 (rootE (x0))], .agg #[.bool (b0), .slice a0 len0 cap0], .tuple #[.agg #[.bool (decide (rootZ (x0) < 0)), x67.v], .int .i64 (rootE (x0))], .agg #[.bool (decide (rootZ (x0) < 0)), x67.v], .int .i64 (rootE (x0)), u64_11, u65_11, u66_11, u67_11, u68_11, u69_11, undef, undef, undef, undef, undef, undef, undef, undef, undef, undef, undef, undef, undef, undef, undef, undef, undef, undef, undef, undef, undef, undef, undef, undef, undef, undef, undef, undef, undef, undef, undef, undef, undef, undef, undef, undef, undef, undef, undef, undef, undef, undef, undef, undef, undef, undef, undef, undef, undef, undef, undef, undef, undef, undef, undef, undef, undef, undef, undef, undef, undef, undef, undef, undef, undef, undef, undef, undef, undef, undef, undef, undef, undef, undef, undef, undef, undef, undef, undef, undef, undef, undef, undef, undef, undef, undef, undef], defers := [] } ∧ Zt w W [(x67.v, tyO w (mg (rootZ (x0)))), (x63.v, tyO w (mg ((readZ a1).1))), (.slice a0 len0 cap0, tyR l0)] [(g68, 25, #[.bool (decide (rootZ (x0) < 0)), x67.v]), (g64, 25, #[.bool (decide ((readZ a1).1 < 0)), x63.v]), (g1, 25, #[.bool (b0), .slice a0 len0 cap0])]) (fun K => ?_) (fun a W => ?_)
      · refine wp_seq ?_
        refine wp_seq ?_
        refine wp_region_list ?_
        refine seq_is (v := .int .i64 (rootE (x0))) rfl (run_move rfl rfl) ?_
        (try simp only [Act.put, List.setIfInBounds_toArray, List.set_cons_zero, List.set_cons_succ])
        refine seq_is (v := .bool (decide ((rootE (x0)) = (0)))) rfl (run_eqlE rfl rfl rfl) ?_
        (try simp only [Act.put, List.setIfInBounds_toArray, List.set_cons_zero, List.set_cons_succ])
        refine seq_is (v := .agg #[.bool (b0), .slice a0 len0 cap0]) rfl (run_load2 rfl rfl (Z.bx 2 rfl)) ?_
        (try simp only [Act.put, List.setIfInBounds_toArray, List.set_cons_zero, List.set_cons_succ])
        refine seq_call Z rfl rfl Try.func36 rfl rfl (args1 rfl) (Z.callV (zint_Sign.sem (N0 _ _ (Z.rd 2 rfl))  )) ?_; clear Z; intro x69 W Z
        (try simp only [Act.put, List.setIfInBounds_toArray, List.set_cons_zero, List.set_cons_succ])
        refine seq_is (v := .bool (decide ((0) ≤ ((x0).sign)))) rfl (run_geq rfl rfl rfl) ?_
        (try simp only [Act.put, List.setIfInBounds_toArray, List.set_cons_zero, List.set_cons_succ])
        refine seq_is (v := .bool ((decide ((rootE (x0)) = (0))) != (decide ((0) ≤ ((x0).sign))))) rfl (run_neqB rfl rfl rfl) ?_
        (try simp only [Act.put, List.setIfInBounds_toArray, List.set_cons_zero, List.set_cons_succ])
        show Code.wp _ _ _ _ _
        refine wp_cond_false ((show _ = Value.bool ((decide ((rootE (x0)) = (0))) != (decide ((0) ≤ ((x0).sign)))) from rfl).trans (congrArg Value.bool back_root)) ?_
        refine wp_skip ?_
        show Code.wp _ _ _ _ _
        exact K _ _ ⟨_, _, _, _, _, _, _, rfl, (Z.retype (has_cons (Z.has 0 rfl) (has_cons (Z.has 1 rfl) (has_cons (Z.has 2 rfl) (Has.nil _ _)))))⟩
      · clear Z; rintro ⟨u4_11, u64_11, u65_11, u66_11, u67_11, u68_11, u69_11, rfl, Z⟩
        refine wp_seq ?_
        refine wp_dag (pre := [_, _, _, _]) (sps := [.is (.agg #[.bool (decide (rootZ (x0) < 0)), x67.v]), spI w ((1 : Int)), spI w ((rootZ (x0)) + ((1 : Int))), .box 25 #[.bool false, .slice none 0 0]]) Z (by kernel_rfl) _ rfl (by kernel_rfl) (by kernel_rfl) rfl ⟨?_, ?_, ?_, ?_, trivial⟩ ?_
        · intro a e70 W Q Z; exact step_is (fun _ h => op_plain rfl rfl h) (run_load2 rfl (ev e70) (Z.bx 0 rfl))
        · intro a W Q Z; exact step_call (fun _ h => op_plain rfl rfl h) rfl Try.func30 rfl rfl (args1 rfl) (Z.callI (zint_Of.sem (by omega) (by omega)))
        · intro a x73 e74 x75 e76 W Q Z; exact step_call (fun _ h => op_plain rfl rfl h) rfl Try.func19 rfl rfl (args2 (ev e74) (ev e76)) (Z.callI (zint_Add.sem (Z.own 1 rfl (Bd.fm (Bd.abs (Bd.rootZ F0)) (by decide))) (Z.own 0 rfl (Bd.fm (Bd.abs (Bd.lit (k := 64) (z := 1) (by decide))) (by decide))) (Bd.fm (Bd.add (Bd.abs (Bd.rootZ F0)) (Bd.abs (Bd.lit (k := 64) (z := 1) (by decide)))) (by decide)) (Bd.fm (Bd.sub (Bd.abs (Bd.lit (k := 64) (z := 1) (by decide))) (Bd.abs (Bd.rootZ F0))) (by decide)) (Bd.fm (Bd.sub (Bd.abs (Bd.rootZ F0)) (Bd.abs (Bd.lit (k := 64) (z := 1) (by decide)))) (by decide)) ))
        · intro a W Q Z; exact step_box (fun _ h => op_plain rfl rfl h) (by decide) (run_alloc2 rfl)
        clear Z; intro x71 x72 x77 g78 W Z
        (try simp only [Act.put, List.setIfInBounds_toArray, List.set_cons_zero, List.set_cons_succ])
        refine seq_store Z 0 rfl rfl rfl rfl rfl ?_; clear Z; intro W Z
        (try simp only [Act.put, List.setIfInBounds_toArray, List.set_cons_zero, List.set_cons_succ])
        show Code.wp _ _ _ _ _
        refine wp_seq_k (S := fun a W => ∃ (u4_14 u73_14 u74_14 u75_14 u76_14 u77_14 u78_14 u79_14 u80_14 u81_14 u82_14 u83_14 u84_14 u85_14 u86_14 u87_14 u88_14 u89_14 u90_14 u91_14 u92_14 u93_14 u94_14 u95_14 : Value), a = { tmps := #[.agg #[.bool (b0), .slice a0 len0 cap0], .string a1, .pointer (some ⟨g1, 0, none⟩), undef, u4_14, u5_3, u6_3, u7_3, .pointer (some ⟨g64, 0, none⟩), .int .i64 ((readZ a1).2.1), .int .i64 (rootE (x0)), .pointer (some ⟨g68, 0, none⟩), .pointer (some ⟨g78, 0, none⟩), undef, undef, undef, undef, undef, undef, undef, .bool (true), .bool (!(true)), u22_3, u23_3, u24_3, u25_3, u26_3, u27_3, u28_3, u29_3, u30_3, u31_3, u32_3, u33_3, u34_3, u35_3, u36_3, u37_3, u38_3, u39_3, u40_3, u41_3, u42_3, u43_3, u44_3, .tuple #[.agg #[.bool (decide ((readZ a1).1 < 0)), x63.v], .int .i64 ((readZ a1).2.1), .int .i64 ((readZ a1).2.2)], .string a1, .tuple #[.agg #[.bool (decide ((readZ a1).1 < 0)), x63.v], .int .i64 ((readZ a1).2.1), .int .i64 ((readZ a1).2.2)], .agg #[.bool (decide ((readZ a1).1 < 0)), x63.v], .int .i64 ((readZ a1).2.1), .int .i64 ((readZ a1).2.2), u51_8, u52_8, u53_8, u54_8, u55_8, u56_8, u57_8, u58_8, .tuple #[.agg #[.bool (decide (rootZ (x0) < 0)), x67.v], .int .i64 (rootE (x0))], .agg #[.bool (b0), .slice a0 len0 cap0], .tuple #[.agg #[.bool (decide (rootZ (x0) < 0)), x67.v], .int .i64 (rootE (x0))], .agg #[.bool (decide (rootZ (x0) < 0)), x67.v], .int .i64 (rootE (x0)), u64_11, u65_11, u66_11, u67_11, u68_11, u69_11, .agg #[.bool (decide (rootZ (x0) < 0)), x67.v], .agg #[.bool (decide ((1 : Int) < 0)), x72.v], .agg #[.bool (decide ((rootZ (x0)) + ((1 : Int)) < 0)), x77.v], u73_14, u74_14, u75_14, u76_14, u77_14, u78_14, u79_14, u80_14, u81_14, u82_14, u83_14, u84_14, u85_14, u86_14, u87_14, u88_14, u89_14, u90_14, u91_14, u92_14, u93_14, u94_14, u95_14, undef, undef, undef, undef, undef, undef, undef, undef, undef, undef, undef, undef, undef, undef, undef, undef, undef, undef, undef, undef, undef, undef, undef, undef, undef, undef, undef, undef, undef, undef, undef, undef, undef, undef, undef, undef, undef, undef, undef, undef, undef, undef, undef, undef, undef, undef, undef, undef, undef, undef, undef, undef, undef, undef, undef, undef, undef, undef, undef, undef, undef], defers := [] } ∧ Zt w W [(x77.v, tyO w (mg ((rootZ (x0)) + ((1 : Int))))), (x72.v, tyO w (mg ((1 : Int)))), (x67.v, tyO w (mg (rootZ (x0)))), (x63.v, tyO w (mg ((readZ a1).1))), (.slice a0 len0 cap0, tyR l0)] [(g78, 25, #[.bool (decide ((rootZ (x0)) + ((1 : Int)) < 0)), x77.v]), (g68, 25, #[.bool (decide (rootZ (x0) < 0)), x67.v]), (g64, 25, #[.bool (decide ((readZ a1).1 < 0)), x63.v]), (g1, 25, #[.bool (b0), .slice a0 len0 cap0])]) (fun K => ?_) (fun a W => ?_)
        · refine wp_seq ?_
          refine wp_seq ?_
          rcases Bool.eq_false_or_eq_true (decide ((rootE (x0)) = (0))) with hk90 | hk90
          · refine wp_dag (pre := [_, _, _, _, _, _, _, _, _, _, _, _, _, _, _, _, _, _, _, _, _, _, _]) (sps := [.is (.int .i64 (rootE (x0))), .is (.bool (decide ((rootE (x0)) = (0)))), .is (.bool (decide ((rootE (x0)) = (0)))), .is (.agg #[.bool (decide (rootZ (x0) < 0)), x67.v]), .is (.int .i64 ((rootZ (x0)).sign)), .is (.bool (decide (((rootZ (x0)).sign) < (0)))), .is (.bool (decide (((rootZ (x0)).sign) < (0)))), .is (.agg #[.bool (decide (rootZ (x0) < 0)), x67.v]), .is (.agg #[.bool (decide (rootZ (x0) < 0)), x67.v]), spI w ((rootZ (x0)) * (rootZ (x0))), .is (.agg #[.bool (b0), .slice a0 len0 cap0]), .is (.int .i64 (cmp ((rootZ (x0)) * (rootZ (x0))) (x0))), .is (.bool (decide ((0) < (cmp ((rootZ (x0)) * (rootZ (x0))) (x0))))), .is (.bool (decide ((0) < (cmp ((rootZ (x0)) * (rootZ (x0))) (x0))))), .is (.bool (decide ((0) < (cmp ((rootZ (x0)) * (rootZ (x0))) (x0))))), .is (.agg #[.bool (decide ((rootZ (x0)) + ((1 : Int)) < 0)), x77.v]), .is (.agg #[.bool (decide ((rootZ (x0)) + ((1 : Int)) < 0)), x77.v]), spI w (((rootZ (x0)) + ((1 : Int))) * ((rootZ (x0)) + ((1 : Int)))), .is (.agg #[.bool (b0), .slice a0 len0 cap0]), .is (.int .i64 (cmp (((rootZ (x0)) + ((1 : Int))) * ((rootZ (x0)) + ((1 : Int)))) (x0))), .is (.bool (decide ((cmp (((rootZ (x0)) + ((1 : Int))) * ((rootZ (x0)) + ((1 : Int)))) (x0)) ≤ (0)))), .is (.bool (decide ((cmp (((rootZ (x0)) + ((1 : Int))) * ((rootZ (x0)) + ((1 : Int)))) (x0)) ≤ (0)))), .is (.bool (decide ((cmp (((rootZ (x0)) + ((1 : Int))) * ((rootZ (x0)) + ((1 : Int)))) (x0)) ≤ (0))))]) Z (by kernel_rfl) _ rfl (by kernel_rfl) (by kernel_rfl) rfl ⟨?_, ?_, ?_, ?_, ?_, ?_, ?_, ?_, ?_, ?_, ?_, ?_, ?_, ?_, ?_, ?_, ?_, ?_, ?_, ?_, ?_, ?_, ?_, trivial⟩ ?_
            · intro a e91 W Q Z; exact step_is (fun _ h => op_plain rfl rfl h) (run_move rfl (ev e91))
            · intro a x93 e94 W Q Z; exact step_is (fun _ h => op_plain rfl rfl h) (run_eqlE rfl (ev e94) rfl)
            · intro a x96 e97 W Q Z; exact step_is (fun _ h => op_plain rfl rfl h) (run_move rfl (ev e97))
            · intro a x99 e100 e101 W Q Z; exact step_is (fun _ h => op_want rfl rfl rfl (e100.trans (congrArg some (congrArg Value.bool hk90))) h) (run_load2 rfl (ev e101) (Z.bx 1 rfl))
            · intro a x103 e104 x105 e106 W Q Z; exact step_call (fun _ h => op_want rfl rfl rfl (e104.trans (congrArg some (congrArg Value.bool hk90))) h) rfl Try.func36 rfl rfl (args1 (ev e106)) (Z.callV (zint_Sign.sem (Z.own 2 rfl (Bd.fm (Bd.abs (Bd.rootZ F0)) (by decide)))  ))
            · intro a x108 e109 x110 e111 W Q Z; exact step_is (fun _ h => op_want rfl rfl rfl (e109.trans (congrArg some (congrArg Value.bool hk90))) h) (run_lss rfl (ev e111) rfl)
            · intro a x113 e114 x115 e116 W Q Z; exact step_is (fun _ h => op_want rfl rfl rfl (e114.trans (congrArg some (congrArg Value.bool hk90))) h) (run_move rfl (ev e116))
            · intro a x118 e119 e120 W Q Z; exact step_is (fun _ h => op_want rfl rfl rfl (e119.trans (congrArg some (congrArg Value.bool back_nn))) h) (run_load2 rfl (ev e120) (Z.bx 1 rfl))
            · intro a x122 e123 e124 W Q Z; exact step_is (fun _ h => op_want rfl rfl rfl (e123.trans (congrArg some (congrArg Value.bool back_nn))) h) (run_load2 rfl (ev e124) (Z.bx 1 rfl))
            · intro a x126 e127 x128 e129 x130 e131 W Q Z; exact step_call (fun _ h => op_want rfl rfl rfl (e127.trans (congrArg some (congrArg Value.bool back_nn))) h) rfl Try.func23 rfl rfl (args2 (ev e129) (ev e131)) (Z.callI (zint_Mul.sem (Z.own 2 rfl (Bd.fm (Bd.abs (Bd.rootZ F0)) (by decide))) (Z.own 2 rfl (Bd.fm (Bd.abs (Bd.rootZ F0)) (by decide))) (Bd.fm (Bd.mul (Bd.abs (Bd.rootZ F0)) (Bd.abs (Bd.rootZ F0))) (by decide)) ))
            · intro a x133 e134 e135 W Q Z; exact step_is (fun _ h => op_want rfl rfl rfl (e134.trans (congrArg some (congrArg Value.bool back_nn))) h) (run_load2 rfl (ev e135) (Z.bx 3 rfl))
            · intro a x137 e138 x139 e140 x141 e142 W Q Z; exact step_call (fun _ h => op_want rfl rfl rfl (e138.trans (congrArg some (congrArg Value.bool back_nn))) h) rfl Try.func38 rfl rfl (args2 (ev e140) (ev e142)) (Z.callV (zint_Compare.sem (Z.own 0 rfl (Bd.fm (Bd.abs (Bd.mul (Bd.rootZ F0) (Bd.rootZ F0))) (by decide))) (N0 _ _ (Z.rd 5 rfl))  ))
            · intro a x144 e145 x146 e147 W Q Z; exact step_is (fun _ h => op_want rfl rfl rfl (e145.trans (congrArg some (congrArg Value.bool back_nn))) h) (run_gtr rfl (ev e147) rfl)
            · intro a x149 e150 x151 e152 x153 e154 W Q Z; exact step_is (fun _ h => op_want rfl rfl rfl (e150.trans (congrArg some (congrArg Value.bool hk90))) h) (run_pickF rfl ((show _ = Value.bool (decide (((rootZ (x0)).sign) < (0))) from (ev e152)).trans (congrArg Value.bool back_nn)) (ev e154))
            · intro a x156 e157 x158 e159 W Q Z; exact step_is (fun _ h => op_want rfl rfl rfl (e157.trans (congrArg some (congrArg Value.bool hk90))) h) (run_move rfl (ev e159))
            · intro a x161 e162 e163 W Q Z; exact step_is (fun _ h => op_want rfl rfl rfl (e162.trans (congrArg some (congrArg Value.bool (back_sq hk90)))) h) (run_load2 rfl (ev e163) (Z.bx 0 rfl))
            · intro a x165 e166 e167 W Q Z; exact step_is (fun _ h => op_want rfl rfl rfl (e166.trans (congrArg some (congrArg Value.bool (back_sq hk90)))) h) (run_load2 rfl (ev e167) (Z.bx 0 rfl))
            · intro a x169 e170 x171 e172 x173 e174 W Q Z; exact step_call (fun _ h => op_want rfl rfl rfl (e170.trans (congrArg some (congrArg Value.bool (back_sq hk90)))) h) rfl Try.func23 rfl rfl (args2 (ev e172) (ev e174)) (Z.callI (zint_Mul.sem (Z.own 0 rfl (Bd.fm (Bd.abs (Bd.add (Bd.rootZ F0) (Bd.lit (k := 64) (z := 1) (by decide)))) (by decide))) (Z.own 0 rfl (Bd.fm (Bd.abs (Bd.add (Bd.rootZ F0) (Bd.lit (k := 64) (z := 1) (by decide)))) (by decide))) (Bd.fm (Bd.mul (Bd.abs (Bd.add (Bd.rootZ F0) (Bd.lit (k := 64) (z := 1) (by decide)))) (Bd.abs (Bd.add (Bd.rootZ F0) (Bd.lit (k := 64) (z := 1) (by decide))))) (by decide)) ))
            · intro a x176 e177 e178 W Q Z; exact step_is (fun _ h => op_want rfl rfl rfl (e177.trans (congrArg some (congrArg Value.bool (back_sq hk90)))) h) (run_load2 rfl (ev e178) (Z.bx 3 rfl))
            · intro a x180 e181 x182 e183 x184 e185 W Q Z; exact step_call (fun _ h => op_want rfl rfl rfl (e181.trans (congrArg some (congrArg Value.bool (back_sq hk90)))) h) rfl Try.func38 rfl rfl (args2 (ev e183) (ev e185)) (Z.callV (zint_Compare.sem (Z.own 0 rfl (Bd.fm (Bd.abs (Bd.mul (Bd.add (Bd.rootZ F0) (Bd.lit (k := 64) (z := 1) (by decide))) (Bd.add (Bd.rootZ F0) (Bd.lit (k := 64) (z := 1) (by decide))))) (by decide))) (N0 _ _ (Z.rd 5 rfl))  ))
            · intro a x187 e188 x189 e190 W Q Z; exact step_is (fun _ h => op_want rfl rfl rfl (e188.trans (congrArg some (congrArg Value.bool (back_sq hk90)))) h) (run_leq rfl (ev e190) rfl)
            · intro a x192 e193 x194 e195 x196 e197 W Q Z; exact step_is (fun _ h => op_want rfl rfl rfl (e193.trans (congrArg some (congrArg Value.bool hk90))) h) (run_pickF rfl ((show _ = Value.bool (decide ((0) < (cmp ((rootZ (x0)) * (rootZ (x0))) (x0)))) from (ev e195)).trans (congrArg Value.bool (back_sq hk90))) (ev e197))
            · intro a x199 e200 x201 e202 W Q Z; exact step_is (fun _ h => op_plain rfl rfl h) (run_pickT rfl ((show _ = Value.bool (decide ((rootE (x0)) = (0))) from (ev e200)).trans (congrArg Value.bool hk90)) (ev e202))
            clear Z; intro x92 x95 x98 x102 x107 x112 x117 x121 x125 x132 x136 x143 x148 x155 x160 x164 x168 x175 x179 x186 x191 x198 x203 W Z
            (try simp only [Act.put, List.setIfInBounds_toArray, List.set_cons_zero, List.set_cons_succ])
            show Code.wp _ _ _ _ _
            refine wp_cond_false ((show _ = Value.bool (decide ((cmp (((rootZ (x0)) + ((1 : Int))) * ((rootZ (x0)) + ((1 : Int)))) (x0)) ≤ (0))) from rfl).trans (congrArg Value.bool (back_sq1 hk90))) ?_
            refine wp_skip ?_
            show Code.wp _ _ _ _ _
            exact K _ _ ⟨_, _, _, _, _, _, _, _, _, _, _, _, _, _, _, _, _, _, _, _, _, _, _, _, rfl, (Z.retype (has_cons (Z.has 2 rfl) (has_cons (Z.has 3 rfl) (has_cons (Z.has 4 rfl) (has_cons (Z.has 5 rfl) (has_cons (Z.has 6 rfl) (Has.nil _ _)))))))⟩
          · refine wp_dag (pre := [_, _, _, _, _, _, _, _, _, _, _, _, _, _, _, _, _, _, _, _, _, _, _]) (sps := [.is (.int .i64 (rootE (x0))), .is (.bool (decide ((rootE (x0)) = (0)))), .is (.bool (decide ((rootE (x0)) = (0)))), .is undef, .is undef, .is undef, .is undef, .is undef, .is undef, .is undef, .is undef, .is undef, .is undef, .is undef, .is undef, .is undef, .is undef, .is undef, .is undef, .is undef, .is undef, .is undef, .is (.bool (false))]) Z (by kernel_rfl) _ rfl (by kernel_rfl) (by kernel_rfl) rfl ⟨?_, ?_, ?_, ?_, ?_, ?_, ?_, ?_, ?_, ?_, ?_, ?_, ?_, ?_, ?_, ?_, ?_, ?_, ?_, ?_, ?_, ?_, ?_, trivial⟩ ?_
            · intro a e204 W Q Z; exact step_is (fun _ h => op_plain rfl rfl h) (run_move rfl (ev e204))
            · intro a x206 e207 W Q Z; exact step_is (fun _ h => op_plain rfl rfl h) (run_eqlE rfl (ev e207) rfl)
            · intro a x209 e210 W Q Z; exact step_is (fun _ h => op_plain rfl rfl h) (run_move rfl (ev e210))
            · intro a x212 e213 e214 W Q Z; exact step_un rfl rfl rfl (e213.trans (congrArg some (congrArg Value.bool hk90))) (by decide)
            · intro a x216 e217 x218 e219 W Q Z; exact step_un rfl rfl rfl (e217.trans (congrArg some (congrArg Value.bool hk90))) (by decide)
            · intro a x221 e222 x223 e224 W Q Z; exact step_un rfl rfl rfl (e222.trans (congrArg some (congrArg Value.bool hk90))) (by decide)
            · intro a x226 e227 x228 e229 W Q Z; exact step_un rfl rfl rfl (e227.trans (congrArg some (congrArg Value.bool hk90))) (by decide)
            · intro a x231 e232 e233 W Q Z; exact step_unU rfl rfl rfl e232
            · intro a x235 e236 e237 W Q Z; exact step_unU rfl rfl rfl e236
            · intro a x239 e240 x241 e242 x243 e244 W Q Z; exact step_unU rfl rfl rfl e240
            · intro a x246 e247 e248 W Q Z; exact step_unU rfl rfl rfl e247
            · intro a x250 e251 x252 e253 x254 e255 W Q Z; exact step_unU rfl rfl rfl e251
            · intro a x257 e258 x259 e260 W Q Z; exact step_unU rfl rfl rfl e258
            · intro a x262 e263 x264 e265 x266 e267 W Q Z; exact step_un rfl rfl rfl (e263.trans (congrArg some (congrArg Value.bool hk90))) (by decide)
            · intro a x269 e270 x271 e272 W Q Z; exact step_un rfl rfl rfl (e270.trans (congrArg some (congrArg Value.bool hk90))) (by decide)
            · intro a x274 e275 e276 W Q Z; exact step_unU rfl rfl rfl e275
            · intro a x278 e279 e280 W Q Z; exact step_unU rfl rfl rfl e279
            · intro a x282 e283 x284 e285 x286 e287 W Q Z; exact step_unU rfl rfl rfl e283
            · intro a x289 e290 e291 W Q Z; exact step_unU rfl rfl rfl e290
            · intro a x293 e294 x295 e296 x297 e298 W Q Z; exact step_unU rfl rfl rfl e294
            · intro a x300 e301 x302 e303 W Q Z; exact step_unU rfl rfl rfl e301
            · intro a x305 e306 x307 e308 x309 e310 W Q Z; exact step_un rfl rfl rfl (e306.trans (congrArg some (congrArg Value.bool hk90))) (by decide)
            · intro a x312 e313 x314 e315 W Q Z; exact step_is (fun _ h => op_plain rfl rfl h) (run_pickF rfl ((show _ = Value.bool (decide ((rootE (x0)) = (0))) from (ev e313)).trans (congrArg Value.bool hk90)) rfl)
            clear Z; intro x205 x208 x211 x215 x220 x225 x230 x234 x238 x245 x249 x256 x261 x268 x273 x277 x281 x288 x292 x299 x304 x311 x316 W Z
            (try simp only [Act.put, List.setIfInBounds_toArray, List.set_cons_zero, List.set_cons_succ])
            show Code.wp _ _ _ _ _
            refine wp_cond_false rfl ?_
            refine wp_skip ?_
            show Code.wp _ _ _ _ _
            exact K _ _ ⟨_, _, _, _, _, _, _, _, _, _, _, _, _, _, _, _, _, _, _, _, _, _, _, _, rfl, (Z.retype (has_cons (Z.has 0 rfl) (has_cons (Z.has 1 rfl) (has_cons (Z.has 2 rfl) (has_cons (Z.has 3 rfl) (has_cons (Z.has 4 rfl) (Has.nil _ _)))))))⟩
        · clear Z; rintro ⟨u4_14, u73_14, u74_14, u75_14, u76_14, u77_14, u78_14, u79_14, u80_14, u81_14, u82_14, u83_14, u84_14, u85_14, u86_14, u87_14, u88_14, u89_14, u90_14, u91_14, u92_14, u93_14, u94_14, u95_14, rfl, Z⟩
          refine wp_seq ?_
          refine wp_region_list ?_
          refine seq_is (v := .agg #[.bool (b0), .slice a0 len0 cap0]) rfl (run_load2 rfl rfl (Z.bx 3 rfl)) ?_
          (try simp only [Act.put, List.setIfInBounds_toArray, List.set_cons_zero, List.set_cons_succ])
          refine seq_call Z rfl rfl Try.func49 rfl rfl (args1 rfl) (Z.callV (zint_Top.sem (N0 _ _ (Z.rd 4 rfl))  (Bd.mono F0 (by decide)))) ?_; clear Z; intro x317 W Z
          (try simp only [Act.put, List.setIfInBounds_toArray, List.set_cons_zero, List.set_cons_succ])
          refine seq_is (v := .tuple #[.int .u64 (topM (x0)), .int .i64 (((topE (x0) : Nat) : Int)), .bool (topB (x0))]) rfl (run_move rfl rfl) ?_
          (try simp only [Act.put, List.setIfInBounds_toArray, List.set_cons_zero, List.set_cons_succ])
          refine seq_is (v := .int .u64 (topM (x0))) rfl (run_extract rfl rfl rfl) ?_
          (try simp only [Act.put, List.setIfInBounds_toArray, List.set_cons_zero, List.set_cons_succ])
          refine seq_is (v := .int .i64 (((topE (x0) : Nat) : Int))) rfl (run_extract rfl rfl rfl) ?_
          (try simp only [Act.put, List.setIfInBounds_toArray, List.set_cons_zero, List.set_cons_succ])
          refine seq_is (v := .bool (topB (x0))) rfl (run_extract rfl rfl rfl) ?_
          (try simp only [Act.put, List.setIfInBounds_toArray, List.set_cons_zero, List.set_cons_succ])
          refine seq_is (v := .int .u64 (topM (x0))) rfl (run_assign rfl rfl) ?_
          (try simp only [Act.put, List.setIfInBounds_toArray, List.set_cons_zero, List.set_cons_succ])
          refine seq_is (v := .int .i64 (((topE (x0) : Nat) : Int))) rfl (run_assign rfl rfl) ?_
          (try simp only [Act.put, List.setIfInBounds_toArray, List.set_cons_zero, List.set_cons_succ])
          refine seq_is (v := .bool (topB (x0))) rfl (run_assign rfl rfl) ?_
          (try simp only [Act.put, List.setIfInBounds_toArray, List.set_cons_zero, List.set_cons_succ])
          show Code.wp _ _ _ _ _
          refine wp_seq_k (S := fun a W => ∃ (u4_17 u102_17 u103_17 u104_17 u105_17 u106_17 u107_17 u108_17 u109_17 u110_17 u111_17 u112_17 u113_17 u114_17 u115_17 : Value), a = { tmps := #[.agg #[.bool (b0), .slice a0 len0 cap0], .string a1, .pointer (some ⟨g1, 0, none⟩), undef, u4_17, u5_3, u6_3, u7_3, .pointer (some ⟨g64, 0, none⟩), .int .i64 ((readZ a1).2.1), .int .i64 (rootE (x0)), .pointer (some ⟨g68, 0, none⟩), .pointer (some ⟨g78, 0, none⟩), .int .u64 (topM (x0)), .int .i64 (((topE (x0) : Nat) : Int)), .bool (topB (x0)), undef, undef, undef, undef, .bool (true), .bool (!(true)), u22_3, u23_3, u24_3, u25_3, u26_3, u27_3, u28_3, u29_3, u30_3, u31_3, u32_3, u33_3, u34_3, u35_3, u36_3, u37_3, u38_3, u39_3, u40_3, u41_3, u42_3, u43_3, u44_3, .tuple #[.agg #[.bool (decide ((readZ a1).1 < 0)), x63.v], .int .i64 ((readZ a1).2.1), .int .i64 ((readZ a1).2.2)], .string a1, .tuple #[.agg #[.bool (decide ((readZ a1).1 < 0)), x63.v], .int .i64 ((readZ a1).2.1), .int .i64 ((readZ a1).2.2)], .agg #[.bool (decide ((readZ a1).1 < 0)), x63.v], .int .i64 ((readZ a1).2.1), .int .i64 ((readZ a1).2.2), u51_8, u52_8, u53_8, u54_8, u55_8, u56_8, u57_8, u58_8, .tuple #[.agg #[.bool (decide (rootZ (x0) < 0)), x67.v], .int .i64 (rootE (x0))], .agg #[.bool (b0), .slice a0 len0 cap0], .tuple #[.agg #[.bool (decide (rootZ (x0) < 0)), x67.v], .int .i64 (rootE (x0))], .agg #[.bool (decide (rootZ (x0) < 0)), x67.v], .int .i64 (rootE (x0)), u64_11, u65_11, u66_11, u67_11, u68_11, u69_11, .agg #[.bool (decide (rootZ (x0) < 0)), x67.v], .agg #[.bool (decide ((1 : Int) < 0)), x72.v], .agg #[.bool (decide ((rootZ (x0)) + ((1 : Int)) < 0)), x77.v], u73_14, u74_14, u75_14, u76_14, u77_14, u78_14, u79_14, u80_14, u81_14, u82_14, u83_14, u84_14, u85_14, u86_14, u87_14, u88_14, u89_14, u90_14, u91_14, u92_14, u93_14, u94_14, u95_14, .tuple #[.int .u64 (topM (x0)), .int .i64 (((topE (x0) : Nat) : Int)), .bool (topB (x0))], .agg #[.bool (b0), .slice a0 len0 cap0], .tuple #[.int .u64 (topM (x0)), .int .i64 (((topE (x0) : Nat) : Int)), .bool (topB (x0))], .int .u64 (topM (x0)), .int .i64 (((topE (x0) : Nat) : Int)), .bool (topB (x0)), u102_17, u103_17, u104_17, u105_17, u106_17, u107_17, u108_17, u109_17, u110_17, u111_17, u112_17, u113_17, u114_17, u115_17, undef, undef, undef, undef, undef, undef, undef, undef, undef, undef, undef, undef, undef, undef, undef, undef, undef, undef, undef, undef, undef, undef, undef, undef, undef, undef, undef, undef, undef, undef, undef, undef, undef, undef, undef, undef, undef, undef, undef, undef, undef], defers := [] } ∧ Zt w W [(x77.v, tyO w (mg ((rootZ (x0)) + ((1 : Int))))), (x72.v, tyO w (mg ((1 : Int)))), (x67.v, tyO w (mg (rootZ (x0)))), (x63.v, tyO w (mg ((readZ a1).1))), (.slice a0 len0 cap0, tyR l0)] [(g78, 25, #[.bool (decide ((rootZ (x0)) + ((1 : Int)) < 0)), x77.v]), (g68, 25, #[.bool (decide (rootZ (x0) < 0)), x67.v]), (g64, 25, #[.bool (decide ((readZ a1).1 < 0)), x63.v]), (g1, 25, #[.bool (b0), .slice a0 len0 cap0])]) (fun K => ?_) (fun a W => ?_)
          · refine wp_seq ?_
            refine wp_seq ?_
            rcases Bool.eq_false_or_eq_true (decide ((0) < (((topE (x0) : Nat) : Int)))) with hk318 | hk318
            · refine wp_region_list ?_
              refine seq_is (v := .int .u64 (topM (x0))) rfl (run_move rfl rfl) ?_
              (try simp only [Act.put, List.setIfInBounds_toArray, List.set_cons_zero, List.set_cons_succ])
              refine seq_is (v := .bool (decide ((9007199254740992) ≤ (topM (x0))))) rfl (run_geqW rfl rfl rfl) ?_
              (try simp only [Act.put, List.setIfInBounds_toArray, List.set_cons_zero, List.set_cons_succ])
              refine seq_is (v := .bool (decide ((9007199254740992) ≤ (topM (x0))))) rfl (run_move rfl rfl) ?_
              (try simp only [Act.put, List.setIfInBounds_toArray, List.set_cons_zero, List.set_cons_succ])
              refine list_want rfl rfl (congrArg some (congrArg Value.bool back_hi)) (wp_run (v := .int .i64 (((topE (x0) : Nat) : Int))) (run_move rfl rfl) ?_)
              (try simp only [Act.put, List.setIfInBounds_toArray, List.set_cons_zero, List.set_cons_succ])
              refine list_want rfl rfl (congrArg some (congrArg Value.bool back_hi)) (wp_run (v := .bool (decide ((((topE (x0) : Nat) : Int)) < (0)))) (run_lss rfl rfl rfl) ?_)
              (try simp only [Act.put, List.setIfInBounds_toArray, List.set_cons_zero, List.set_cons_succ])
              refine seq_is (v := .bool (decide ((((topE (x0) : Nat) : Int)) < (0)))) rfl (run_pickF rfl ((show _ = Value.bool (decide ((9007199254740992) ≤ (topM (x0)))) from rfl).trans (congrArg Value.bool back_hi)) rfl) ?_
              (try simp only [Act.put, List.setIfInBounds_toArray, List.set_cons_zero, List.set_cons_succ])
              refine seq_is (v := .bool (decide ((((topE (x0) : Nat) : Int)) < (0)))) rfl (run_move rfl rfl) ?_
              (try simp only [Act.put, List.setIfInBounds_toArray, List.set_cons_zero, List.set_cons_succ])
              refine list_want rfl rfl (congrArg some (congrArg Value.bool back_e)) (wp_run (v := .int .i64 (((topE (x0) : Nat) : Int))) (run_move rfl rfl) ?_)
              (try simp only [Act.put, List.setIfInBounds_toArray, List.set_cons_zero, List.set_cons_succ])
              refine list_want rfl rfl (congrArg some (congrArg Value.bool back_e)) (wp_run (v := .bool (decide ((0) < (((topE (x0) : Nat) : Int))))) (run_gtr rfl rfl rfl) ?_)
              (try simp only [Act.put, List.setIfInBounds_toArray, List.set_cons_zero, List.set_cons_succ])
              refine list_want rfl rfl (congrArg some (congrArg Value.bool back_e)) (wp_run (v := .bool (decide ((0) < (((topE (x0) : Nat) : Int))))) (run_move rfl rfl) ?_)
              (try simp only [Act.put, List.setIfInBounds_toArray, List.set_cons_zero, List.set_cons_succ])
              refine list_want rfl rfl (congrArg some (congrArg Value.bool hk318)) (wp_run (v := .int .u64 (topM (x0))) (run_move rfl rfl) ?_)
              (try simp only [Act.put, List.setIfInBounds_toArray, List.set_cons_zero, List.set_cons_succ])
              refine list_want rfl rfl (congrArg some (congrArg Value.bool hk318)) (wp_run (v := .bool (decide ((topM (x0)) < (4503599627370496)))) (run_lssW rfl rfl rfl) ?_)
              (try simp only [Act.put, List.setIfInBounds_toArray, List.set_cons_zero, List.set_cons_succ])
              refine list_want rfl rfl (congrArg some (congrArg Value.bool back_e)) (wp_run (v := .bool (decide ((topM (x0)) < (4503599627370496)))) (run_pickT rfl ((show _ = Value.bool (decide ((0) < (((topE (x0) : Nat) : Int)))) from rfl).trans (congrArg Value.bool hk318)) rfl) ?_)
              (try simp only [Act.put, List.setIfInBounds_toArray, List.set_cons_zero, List.set_cons_succ])
              refine seq_is (v := .bool (decide ((topM (x0)) < (4503599627370496)))) rfl (run_pickF rfl ((show _ = Value.bool (decide ((((topE (x0) : Nat) : Int)) < (0))) from rfl).trans (congrArg Value.bool back_e)) rfl) ?_
              (try simp only [Act.put, List.setIfInBounds_toArray, List.set_cons_zero, List.set_cons_succ])
              show Code.wp _ _ _ _ _
              refine wp_cond_false ((show _ = Value.bool (decide ((topM (x0)) < (4503599627370496))) from rfl).trans (congrArg Value.bool (back_lo hk318))) ?_
              refine wp_skip ?_
              show Code.wp _ _ _ _ _
              exact K _ _ ⟨_, _, _, _, _, _, _, _, _, _, _, _, _, _, _, rfl, (Z.retype (has_cons (Z.has 0 rfl) (has_cons (Z.has 1 rfl) (has_cons (Z.has 2 rfl) (has_cons (Z.has 3 rfl) (has_cons (Z.has 4 rfl) (Has.nil _ _)))))))⟩
            · refine wp_region_list ?_
              refine seq_is (v := .int .u64 (topM (x0))) rfl (run_move rfl rfl) ?_
              (try simp only [Act.put, List.setIfInBounds_toArray, List.set_cons_zero, List.set_cons_succ])
              refine seq_is (v := .bool (decide ((9007199254740992) ≤ (topM (x0))))) rfl (run_geqW rfl rfl rfl) ?_
              (try simp only [Act.put, List.setIfInBounds_toArray, List.set_cons_zero, List.set_cons_succ])
              refine seq_is (v := .bool (decide ((9007199254740992) ≤ (topM (x0))))) rfl (run_move rfl rfl) ?_
              (try simp only [Act.put, List.setIfInBounds_toArray, List.set_cons_zero, List.set_cons_succ])
              refine list_want rfl rfl (congrArg some (congrArg Value.bool back_hi)) (wp_run (v := .int .i64 (((topE (x0) : Nat) : Int))) (run_move rfl rfl) ?_)
              (try simp only [Act.put, List.setIfInBounds_toArray, List.set_cons_zero, List.set_cons_succ])
              refine list_want rfl rfl (congrArg some (congrArg Value.bool back_hi)) (wp_run (v := .bool (decide ((((topE (x0) : Nat) : Int)) < (0)))) (run_lss rfl rfl rfl) ?_)
              (try simp only [Act.put, List.setIfInBounds_toArray, List.set_cons_zero, List.set_cons_succ])
              refine seq_is (v := .bool (decide ((((topE (x0) : Nat) : Int)) < (0)))) rfl (run_pickF rfl ((show _ = Value.bool (decide ((9007199254740992) ≤ (topM (x0)))) from rfl).trans (congrArg Value.bool back_hi)) rfl) ?_
              (try simp only [Act.put, List.setIfInBounds_toArray, List.set_cons_zero, List.set_cons_succ])
              refine seq_is (v := .bool (decide ((((topE (x0) : Nat) : Int)) < (0)))) rfl (run_move rfl rfl) ?_
              (try simp only [Act.put, List.setIfInBounds_toArray, List.set_cons_zero, List.set_cons_succ])
              refine list_want rfl rfl (congrArg some (congrArg Value.bool back_e)) (wp_run (v := .int .i64 (((topE (x0) : Nat) : Int))) (run_move rfl rfl) ?_)
              (try simp only [Act.put, List.setIfInBounds_toArray, List.set_cons_zero, List.set_cons_succ])
              refine list_want rfl rfl (congrArg some (congrArg Value.bool back_e)) (wp_run (v := .bool (decide ((0) < (((topE (x0) : Nat) : Int))))) (run_gtr rfl rfl rfl) ?_)
              (try simp only [Act.put, List.setIfInBounds_toArray, List.set_cons_zero, List.set_cons_succ])
              refine list_want rfl rfl (congrArg some (congrArg Value.bool back_e)) (wp_run (v := .bool (decide ((0) < (((topE (x0) : Nat) : Int))))) (run_move rfl rfl) ?_)
              (try simp only [Act.put, List.setIfInBounds_toArray, List.set_cons_zero, List.set_cons_succ])
              refine list_unwant rfl rfl (congrArg some (congrArg Value.bool hk318)) (by decide) ?_
              (try simp only [Act.put, List.setIfInBounds_toArray, List.set_cons_zero, List.set_cons_succ])
              refine list_unwant rfl rfl (congrArg some (congrArg Value.bool hk318)) (by decide) ?_
              (try simp only [Act.put, List.setIfInBounds_toArray, List.set_cons_zero, List.set_cons_succ])
              refine list_want rfl rfl (congrArg some (congrArg Value.bool back_e)) (wp_run (v := .bool (false)) (run_pickF rfl ((show _ = Value.bool (decide ((0) < (((topE (x0) : Nat) : Int)))) from rfl).trans (congrArg Value.bool hk318)) rfl) ?_)
              (try simp only [Act.put, List.setIfInBounds_toArray, List.set_cons_zero, List.set_cons_succ])
              refine seq_is (v := .bool (false)) rfl (run_pickF rfl ((show _ = Value.bool (decide ((((topE (x0) : Nat) : Int)) < (0))) from rfl).trans (congrArg Value.bool back_e)) rfl) ?_
              (try simp only [Act.put, List.setIfInBounds_toArray, List.set_cons_zero, List.set_cons_succ])
              show Code.wp _ _ _ _ _
              refine wp_cond_false rfl ?_
              refine wp_skip ?_
              show Code.wp _ _ _ _ _
              exact K _ _ ⟨_, _, _, _, _, _, _, _, _, _, _, _, _, _, _, rfl, (Z.retype (has_cons (Z.has 0 rfl) (has_cons (Z.has 1 rfl) (has_cons (Z.has 2 rfl) (has_cons (Z.has 3 rfl) (has_cons (Z.has 4 rfl) (Has.nil _ _)))))))⟩
          · clear Z; rintro ⟨u4_17, u102_17, u103_17, u104_17, u105_17, u106_17, u107_17, u108_17, u109_17, u110_17, u111_17, u112_17, u113_17, u114_17, u115_17, rfl, Z⟩
            refine wp_seq ?_
            refine wp_region_list ?_
            refine seq_is (v := .int .u64 (topM (x0))) rfl (run_move rfl rfl) ?_
            (try simp only [Act.put, List.setIfInBounds_toArray, List.set_cons_zero, List.set_cons_succ])
            refine seq_is (v := .int .i64 (topM (x0))) rfl (run_convI' back_i64 rfl rfl) ?_
            (try simp only [Act.put, List.setIfInBounds_toArray, List.set_cons_zero, List.set_cons_succ])
            refine seq_call Z rfl rfl Try.func30 rfl rfl (args1 rfl) (Z.callI (zint_Of.sem (by have := topM_rng x0; omega) (by have := topM_rng x0; omega))) ?_; clear Z; intro x319 W Z
            (try simp only [Act.put, List.setIfInBounds_toArray, List.set_cons_zero, List.set_cons_succ])
            refine seq_is (v := .int .i64 (((topE (x0) : Nat) : Int))) rfl (run_move rfl rfl) ?_
            (try simp only [Act.put, List.setIfInBounds_toArray, List.set_cons_zero, List.set_cons_succ])
            refine seq_call Z rfl rfl Try.func63 rfl rfl (args2 rfl rfl) (Z.callIi (zint_Shift.sem (Z.own 0 rfl (Bd.fm (Bd.abs (show Bd 53 (topM x0) by have := topM_rng x0; unfold Bd; omega)) (by decide))) (Bd.mono (show Bd 53 (topM x0) by have := topM_rng x0; unfold Bd; omega) (by decide)))) ?_; clear Z; intro x320 W Z
            (try simp only [Act.put, List.setIfInBounds_toArray, List.set_cons_zero, List.set_cons_succ])
            refine seq_is (v := .tuple #[.agg #[.bool (decide (shiftZ (topM (x0)) (((topE (x0) : Nat) : Int)) < 0)), x320.v], .int .i64 (shiftE (((topE (x0) : Nat) : Int)))]) rfl (run_move rfl rfl) ?_
            (try simp only [Act.put, List.setIfInBounds_toArray, List.set_cons_zero, List.set_cons_succ])
            refine seq_is (v := .agg #[.bool (decide (shiftZ (topM (x0)) (((topE (x0) : Nat) : Int)) < 0)), x320.v]) rfl (run_extract rfl rfl rfl) ?_
            (try simp only [Act.put, List.setIfInBounds_toArray, List.set_cons_zero, List.set_cons_succ])
            refine seq_is (v := .int .i64 (shiftE (((topE (x0) : Nat) : Int)))) rfl (run_extract rfl rfl rfl) ?_
            (try simp only [Act.put, List.setIfInBounds_toArray, List.set_cons_zero, List.set_cons_succ])
            refine seq_alloc Z rfl rfl ?_; clear Z; intro g321 W Z
            (try simp only [Act.put, List.setIfInBounds_toArray, List.set_cons_zero, List.set_cons_succ])
            refine seq_store Z 0 rfl rfl rfl rfl rfl ?_; clear Z; intro W Z
            (try simp only [Act.put, List.setIfInBounds_toArray, List.set_cons_zero, List.set_cons_succ])
            refine seq_is (v := .int .i64 (shiftE (((topE (x0) : Nat) : Int)))) rfl (run_assign rfl rfl) ?_
            (try simp only [Act.put, List.setIfInBounds_toArray, List.set_cons_zero, List.set_cons_succ])
            show Code.wp _ _ _ _ _
            refine wp_seq ?_
            refine wp_region_list ?_
            refine seq_is (v := .int .u64 (topM (x0))) rfl (run_move rfl rfl) ?_
            (try simp only [Act.put, List.setIfInBounds_toArray, List.set_cons_zero, List.set_cons_succ])
            refine seq_is (v := .int .i64 (topM (x0))) rfl (run_convI' back_i64 rfl rfl) ?_
            (try simp only [Act.put, List.setIfInBounds_toArray, List.set_cons_zero, List.set_cons_succ])
            refine seq_is (v := .int .i64 (topM (x0) + 1)) rfl (run_addL back_inc rfl rfl rfl) ?_
            (try simp only [Act.put, List.setIfInBounds_toArray, List.set_cons_zero, List.set_cons_succ])
            refine seq_call Z rfl rfl Try.func30 rfl rfl (args1 rfl) (Z.callI (zint_Of.sem (by have := topM_rng x0; omega) (by have := topM_rng x0; omega))) ?_; clear Z; intro x322 W Z
            (try simp only [Act.put, List.setIfInBounds_toArray, List.set_cons_zero, List.set_cons_succ])
            refine seq_is (v := .int .i64 (((topE (x0) : Nat) : Int))) rfl (run_move rfl rfl) ?_
            (try simp only [Act.put, List.setIfInBounds_toArray, List.set_cons_zero, List.set_cons_succ])
            refine seq_call Z rfl rfl Try.func63 rfl rfl (args2 rfl rfl) (Z.callIi (zint_Shift.sem (Z.own 0 rfl (Bd.fm (Bd.abs (Bd.add (show Bd 53 (topM x0) by have := topM_rng x0; unfold Bd; omega) (Bd.lit (k := 64) (z := 1) (by decide)))) (by decide))) (Bd.mono (Bd.add (show Bd 53 (topM x0) by have := topM_rng x0; unfold Bd; omega) (Bd.lit (k := 64) (z := 1) (by decide))) (by decide)))) ?_; clear Z; intro x323 W Z
            (try simp only [Act.put, List.setIfInBounds_toArray, List.set_cons_zero, List.set_cons_succ])
            refine seq_is (v := .tuple #[.agg #[.bool (decide (shiftZ (topM (x0) + 1) (((topE (x0) : Nat) : Int)) < 0)), x323.v], .int .i64 (shiftE (((topE (x0) : Nat) : Int)))]) rfl (run_move rfl rfl) ?_
            (try simp only [Act.put, List.setIfInBounds_toArray, List.set_cons_zero, List.set_cons_succ])
            refine seq_is (v := .agg #[.bool (decide (shiftZ (topM (x0) + 1) (((topE (x0) : Nat) : Int)) < 0)), x323.v]) rfl (run_extract rfl rfl rfl) ?_
            (try simp only [Act.put, List.setIfInBounds_toArray, List.set_cons_zero, List.set_cons_succ])
            refine seq_is (v := .int .i64 (shiftE (((topE (x0) : Nat) : Int)))) rfl (run_extract rfl rfl rfl) ?_
            (try simp only [Act.put, List.setIfInBounds_toArray, List.set_cons_zero, List.set_cons_succ])
            refine seq_alloc Z rfl rfl ?_; clear Z; intro g324 W Z
            (try simp only [Act.put, List.setIfInBounds_toArray, List.set_cons_zero, List.set_cons_succ])
            refine seq_store Z 0 rfl rfl rfl rfl rfl ?_; clear Z; intro W Z
            (try simp only [Act.put, List.setIfInBounds_toArray, List.set_cons_zero, List.set_cons_succ])
            refine seq_is (v := .int .i64 (shiftE (((topE (x0) : Nat) : Int)))) rfl (run_assign rfl rfl) ?_
            (try simp only [Act.put, List.setIfInBounds_toArray, List.set_cons_zero, List.set_cons_succ])
            show Code.wp _ _ _ _ _
            refine wp_seq ?_
            refine wp_seq ?_
            refine wp_region_list ?_
            refine seq_is (v := .int .i64 (shiftE (((topE (x0) : Nat) : Int)))) rfl (run_move rfl rfl) ?_
            (try simp only [Act.put, List.setIfInBounds_toArray, List.set_cons_zero, List.set_cons_succ])
            refine seq_is (v := .bool (decide ((shiftE (((topE (x0) : Nat) : Int))) ≠ (0)))) rfl (run_neqE rfl rfl rfl) ?_
            (try simp only [Act.put, List.setIfInBounds_toArray, List.set_cons_zero, List.set_cons_succ])
            show Code.wp _ _ _ _ _
            refine wp_cond_split (t := decide ((shiftE (((topE (x0) : Nat) : Int))) ≠ (0))) rfl ?_ ?_
            · intro hc325
              refine wp_seq ?_
              refine wp_region_list ?_
              refine seq_is (v := .int .i64 (((topE (x0) : Nat) : Int))) rfl (run_move rfl rfl) ?_
              (try simp only [Act.put, List.setIfInBounds_toArray, List.set_cons_zero, List.set_cons_succ])
              refine seq_is (v := .bool (decide ((65536) < (((topE (x0) : Nat) : Int))))) rfl (run_gtr rfl rfl rfl) ?_
              (try simp only [Act.put, List.setIfInBounds_toArray, List.set_cons_zero, List.set_cons_succ])
              refine seq_is (v := .bool (decide ((65536) < (((topE (x0) : Nat) : Int))))) rfl (run_assign rfl rfl) ?_
              (try simp only [Act.put, List.setIfInBounds_toArray, List.set_cons_zero, List.set_cons_succ])
              show Code.wp _ _ _ _ _
              refine wp_ret ?_
              exact Z.endsV rfl rfl rfl (by first | rfl | exact (congrArg Value.bool (back_long hc325)) | simp)
            · intro hc325
              refine wp_skip ?_
              show Code.wp _ _ _ _ _
              refine wp_seq ?_
              refine wp_dag (pre := [_, _, _, _, _, _, _, _, _, _, _, _, _, _, _, _, _, _, _, _, _]) (sps := [.is (.agg #[.bool (decide (shiftZ (topM (x0)) (((topE (x0) : Nat) : Int)) < 0)), x320.v]), .is (.agg #[.bool (b0), .slice a0 len0 cap0]), spI w ((((x0)).natAbs : Nat)), .is (.int .i64 (cmp (shiftZ (topM (x0)) (((topE (x0) : Nat) : Int))) ((((x0)).natAbs : Nat)))), .is (.bool (decide ((cmp (shiftZ (topM (x0)) (((topE (x0) : Nat) : Int))) ((((x0)).natAbs : Nat))) ≤ (0)))), .is (.bool (decide ((cmp (shiftZ (topM (x0)) (((topE (x0) : Nat) : Int))) ((((x0)).natAbs : Nat))) ≤ (0)))), .is (.agg #[.bool (decide (shiftZ (topM (x0) + 1) (((topE (x0) : Nat) : Int)) < 0)), x323.v]), .is (.agg #[.bool (b0), .slice a0 len0 cap0]), spI w ((((x0)).natAbs : Nat)), .is (.int .i64 (cmp (shiftZ (topM (x0) + 1) (((topE (x0) : Nat) : Int))) ((((x0)).natAbs : Nat)))), .is (.bool (decide ((0) < (cmp (shiftZ (topM (x0) + 1) (((topE (x0) : Nat) : Int))) ((((x0)).natAbs : Nat)))))), .is (.bool (decide ((0) < (cmp (shiftZ (topM (x0) + 1) (((topE (x0) : Nat) : Int))) ((((x0)).natAbs : Nat)))))), .is (.bool (decide ((0) < (cmp (shiftZ (topM (x0) + 1) (((topE (x0) : Nat) : Int))) ((((x0)).natAbs : Nat)))))), .is (.bool (topB (x0))), .is (.agg #[.bool (decide (shiftZ (topM (x0)) (((topE (x0) : Nat) : Int)) < 0)), x320.v]), .is (.agg #[.bool (b0), .slice a0 len0 cap0]), spI w ((((x0)).natAbs : Nat)), .is (.bool (decide ((shiftZ (topM (x0)) (((topE (x0) : Nat) : Int))) = ((((x0)).natAbs : Nat))))), .is (.bool ((topB (x0)) == (decide ((shiftZ (topM (x0)) (((topE (x0) : Nat) : Int))) = ((((x0)).natAbs : Nat)))))), .is (.bool ((topB (x0)) == (decide ((shiftZ (topM (x0)) (((topE (x0) : Nat) : Int))) = ((((x0)).natAbs : Nat)))))), .is (.bool ((topB (x0)) == (decide ((shiftZ (topM (x0)) (((topE (x0) : Nat) : Int))) = ((((x0)).natAbs : Nat))))))]) Z (by kernel_rfl) _ rfl (by kernel_rfl) (by kernel_rfl) rfl ⟨?_, ?_, ?_, ?_, ?_, ?_, ?_, ?_, ?_, ?_, ?_, ?_, ?_, ?_, ?_, ?_, ?_, ?_, ?_, ?_, ?_, trivial⟩ ?_
              · intro a e326 W Q Z; exact step_is (fun _ h => op_plain rfl rfl h) (run_load2 rfl (ev e326) (Z.bx 1 rfl))
              · intro a e328 W Q Z; exact step_is (fun _ h => op_plain rfl rfl h) (run_load2 rfl (ev e328) (Z.bx 5 rfl))
              · intro a x330 e331 W Q Z; exact step_call (fun _ h => op_plain rfl rfl h) rfl Try.func27 rfl rfl (args1 (ev e331)) (Z.callI (zint_Abs.sem (N0 _ _ (Z.rd 8 rfl))  ))
              · intro a x333 e334 x335 e336 W Q Z; exact step_call (fun _ h => op_plain rfl rfl h) rfl Try.func38 rfl rfl (args2 (ev e334) (ev e336)) (Z.callV (zint_Compare.sem (Z.own 3 rfl (Bd.fm (Bd.abs (Bd.shift (show Bd 54 (topM (x0)) by have := topM_rng x0; unfold Bd; omega))) (by decide))) (Z.own 0 rfl (Bd.fm (Bd.abs (Bd.abs F0)) (by decide)))  ))
              · intro a x338 e339 W Q Z; exact step_is (fun _ h => op_plain rfl rfl h) (run_leq rfl (ev e339) rfl)
              · intro a x341 e342 W Q Z; exact step_is (fun _ h => op_plain rfl rfl h) (run_move rfl (ev e342))
              · intro a x344 e345 e346 W Q Z; exact step_is (fun _ h => op_want rfl rfl rfl (e345.trans (congrArg some (congrArg Value.bool (back_up hc325)))) h) (run_load2 rfl (ev e346) (Z.bx 0 rfl))
              · intro a x348 e349 e350 W Q Z; exact step_is (fun _ h => op_want rfl rfl rfl (e349.trans (congrArg some (congrArg Value.bool (back_up hc325)))) h) (run_load2 rfl (ev e350) (Z.bx 5 rfl))
              · intro a x352 e353 x354 e355 W Q Z; exact step_call (fun _ h => op_want rfl rfl rfl (e353.trans (congrArg some (congrArg Value.bool (back_up hc325)))) h) rfl Try.func27 rfl rfl (args1 (ev e355)) (Z.callI (zint_Abs.sem (N0 _ _ (Z.rd 8 rfl))  ))
              · intro a x357 e358 x359 e360 x361 e362 W Q Z; exact step_call (fun _ h => op_want rfl rfl rfl (e358.trans (congrArg some (congrArg Value.bool (back_up hc325)))) h) rfl Try.func38 rfl rfl (args2 (ev e360) (ev e362)) (Z.callV (zint_Compare.sem (Z.own 1 rfl (Bd.fm (Bd.abs (Bd.shift (show Bd 54 (topM (x0) + 1) by have := topM_rng x0; unfold Bd; omega))) (by decide))) (Z.own 0 rfl (Bd.fm (Bd.abs (Bd.abs F0)) (by decide)))  ))
              · intro a x364 e365 x366 e367 W Q Z; exact step_is (fun _ h => op_want rfl rfl rfl (e365.trans (congrArg some (congrArg Value.bool (back_up hc325)))) h) (run_gtr rfl (ev e367) rfl)
              · intro a x369 e370 x371 e372 W Q Z; exact step_is (fun _ h => op_plain rfl rfl h) (run_pickT rfl ((show _ = Value.bool (decide ((cmp (shiftZ (topM (x0)) (((topE (x0) : Nat) : Int))) ((((x0)).natAbs : Nat))) ≤ (0))) from (ev e370)).trans (congrArg Value.bool (back_up hc325))) (ev e372))
              · intro a x374 e375 W Q Z; exact step_is (fun _ h => op_plain rfl rfl h) (run_move rfl (ev e375))
              · intro a x377 e378 e379 W Q Z; exact step_is (fun _ h => op_want rfl rfl rfl (e378.trans (congrArg some (congrArg Value.bool (back_next hc325)))) h) (run_move rfl (ev e379))
              · intro a x381 e382 e383 W Q Z; exact step_is (fun _ h => op_want rfl rfl rfl (e382.trans (congrArg some (congrArg Value.bool (back_next hc325)))) h) (run_load2 rfl (ev e383) (Z.bx 1 rfl))
              · intro a x385 e386 e387 W Q Z; exact step_is (fun _ h => op_want rfl rfl rfl (e386.trans (congrArg some (congrArg Value.bool (back_next hc325)))) h) (run_load2 rfl (ev e387) (Z.bx 5 rfl))
              · intro a x389 e390 x391 e392 W Q Z; exact step_call (fun _ h => op_want rfl rfl rfl (e390.trans (congrArg some (congrArg Value.bool (back_next hc325)))) h) rfl Try.func27 rfl rfl (args1 (ev e392)) (Z.callI (zint_Abs.sem (N0 _ _ (Z.rd 8 rfl))  ))
              · intro a x394 e395 x396 e397 x398 e399 W Q Z; exact step_call (fun _ h => op_want rfl rfl rfl (e395.trans (congrArg some (congrArg Value.bool (back_next hc325)))) h) rfl Try.func16 rfl rfl (args2 (ev e397) (ev e399)) (Z.callV (eqI_dec (z1 := shiftZ (topM (x0)) (((topE (x0) : Nat) : Int))) (z2 := (((x0)).natAbs : Nat)) (Z.rdO 3 rfl) (Z.rdO 0 rfl) (Bd.fm (Bd.abs (Bd.shift (show Bd 54 (topM (x0)) by have := topM_rng x0; unfold Bd; omega))) (by decide))))
              · intro a x401 e402 x403 e404 x405 e406 W Q Z; exact step_is (fun _ h => op_want rfl rfl rfl (e402.trans (congrArg some (congrArg Value.bool (back_next hc325)))) h) (run_eqlB rfl (ev e404) (ev e406))
              · intro a x408 e409 x410 e411 W Q Z; exact step_is (fun _ h => op_plain rfl rfl h) (run_pickT rfl ((show _ = Value.bool (decide ((0) < (cmp (shiftZ (topM (x0) + 1) (((topE (x0) : Nat) : Int))) ((((x0)).natAbs : Nat))))) from (ev e409)).trans (congrArg Value.bool (back_next hc325))) (ev e411))
              · intro a x413 e414 W Q Z; exact step_is (fun _ h => op_plain rfl rfl h) (run_assign rfl (ev e414))
              clear Z; intro x327 x329 x332 x337 x340 x343 x347 x351 x356 x363 x368 x373 x376 x380 x384 x388 x393 x400 x407 x412 x415 W Z
              (try simp only [Act.put, List.setIfInBounds_toArray, List.set_cons_zero, List.set_cons_succ])
              show Code.wp _ _ _ _ _
              refine wp_ret ?_
              exact Z.endsV rfl rfl rfl (by first | rfl | exact (congrArg Value.bool (back_is hc325)) | simp)
end Go.Proofs.Ytmbmbmkmjbpcpaa.PA

