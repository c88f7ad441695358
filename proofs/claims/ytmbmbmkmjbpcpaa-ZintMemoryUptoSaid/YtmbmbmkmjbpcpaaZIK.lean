/- Powers: plain; and how a call forgets a box. -/
import Derived.Test.YtmbmbmkmjbpcpaaZHK
import Derived.Test.YtmbmbmkmjbpcpaaPAx0K
import Derived.Outline
namespace Go.Proofs.Ytmbmbmkmjbpcpaa.PA
open Go Go.Proofs.Ytmbmbmkmjbpcpaa.Nums Go.RowKit Go.Proofs.YtmbmbmkmjbpcpaaW.PrintWords Go.Proofs.YtmbmbmkmjbpcpaaW.PrintLast Go.Proofs.YtmbmbmkmjbpcpaaW.PrintMore
set_option linter.unusedVariables false
theorem Zt.forget {w0 w : World} {ts : List (Value × (World → Value → Prop))} {bs : List (Nat × TypeId × Array Value)} (Z : Zt w0 w ts bs) (i : Nat) : Zt w0 w ts (bs.eraseIdx i) := by
  have hget : ∀ (n : Nat) (q : Nat × TypeId × Array Value), (bs.eraseIdx i)[n]? = some q → bs[if n < i then n else n + 1]? = some q := by
    intro n q h
    rw [List.getElem?_eraseIdx] at h
    split at h
    · rename_i h1
      rw [if_pos h1]
      exact h
    · rename_i h1
      rw [if_neg h1]
      exact h
  refine ⟨Z.below, Z.typ, fun p hp => Z.box p (List.mem_of_mem_eraseIdx hp), fun a b p q hne ha hb => Z.apart _ _ p q ?_ (hget a p ha) (hget b q hb)⟩
  split <;> split <;> omega
/-- bits of z -/
def bz (z : Int) : Int := ((bl (((z.natAbs : Nat) : Int)).toNat : Nat) : Int)
/-- too long a power -/
def powL (z n : Int) : Bool := decide (0 < bz z) && decide (Int.tdiv 65536 (bz z) < n)
def powZ (z n : Int) : Int := if n < 0 then 0 else if powL z n = true then 0 else z ^ n.toNat
def powE (z n : Int) : Int := if n < 0 then 1 else if powL z n = true then 2 else 0
theorem bz_nat (z : Int) : bz z = ((bl z.natAbs : Nat) : Int) := by
  unfold bz
  rw [show (((z.natAbs : Nat) : Int)).toNat = z.natAbs by omega]
theorem bz_zero {z : Int} : bz z = 0 ↔ z = 0 := bl_abs
theorem pow_bd {z n : Int} (hz : z ≠ 0) (hn : powL z n = false) {k : Nat} (hk : (k : Int) ≤ n) : Bd 65537 (z ^ k) := by
  have hb : 0 < bz z := by
    have := bz_nat z
    have h : ¬ bz z = 0 := fun e => hz (bz_zero.mp e)
    omega
  unfold powL at hn
  rw [decide_eq_true hb, Bool.true_and] at hn
  have hn := of_decide_eq_false hn
  rw [Int.tdiv_eq_ediv_of_nonneg (by omega)] at hn
  have h1 : (k : Int) ≤ 65536 / bz z := by omega
  have h2 : bz z * (k : Int) ≤ 65536 := by
    have e := Int.emod_add_mul_ediv 65536 (bz z)
    have e2 := Int.emod_nonneg 65536 (show bz z ≠ 0 by omega)
    have : bz z * (k : Int) ≤ bz z * (65536 / bz z) := Int.mul_le_mul_of_nonneg_left h1 (by omega)
    omega
  rw [bz_nat] at h2
  have h4 : bl z.natAbs * k ≤ 65536 := by
    have : ((bl z.natAbs * k : Nat) : Int) ≤ 65536 := by rw [Int.natCast_mul]; exact h2
    omega
  have h5 : Bd (bl z.natAbs * k + 1) (z ^ k) := by
    unfold Bd
    rw [Int.natAbs_pow]
    have h3 := bl_lt z.natAbs
    rcases Nat.eq_zero_or_pos k with e | e
    · subst e
      rw [Nat.pow_zero]
      exact Nat.one_lt_two_pow (by omega)
    · refine Nat.lt_of_lt_of_le (Nat.pow_lt_pow_left h3 (by omega)) ?_
      rw [← Nat.pow_mul]
      exact two_mono (by omega)
  exact h5.mono (by omega)
theorem run_neg' {a : Act} {o : Oper} {W : World} {p : Operand} {x y : Int} (h : wrap64 (-x) = y) (ho : o.op = .unOp .neg 3 p) (he : a.eval p = .int .i64 x) : (execOp a.eval o).run Try.prog W = .ok (.value (.int .i64 y)) W := by
  subst h
  exact run_neg ho he
theorem zint_two.int {w : World} {n : Int} (h0 : 0 ≤ n) (h1 : n ≤ 65536) : Calls Try.prog 90 #[.int .i64 n] w (ResM w (2 ^ n.toNat)) := by
  obtain ⟨N, rfl⟩ := Int.eq_ofNat_of_zero_le h0
  exact zint_two.sem (by omega)
def shiftZ (z n : Int) : Int := if 65536 < n ∨ n < -65536 then 0 else if 0 ≤ n then z * 2 ^ n.toNat else z.fdiv (2 ^ (-n).toNat)
def shiftE (n : Int) : Int := if 65536 < n ∨ n < -65536 then 2 else 0
theorem shift_out {z n : Int} (h : 65536 < n ∨ n < -65536) : 0 = shiftZ z n ∧ Value.int .i64 2 = .int .i64 (shiftE n) := by
  unfold shiftZ shiftE
  rw [if_pos h, if_pos h]
  exact ⟨rfl, rfl⟩
theorem shift_up {z n : Int} (h : ¬ (65536 < n ∨ n < -65536)) (h0 : 0 ≤ n) : z * 2 ^ n.toNat = shiftZ z n ∧ Value.int .i64 0 = .int .i64 (shiftE n) := by
  unfold shiftZ shiftE
  rw [if_neg h, if_neg h, if_pos h0]
  exact ⟨rfl, rfl⟩
theorem shift_down {z n : Int} (h : ¬ (65536 < n ∨ n < -65536)) (h0 : ¬ 0 ≤ n) : z.fdiv (2 ^ (-n).toNat) = shiftZ z n ∧ Value.int .i64 0 = .int .i64 (shiftE n) := by
  unfold shiftZ shiftE
  rw [if_neg h, if_neg h, if_neg h0]
  exact ⟨rfl, rfl⟩
end Go.Proofs.Ytmbmbmkmjbpcpaa.PA


/- The walks of Shift. -/
namespace Go.Proofs.Ytmbmbmkmjbpcpaa.PA
open Go Go.Proofs.Ytmbmbmkmjbpcpaa.Nums Go.RowKit Go.Proofs.YtmbmbmkmjbpcpaaW.PrintWords Go.Proofs.YtmbmbmkmjbpcpaaW.PrintLast Go.Proofs.YtmbmbmkmjbpcpaaW.PrintMore
set_option linter.unusedVariables false
set_option linter.unusedSimpArgs false
set_option maxHeartbeats 4000000 in
set_option maxRecDepth 100000 in
theorem zint_Shift.sem {w : World} {b1 : Bool} {v1 : Value} {z1 n : Int} (m1 : NumV w b1 v1 z1) (hb1 : Bd 100000000 z1) : Calls Try.prog 63 #[.agg #[.bool b1, v1], .int .i64 n] w (ResIi w (shiftZ z1 n) (.int .i64 (shiftE n))) := by
  obtain ⟨A1, n1, c1, rfl⟩ := m1.form
  have Z := Zt.begin1 m1
  go_enter Try.func63, Try.ntmps63
  refine wp_seq ?_
  refine wp_region_list ?_
  refine seq_box Z rfl rfl rfl ?_; clear Z; intro g1 W Z
  (try simp only [Act.put, List.setIfInBounds_toArray, List.set_cons_zero, List.set_cons_succ])
  refine seq_alloc Z rfl rfl ?_; clear Z; intro g2 W Z
  (try simp only [Act.put, List.setIfInBounds_toArray, List.set_cons_zero, List.set_cons_succ])
  refine seq_is (v := .int .i64 (0)) rfl (run_assign rfl rfl) ?_
  (try simp only [Act.put, List.setIfInBounds_toArray, List.set_cons_zero, List.set_cons_succ])
  show Code.wp _ _ _ _ _
  refine wp_seq ?_
  refine wp_seq ?_
  rcases Bool.eq_false_or_eq_true (decide ((65536) < (n))) with hk3 | hk3
  · have p_hk3 := of_decide_eq_true hk3
    refine wp_region_list ?_
    refine seq_is (v := .int .i64 (n)) rfl (run_move rfl rfl) ?_
    (try simp only [Act.put, List.setIfInBounds_toArray, List.set_cons_zero, List.set_cons_succ])
    refine seq_is (v := .bool (decide ((65536) < (n)))) rfl (run_gtr rfl rfl rfl) ?_
    (try simp only [Act.put, List.setIfInBounds_toArray, List.set_cons_zero, List.set_cons_succ])
    refine seq_is (v := .bool (decide ((65536) < (n)))) rfl (run_move rfl rfl) ?_
    (try simp only [Act.put, List.setIfInBounds_toArray, List.set_cons_zero, List.set_cons_succ])
    refine list_unwant rfl rfl (congrArg some (congrArg Value.bool hk3)) (by decide) ?_
    refine list_unwant rfl rfl (congrArg some (congrArg Value.bool hk3)) (by decide) ?_
    refine seq_is (v := .bool (true)) rfl (run_pickT rfl ((show _ = Value.bool (decide ((65536) < (n))) from rfl).trans (congrArg Value.bool hk3)) rfl) ?_
    (try simp only [Act.put, List.setIfInBounds_toArray, List.set_cons_zero, List.set_cons_succ])
    show Code.wp _ _ _ _ _
    refine wp_cond_true rfl ?_
    refine wp_seq ?_
    refine wp_region_list ?_
    refine seq_is (v := .agg #[.bool (false), .slice none 0 0]) rfl (run_build0 rfl) ?_
    (try simp only [Act.put, List.setIfInBounds_toArray, List.set_cons_zero, List.set_cons_succ])
    refine seq_store Z 0 rfl rfl rfl rfl rfl ?_; clear Z; intro W Z
    (try simp only [Act.put, List.setIfInBounds_toArray, List.set_cons_zero, List.set_cons_succ])
    refine seq_is (v := .int .i64 (2)) rfl (run_assign rfl rfl) ?_
    (try simp only [Act.put, List.setIfInBounds_toArray, List.set_cons_zero, List.set_cons_succ])
    show Code.wp _ _ _ _ _
    refine wp_ret ?_
    exact Z.nought.endsIi (u := .int .i64 (2)) (y' := 0) (x' := 0) 0 0 rfl rfl rfl rfl rfl rfl (by exact (shift_out (by omega)).1) (by exact (shift_out (z := z1) (by omega)).2)
  · have p_hk3 := of_decide_eq_false hk3
    refine wp_region_list ?_
    refine seq_is (v := .int .i64 (n)) rfl (run_move rfl rfl) ?_
    (try simp only [Act.put, List.setIfInBounds_toArray, List.set_cons_zero, List.set_cons_succ])
    refine seq_is (v := .bool (decide ((65536) < (n)))) rfl (run_gtr rfl rfl rfl) ?_
    (try simp only [Act.put, List.setIfInBounds_toArray, List.set_cons_zero, List.set_cons_succ])
    refine seq_is (v := .bool (decide ((65536) < (n)))) rfl (run_move rfl rfl) ?_
    (try simp only [Act.put, List.setIfInBounds_toArray, List.set_cons_zero, List.set_cons_succ])
    refine list_want rfl rfl (congrArg some (congrArg Value.bool hk3)) (wp_run (v := .int .i64 (n)) (run_move rfl rfl) ?_)
    (try simp only [Act.put, List.setIfInBounds_toArray, List.set_cons_zero, List.set_cons_succ])
    refine list_want rfl rfl (congrArg some (congrArg Value.bool hk3)) (wp_run (v := .bool (decide ((n) < (-65536)))) (run_lss rfl rfl rfl) ?_)
    (try simp only [Act.put, List.setIfInBounds_toArray, List.set_cons_zero, List.set_cons_succ])
    refine seq_is (v := .bool (decide ((n) < (-65536)))) rfl (run_pickF rfl ((show _ = Value.bool (decide ((65536) < (n))) from rfl).trans (congrArg Value.bool hk3)) rfl) ?_
    (try simp only [Act.put, List.setIfInBounds_toArray, List.set_cons_zero, List.set_cons_succ])
    show Code.wp _ _ _ _ _
    refine wp_cond_split (t := decide ((n) < (-65536))) rfl ?_ ?_
    · intro hc4
      have p_hc4 := of_decide_eq_true hc4
      refine wp_seq ?_
      refine wp_region_list ?_
      refine seq_is (v := .agg #[.bool (false), .slice none 0 0]) rfl (run_build0 rfl) ?_
      (try simp only [Act.put, List.setIfInBounds_toArray, List.set_cons_zero, List.set_cons_succ])
      refine seq_store Z 0 rfl rfl rfl rfl rfl ?_; clear Z; intro W Z
      (try simp only [Act.put, List.setIfInBounds_toArray, List.set_cons_zero, List.set_cons_succ])
      refine seq_is (v := .int .i64 (2)) rfl (run_assign rfl rfl) ?_
      (try simp only [Act.put, List.setIfInBounds_toArray, List.set_cons_zero, List.set_cons_succ])
      show Code.wp _ _ _ _ _
      refine wp_ret ?_
      exact Z.nought.endsIi (u := .int .i64 (2)) (y' := 0) (x' := 0) 0 0 rfl rfl rfl rfl rfl rfl (by exact (shift_out (by omega)).1) (by exact (shift_out (z := z1) (by omega)).2)
    · intro hc4
      have p_hc4 := of_decide_eq_false hc4
      refine wp_skip ?_
      show Code.wp _ _ _ _ _
      refine wp_seq ?_
      refine wp_seq ?_
      refine wp_region_list ?_
      refine seq_is (v := .int .i64 (n)) rfl (run_move rfl rfl) ?_
      (try simp only [Act.put, List.setIfInBounds_toArray, List.set_cons_zero, List.set_cons_succ])
      refine seq_is (v := .bool (decide ((0) ≤ (n)))) rfl (run_geq rfl rfl rfl) ?_
      (try simp only [Act.put, List.setIfInBounds_toArray, List.set_cons_zero, List.set_cons_succ])
      show Code.wp _ _ _ _ _
      refine wp_cond_split (t := decide ((0) ≤ (n))) rfl ?_ ?_
      · intro hc5
        have p_hc5 := of_decide_eq_true hc5
        refine wp_seq ?_
        refine wp_dag (pre := [_, _, _, _, _]) (sps := [.is (.agg #[.bool (b1), .slice A1 n1 c1]), .is (.int .i64 (n)), spM w (2 ^ (n).toNat), .val Sl (fun x => .agg #[.bool (false), x.v]) (fun x => [(x.v, tyO w (lm (2 ^ (n).toNat)))]), spI w ((z1) * (zof (false) (2 ^ (n).toNat)))]) Z (by kernel_rfl) _ rfl (by kernel_rfl) (by kernel_rfl) rfl ⟨?_, ?_, ?_, ?_, ?_, trivial⟩ ?_
        · intro a e6 W Q Z; exact step_is (fun _ h => op_plain rfl rfl h) (run_load2 rfl (ev e6) (Z.bx 1 rfl))
        · intro a e8 W Q Z; exact step_is (fun _ h => op_plain rfl rfl h) (run_move rfl (ev e8))
        · intro a x10 e11 W Q Z; exact step_call (fun _ h => op_plain rfl rfl h) rfl Try.func90 rfl rfl (args1 (ev e11)) (Z.callM (zint_two.int (n := n) (by omega) (by omega)))
        · intro a x13 e14 W Q Z; exact step_val x13 (fun _ h => op_plain rfl rfl h) (run_build1 rfl (ev e14)) (has_one (Z.has 0 rfl))
        · intro a x16 e17 x18 e19 W Q Z; exact step_call (fun _ h => op_plain rfl rfl h) rfl Try.func23 rfl rfl (args2 (ev e17) (ev e19)) (Z.callI (zint_Mul.sem (Z.num 1 rfl) (NumV.of_mag (Z.ownM 0 rfl (Int.le_of_lt (two_pos _)) (fm_two (by omega)))) (Bd.fm (Bd.mul (Bd.abs hb1) (Bd.abs (Bd.zof (Bd.two (k := 65537) (by omega))))) (by decide)) ))
        clear Z; intro x7 x9 x12 x15 x20 W Z
        (try simp only [Act.put, List.setIfInBounds_toArray, List.set_cons_zero, List.set_cons_succ])
        refine seq_store Z 0 rfl rfl rfl rfl rfl ?_; clear Z; intro W Z
        (try simp only [Act.put, List.setIfInBounds_toArray, List.set_cons_zero, List.set_cons_succ])
        refine seq_is (v := .int .i64 (0)) rfl (run_assign rfl rfl) ?_
        (try simp only [Act.put, List.setIfInBounds_toArray, List.set_cons_zero, List.set_cons_succ])
        show Code.wp _ _ _ _ _
        refine wp_ret ?_
        exact Z.endsIi (u := .int .i64 (0)) (y' := 0) (x' := 0) 0 0 rfl rfl rfl rfl rfl rfl (by exact (shift_up (by omega) (by omega)).1) (by exact (shift_up (z := z1) (by omega) (by omega)).2)
      · intro hc5
        have p_hc5 := of_decide_eq_false hc5
        refine wp_skip ?_
        show Code.wp _ _ _ _ _
        refine wp_seq ?_
        refine wp_dag2 (pre := [_, _, _, _, _, _, _, _, _, _, _, _]) (sps := [.is (.agg #[.bool (b1), .slice A1 n1 c1]), .is (.int .i64 (n)), .is (.int .i64 (-n)), spM w (2 ^ (-n).toNat), .val Sl (fun x => .agg #[.bool (false), x.v]) (fun x => [(x.v, tyO w (lm (2 ^ (-n).toNat)))]), spIIi w ((z1 : Int).fdiv (zof (false) (2 ^ (-n).toNat))) ((z1 : Int).fmod (zof (false) (2 ^ (-n).toNat))) (.int .i64 (0)), spIIi w ((z1 : Int).fdiv (zof (false) (2 ^ (-n).toNat))) ((z1 : Int).fmod (zof (false) (2 ^ (-n).toNat))) (.int .i64 (0)), spI w ((z1 : Int).fdiv (zof (false) (2 ^ (-n).toNat))), spI w ((z1 : Int).fmod (zof (false) (2 ^ (-n).toNat))), .is (.int .i64 (0)), .box 25 #[.bool false, .slice none 0 0], .box 25 #[.bool false, .slice none 0 0]]) Z (by kernel_rfl) _ rfl (by kernel_rfl) (by kernel_rfl) (by kernel_rfl) rfl (fun _ _ d _ _ h => by cases d <;> exact h) ⟨?_, ?_, ?_, ?_, ?_, ?_, ?_, ?_, ?_, ?_, ?_, ?_, trivial⟩ ?_
        · intro a e21 W Q Z; exact step_is (fun _ h => op_plain rfl rfl h) (run_load2 rfl (ev e21) (Z.bx 1 rfl))
        · intro a e23 W Q Z; exact step_is (fun _ h => op_plain rfl rfl h) (run_move rfl (ev e23))
        · intro a x25 e26 W Q Z; exact step_is (fun _ h => op_plain rfl rfl h) (run_neg' (w64 (by omega) (by omega)) rfl (ev e26))
        · intro a x28 e29 W Q Z; exact step_call (fun _ h => op_plain rfl rfl h) rfl Try.func90 rfl rfl (args1 (ev e29)) (Z.callM (zint_two.int (n := -n) (by omega) (by omega)))
        · intro a x31 e32 W Q Z; exact step_val x31 (fun _ h => op_plain rfl rfl h) (run_build1 rfl (ev e32)) (has_one (Z.has 0 rfl))
        · intro a x34 e35 x36 e37 W Q Z; exact step_call (fun _ h => op_plain rfl rfl h) rfl Try.func51 rfl rfl (args2 (ev e35) (ev e37)) (Z.callIIi (zint_Floor.sem (Z.num 1 rfl) (NumV.of_mag (Z.ownM 0 rfl (Int.le_of_lt (two_pos _)) (fm_two (by omega))))  (Bd.mono hb1 (by decide)) (Bd.mono (Bd.zof (Bd.two (k := 65537) (by omega))) (by decide)) (Int.ne_of_gt (two_pos _))))
        · intro a x39 e40 W Q Z; exact step_val x39 (fun _ h => op_plain rfl rfl h) (run_move rfl (ev e40)) (has_two (Z.has 0 rfl) (Z.has 1 rfl))
        · intro a x42 e43 W Q Z; exact step_val x42.1 (fun _ h => op_plain rfl rfl h) (run_extract rfl (ev e43) rfl) (has_one (Z.has 0 rfl))
        · intro a x45 e46 W Q Z; exact step_val x45.2 (fun _ h => op_plain rfl rfl h) (run_extract rfl (ev e46) rfl) (has_one (Z.has 1 rfl))
        · intro a x48 e49 W Q Z; exact step_is (fun _ h => op_plain rfl rfl h) (run_extract rfl (ev e49) rfl)
        · intro a W Q Z; exact step_box (fun _ h => op_plain rfl rfl h) (by decide) (run_alloc2 rfl)
        · intro a W Q Z; exact step_box (fun _ h => op_plain rfl rfl h) (by decide) (run_alloc2 rfl)
        clear Z; intro x22 x24 x27 x30 x33 x38 x41 x44 x47 x50 g51 g52 W Z
        (try simp only [Act.put, List.setIfInBounds_toArray, List.set_cons_zero, List.set_cons_succ])
        refine seq_store Z 1 rfl rfl rfl rfl rfl ?_; clear Z; intro W Z
        (try simp only [Act.put, List.setIfInBounds_toArray, List.set_cons_zero, List.set_cons_succ])
        refine seq_store Z 0 rfl rfl rfl rfl rfl ?_; clear Z; intro W Z
        (try simp only [Act.put, List.setIfInBounds_toArray, List.set_cons_zero, List.set_cons_succ])
        refine seq_is (v := .int .i64 (0)) rfl (run_assign rfl rfl) ?_
        (try simp only [Act.put, List.setIfInBounds_toArray, List.set_cons_zero, List.set_cons_succ])
        show Code.wp _ _ _ _ _
        refine wp_seq ?_
        refine wp_region_list ?_
        refine seq_is (v := .agg #[.bool (decide ((z1 : Int).fdiv (zof (false) (2 ^ (-n).toNat)) < 0)), x44.v]) rfl (run_load2 rfl rfl (Z.bx 1 rfl)) ?_
        (try simp only [Act.put, List.setIfInBounds_toArray, List.set_cons_zero, List.set_cons_succ])
        refine seq_store Z 2 rfl rfl rfl rfl rfl ?_; clear Z; intro W Z
        (try simp only [Act.put, List.setIfInBounds_toArray, List.set_cons_zero, List.set_cons_succ])
        refine seq_is (v := .int .i64 (0)) rfl (run_assign rfl rfl) ?_
        (try simp only [Act.put, List.setIfInBounds_toArray, List.set_cons_zero, List.set_cons_succ])
        show Code.wp _ _ _ _ _
        refine wp_ret ?_
        exact Z.endsIi (u := .int .i64 (0)) (y' := 0) (x' := 0) 2 1 rfl rfl rfl rfl rfl rfl (by exact (shift_down (by omega) (by omega)).1) (by exact (shift_down (z := z1) (by omega) (by omega)).2)
end Go.Proofs.Ytmbmbmkmjbpcpaa.PA


/- The walks of Power. -/
namespace Go.Proofs.Ytmbmbmkmjbpcpaa.PA
open Go Go.Proofs.Ytmbmbmkmjbpcpaa.Nums Go.RowKit Go.Proofs.YtmbmbmkmjbpcpaaW.PrintWords Go.Proofs.YtmbmbmkmjbpcpaaW.PrintLast Go.Proofs.YtmbmbmkmjbpcpaaW.PrintMore
set_option linter.unusedVariables false
set_option linter.unusedSimpArgs false
theorem run_quoI {a : Act} {o : Oper} {W : World} {p q : Operand} {x y z : Int} (h0 : ¬ y = 0) (h : IntKind.i64.wrap (Int.tdiv x y) = z) (ho : o.op = .binOp .quo 3 p q 3) (he : a.eval p = .int .i64 x) (he2 : a.eval q = .int .i64 y) : (execOp a.eval o).run Try.prog W = .ok (.value (.int .i64 z)) W := by
  subst h
  unfold execOp
  simp only [ho, he, he2]
  go_simp
theorem tdiv_i64 {y : Int} (h : 0 < y) : IntKind.i64.wrap (Int.tdiv 65536 y) = Int.tdiv 65536 y := by
  have h1 : Int.tdiv 65536 y = 65536 / y := Int.tdiv_eq_ediv_of_nonneg (by omega)
  have h2 : 0 ≤ (65536 : Int) / y := Int.ediv_nonneg (by omega) (by omega)
  have h3 : (65536 : Int) / y ≤ 65536 := Int.ediv_le_self _ (by omega)
  rw [h1]
  exact i64s (by omega) (by omega)
theorem tdiv_le {y : Int} (h : 0 < y) : Int.tdiv 65536 y ≤ 65536 := by
  have h1 : Int.tdiv 65536 y = 65536 / y := Int.tdiv_eq_ediv_of_nonneg (by omega)
  have h3 : (65536 : Int) / y ≤ 65536 := Int.ediv_le_self _ (by omega)
  omega
theorem pow_neg {z n : Int} (h : n < 0) : 0 = powZ z n ∧ Value.int .i64 1 = .int .i64 (powE z n) := by
  unfold powZ powE
  rw [if_pos h, if_pos h]
  exact ⟨rfl, rfl⟩
theorem pow_long {z n : Int} (h : ¬ n < 0) (hL : powL z n = true) : 0 = powZ z n ∧ Value.int .i64 2 = .int .i64 (powE z n) := by
  unfold powZ powE
  rw [if_neg h, if_neg h, if_pos hL, if_pos hL]
  exact ⟨rfl, rfl⟩
theorem pow_ok {z n x : Int} (h : ¬ n < 0) (hL : powL z n = false) (hx : x = z ^ n.toNat) : x = powZ z n ∧ Value.int .i64 0 = .int .i64 (powE z n) := by
  unfold powZ powE
  rw [if_neg h, if_neg h, hL, hx]
  exact ⟨rfl, rfl⟩
theorem powL_t {z n : Int} (hb : decide ((0 : Int) < bz z) = true) (h : decide (Int.tdiv 65536 (bz z) < n) = true) : powL z n = true := by
  unfold powL
  rw [hb, h]
  rfl
theorem powL_f {z n : Int} (h : decide (Int.tdiv 65536 (bz z) < n) = false) : powL z n = false := by
  unfold powL
  rw [h, Bool.and_false]
theorem powL_0 {z n : Int} (h : decide ((0 : Int) < bz z) = false) : powL z n = false := by
  unfold powL
  rw [h, Bool.false_and]
theorem bzp {z : Int} (h : z ≠ 0) : decide ((0 : Int) < bz z) = true := by
  have h1 := bz_nat z
  have h2 : ¬ bz z = 0 := fun e => h (bz_zero.mp e)
  exact decide_eq_true (by omega)
theorem bz0 {z : Int} (h : z = 0) : decide ((0 : Int) < bz z) = false := by
  have h2 : bz z = 0 := bz_zero.mpr h
  exact decide_eq_false (by omega)
theorem run_and1 {a : Act} {o : Oper} {W : World} {p : Operand} {x : Int} (h0 : 0 ≤ x) (h1 : x < 9223372036854775808) (ho : o.op = .binOp .and 3 p (.const (.int .i64 1)) 3) (he : a.eval p = .int .i64 x) : (execOp a.eval o).run Try.prog W = .ok (.value (.int .i64 (x % 2))) W := by
  have e2 : a.eval (.const (.int .i64 1)) = .int .i64 1 := rfl
  have e3 := and1 h0 h1
  unfold execOp
  simp only [ho, he, e2]
  go_simp
  try exact e3
theorem run_shr1 {a : Act} {o : Oper} {W : World} {p : Operand} {x : Int} (ho : o.op = .binOp .shr 3 p (.const (.int .u64 1)) 77) (he : a.eval p = .int .i64 x) : (execOp a.eval o).run Try.prog W = .ok (.value (.int .i64 (x / 2))) W := by
  have e2 : a.eval (.const (.int .u64 1)) = .int .u64 1 := rfl
  unfold execOp
  simp only [ho, he, e2]
  go_simp
theorem le_mul1 {e : Nat} {m : Int} (h : 1 ≤ m) : (e : Int) ≤ e * m := by
  have : (e : Int) * 1 ≤ e * m := Int.mul_le_mul_of_nonneg_left h (by omega)
  omega
theorem le_mul2 {e : Nat} {m : Int} (h : 1 ≤ e) (h0 : 0 ≤ m) : m ≤ e * m := by
  have : (1 : Int) * m ≤ (e : Int) * m := Int.mul_le_mul_of_nonneg_right (by omega) h0
  omega
theorem sq_odd {e f : Nat} {m n : Int} (ho : m % 2 = 1) (hI : (f : Int) + e * m = n) : ((f + e : Nat) : Int) + ((2 * e : Nat) : Int) * (m / 2) = n := by
  have hm : m = 2 * (m / 2) + 1 := by omega
  generalize m / 2 = k at *
  subst hm
  rw [Int.mul_add, Int.mul_one] at hI
  rw [show ((2 * e : Nat) : Int) * k = e * (2 * k) by rw [Int.natCast_mul, Int.mul_comm ((2 : Nat) : Int), Int.mul_assoc]; rfl]
  omega
theorem sq_even {e f : Nat} {m n : Int} (ho : ¬ m % 2 = 1) (hI : (f : Int) + e * m = n) : ((f : Nat) : Int) + ((2 * e : Nat) : Int) * (m / 2) = n := by
  have hm : m = 2 * (m / 2) := by omega
  generalize m / 2 = k at *
  subst hm
  rw [show ((2 * e : Nat) : Int) * k = e * (2 * k) by rw [Int.natCast_mul, Int.mul_comm ((2 : Nat) : Int), Int.mul_assoc]; rfl]
  omega
theorem sq_pow {z X : Int} {e : Nat} (h : X = z ^ e) : X * X = z ^ (2 * e) := by
  subst h
  rw [← Int.pow_add, show 2 * e = e + e by omega]
theorem mul_pow' {z X P : Int} {e f : Nat} (h : X = z ^ e) (k : P = z ^ f) : P * X = z ^ (f + e) := by
  subst h
  subst k
  rw [← Int.pow_add]
set_option maxHeartbeats 4000000 in
set_option maxRecDepth 100000 in
theorem zint_Power.sem0 {w : World} {b1 : Bool} {v1 : Value} {z1 n : Int} (m1 : NumV w b1 v1 z1) (hb1 : Bd 100000000 z1) (hn : n ≤ 9223372036854775807) (h0 : z1 = 0) : Calls Try.prog 61 #[.agg #[.bool b1, v1], .int .i64 n] w (ResIi w (powZ z1 n) (.int .i64 (powE z1 n))) := by
  obtain ⟨A1, n1, c1, rfl⟩ := m1.form
  have Z := Zt.begin1 m1
  have hb := bz0 h0
  have hbe : decide ((((bl (((z1).natAbs : Nat) : Int).toNat : Nat) : Int)) = (0)) = true := decide_eq_true (bz_zero.mpr h0)
  go_enter Try.func61, Try.ntmps61
  refine wp_seq ?_
  refine wp_region_list ?_
  refine seq_box Z rfl rfl rfl ?_; clear Z; intro g1 W Z
  (try simp only [Act.put, List.setIfInBounds_toArray, List.set_cons_zero, List.set_cons_succ])
  refine seq_alloc Z rfl rfl ?_; clear Z; intro g2 W Z
  (try simp only [Act.put, List.setIfInBounds_toArray, List.set_cons_zero, List.set_cons_succ])
  refine seq_is (v := .int .i64 (0)) rfl (run_assign rfl rfl) ?_
  (try simp only [Act.put, List.setIfInBounds_toArray, List.set_cons_zero, List.set_cons_succ])
  show Code.wp _ _ _ _ _
  refine wp_seq ?_
  refine wp_seq ?_
  refine wp_region_list ?_
  refine seq_is (v := .agg #[.bool (b1), .slice A1 n1 c1]) rfl (run_load2 rfl rfl (Z.bx 1 rfl)) ?_
  (try simp only [Act.put, List.setIfInBounds_toArray, List.set_cons_zero, List.set_cons_succ])
  refine seq_call Z rfl rfl Try.func47 rfl rfl (args1 rfl) (Z.callV (zint_Bits.sem (Z.num 0 rfl)  )) ?_; clear Z; intro x3 W Z
  (try simp only [Act.put, List.setIfInBounds_toArray, List.set_cons_zero, List.set_cons_succ])
  refine seq_is (v := .int .i64 (((bl (((z1).natAbs : Nat) : Int).toNat : Nat) : Int))) rfl (run_assign rfl rfl) ?_
  (try simp only [Act.put, List.setIfInBounds_toArray, List.set_cons_zero, List.set_cons_succ])
  show Code.wp _ _ _ _ _
  refine wp_block ?_
  refine wp_seq ?_
  refine wp_region_list ?_
  refine seq_is (v := .int .i64 (n)) rfl (run_move rfl rfl) ?_
  (try simp only [Act.put, List.setIfInBounds_toArray, List.set_cons_zero, List.set_cons_succ])
  refine seq_is (v := .bool (decide ((n) < (0)))) rfl (run_lss rfl rfl rfl) ?_
  (try simp only [Act.put, List.setIfInBounds_toArray, List.set_cons_zero, List.set_cons_succ])
  refine seq_is (v := .bool (decide ((n) < (0)))) rfl (run_assign rfl rfl) ?_
  (try simp only [Act.put, List.setIfInBounds_toArray, List.set_cons_zero, List.set_cons_succ])
  show Code.wp _ _ _ _ _
  refine wp_cond_split (t := decide ((n) < (0))) rfl ?_ ?_
  · intro hc4
    have p_hc4 := of_decide_eq_true hc4
    refine wp_seq ?_
    refine wp_region_list ?_
    refine seq_is (v := .agg #[.bool (false), .slice none 0 0]) rfl (run_build0 rfl) ?_
    (try simp only [Act.put, List.setIfInBounds_toArray, List.set_cons_zero, List.set_cons_succ])
    refine seq_store Z 0 rfl rfl rfl rfl rfl ?_; clear Z; intro W Z
    (try simp only [Act.put, List.setIfInBounds_toArray, List.set_cons_zero, List.set_cons_succ])
    refine seq_is (v := .int .i64 (1)) rfl (run_assign rfl rfl) ?_
    (try simp only [Act.put, List.setIfInBounds_toArray, List.set_cons_zero, List.set_cons_succ])
    show Code.wp _ _ _ _ _
    refine wp_ret ?_
    exact Z.nought.endsIi (u := .int .i64 (1)) (y' := 0) (x' := 0) 0 0 rfl rfl rfl rfl rfl rfl (by exact (pow_neg p_hc4).1) (by exact (pow_neg (z := z1) p_hc4).2)
  · intro hc4
    have p_hc4 := of_decide_eq_false hc4
    refine wp_seq ?_
    refine wp_region_list ?_
    refine seq_is (v := .int .i64 (((bl (((z1).natAbs : Nat) : Int).toNat : Nat) : Int))) rfl (run_move rfl rfl) ?_
    (try simp only [Act.put, List.setIfInBounds_toArray, List.set_cons_zero, List.set_cons_succ])
    refine seq_is (v := .bool (decide ((0) < (((bl (((z1).natAbs : Nat) : Int).toNat : Nat) : Int))))) rfl (run_gtr rfl rfl rfl) ?_
    (try simp only [Act.put, List.setIfInBounds_toArray, List.set_cons_zero, List.set_cons_succ])
    refine seq_is (v := .bool (decide ((0) < (((bl (((z1).natAbs : Nat) : Int).toNat : Nat) : Int))))) rfl (run_move rfl rfl) ?_
    (try simp only [Act.put, List.setIfInBounds_toArray, List.set_cons_zero, List.set_cons_succ])
    refine list_unwant rfl rfl (congrArg some (congrArg Value.bool hb)) (by decide) ?_
    refine list_unwant rfl rfl (congrArg some (congrArg Value.bool hb)) (by decide) ?_
    refine list_unwant rfl rfl (congrArg some (congrArg Value.bool hb)) (by decide) ?_
    refine list_unwant rfl rfl (congrArg some (congrArg Value.bool hb)) (by decide) ?_
    refine seq_is (v := .bool (false)) rfl (run_pickF rfl ((show _ = Value.bool (decide ((0) < (((bl (((z1).natAbs : Nat) : Int).toNat : Nat) : Int)))) from rfl).trans (congrArg Value.bool hb)) rfl) ?_
    (try simp only [Act.put, List.setIfInBounds_toArray, List.set_cons_zero, List.set_cons_succ])
    refine seq_is (v := .bool (false)) rfl (run_assign rfl rfl) ?_
    (try simp only [Act.put, List.setIfInBounds_toArray, List.set_cons_zero, List.set_cons_succ])
    show Code.wp _ _ _ _ _
    refine wp_cond_false rfl ?_
    refine wp_seq ?_
    refine wp_region_list ?_
    refine seq_is (v := .int .i64 (n)) rfl (run_move rfl rfl) ?_
    (try simp only [Act.put, List.setIfInBounds_toArray, List.set_cons_zero, List.set_cons_succ])
    refine seq_is (v := .bool (decide ((n) = (0)))) rfl (run_eql rfl rfl rfl) ?_
    (try simp only [Act.put, List.setIfInBounds_toArray, List.set_cons_zero, List.set_cons_succ])
    refine seq_is (v := .bool (decide ((n) = (0)))) rfl (run_assign rfl rfl) ?_
    (try simp only [Act.put, List.setIfInBounds_toArray, List.set_cons_zero, List.set_cons_succ])
    show Code.wp _ _ _ _ _
    refine wp_cond_split (t := decide ((n) = (0))) rfl ?_ ?_
    · intro hc5
      have p_hc5 := of_decide_eq_true hc5
      refine wp_seq ?_
      refine wp_region_list ?_
      refine seq_call Z rfl rfl Try.func30 rfl rfl (args1 rfl) (Z.callI (zint_Of.sem (by omega) (by omega))) ?_; clear Z; intro x6 W Z
      (try simp only [Act.put, List.setIfInBounds_toArray, List.set_cons_zero, List.set_cons_succ])
      refine seq_store Z 0 rfl rfl rfl rfl rfl ?_; clear Z; intro W Z
      (try simp only [Act.put, List.setIfInBounds_toArray, List.set_cons_zero, List.set_cons_succ])
      refine seq_is (v := .int .i64 (0)) rfl (run_assign rfl rfl) ?_
      (try simp only [Act.put, List.setIfInBounds_toArray, List.set_cons_zero, List.set_cons_succ])
      show Code.wp _ _ _ _ _
      refine wp_ret ?_
      exact Z.endsIi (u := .int .i64 (0)) (y' := 0) (x' := 0) 0 0 rfl rfl rfl rfl rfl rfl (by exact (pow_ok (z := z1) p_hc4 (powL_0 hb) (show (1 : Int) = z1 ^ n.toNat by rw [p_hc5]; exact (Int.pow_zero z1).symm)).1) (by exact (pow_ok (z := z1) p_hc4 (powL_0 hb) (show (1 : Int) = z1 ^ n.toNat by rw [p_hc5]; exact (Int.pow_zero z1).symm)).2)
    · intro hc5
      have p_hc5 := of_decide_eq_false hc5
      refine wp_seq ?_
      refine wp_region_list ?_
      refine seq_is (v := .int .i64 (((bl (((z1).natAbs : Nat) : Int).toNat : Nat) : Int))) rfl (run_move rfl rfl) ?_
      (try simp only [Act.put, List.setIfInBounds_toArray, List.set_cons_zero, List.set_cons_succ])
      refine seq_is (v := .bool (decide ((((bl (((z1).natAbs : Nat) : Int).toNat : Nat) : Int)) = (0)))) rfl (run_eql rfl rfl rfl) ?_
      (try simp only [Act.put, List.setIfInBounds_toArray, List.set_cons_zero, List.set_cons_succ])
      refine seq_is (v := .bool (decide ((((bl (((z1).natAbs : Nat) : Int).toNat : Nat) : Int)) = (0)))) rfl (run_assign rfl rfl) ?_
      (try simp only [Act.put, List.setIfInBounds_toArray, List.set_cons_zero, List.set_cons_succ])
      show Code.wp _ _ _ _ _
      refine wp_cond_true ((show _ = Value.bool (decide ((((bl (((z1).natAbs : Nat) : Int).toNat : Nat) : Int)) = (0))) from rfl).trans (congrArg Value.bool hbe)) ?_
      refine wp_seq ?_
      refine wp_region_list ?_
      refine seq_is (v := .agg #[.bool (false), .slice none 0 0]) rfl (run_build0 rfl) ?_
      (try simp only [Act.put, List.setIfInBounds_toArray, List.set_cons_zero, List.set_cons_succ])
      refine seq_store Z 0 rfl rfl rfl rfl rfl ?_; clear Z; intro W Z
      (try simp only [Act.put, List.setIfInBounds_toArray, List.set_cons_zero, List.set_cons_succ])
      refine seq_is (v := .int .i64 (0)) rfl (run_assign rfl rfl) ?_
      (try simp only [Act.put, List.setIfInBounds_toArray, List.set_cons_zero, List.set_cons_succ])
      show Code.wp _ _ _ _ _
      refine wp_ret ?_
      exact Z.nought.endsIi (u := .int .i64 (0)) (y' := 0) (x' := 0) 0 0 rfl rfl rfl rfl rfl rfl (by exact (pow_ok (z := z1) p_hc4 (powL_0 hb) (by rw [h0, show n.toNat = (n.toNat - 1) + 1 by omega, Int.pow_succ, Int.mul_zero])).1) (by exact (pow_ok (z := z1) p_hc4 (powL_0 hb) (by rw [h0, show n.toNat = (n.toNat - 1) + 1 by omega, Int.pow_succ, Int.mul_zero])).2)
set_option maxHeartbeats 4000000 in
set_option maxRecDepth 100000 in
theorem zint_Power.semN {w : World} {b1 : Bool} {v1 : Value} {z1 n : Int} (m1 : NumV w b1 v1 z1) (hb1 : Bd 100000000 z1) (hn : n ≤ 9223372036854775807) (h0 : z1 ≠ 0) : Calls Try.prog 61 #[.agg #[.bool b1, v1], .int .i64 n] w (ResIi w (powZ z1 n) (.int .i64 (powE z1 n))) := by
  obtain ⟨A1, n1, c1, rfl⟩ := m1.form
  have Z := Zt.begin1 m1
  have hb := bzp h0
  have p_hb : (0 : Int) < ((bl (((z1).natAbs : Nat) : Int).toNat : Nat) : Int) := of_decide_eq_true hb
  have hbe : decide ((((bl (((z1).natAbs : Nat) : Int).toNat : Nat) : Int)) = (0)) = false := decide_eq_false (fun e => h0 (bz_zero.mp e))
  go_enter Try.func61, Try.ntmps61
  refine wp_seq ?_
  refine wp_region_list ?_
  refine seq_box Z rfl rfl rfl ?_; clear Z; intro g1 W Z
  (try simp only [Act.put, List.setIfInBounds_toArray, List.set_cons_zero, List.set_cons_succ])
  refine seq_alloc Z rfl rfl ?_; clear Z; intro g2 W Z
  (try simp only [Act.put, List.setIfInBounds_toArray, List.set_cons_zero, List.set_cons_succ])
  refine seq_is (v := .int .i64 (0)) rfl (run_assign rfl rfl) ?_
  (try simp only [Act.put, List.setIfInBounds_toArray, List.set_cons_zero, List.set_cons_succ])
  show Code.wp _ _ _ _ _
  refine wp_seq ?_
  refine wp_seq ?_
  refine wp_region_list ?_
  refine seq_is (v := .agg #[.bool (b1), .slice A1 n1 c1]) rfl (run_load2 rfl rfl (Z.bx 1 rfl)) ?_
  (try simp only [Act.put, List.setIfInBounds_toArray, List.set_cons_zero, List.set_cons_succ])
  refine seq_call Z rfl rfl Try.func47 rfl rfl (args1 rfl) (Z.callV (zint_Bits.sem (Z.num 0 rfl)  )) ?_; clear Z; intro x3 W Z
  (try simp only [Act.put, List.setIfInBounds_toArray, List.set_cons_zero, List.set_cons_succ])
  refine seq_is (v := .int .i64 (((bl (((z1).natAbs : Nat) : Int).toNat : Nat) : Int))) rfl (run_assign rfl rfl) ?_
  (try simp only [Act.put, List.setIfInBounds_toArray, List.set_cons_zero, List.set_cons_succ])
  show Code.wp _ _ _ _ _
  refine wp_block ?_
  refine wp_seq ?_
  refine wp_region_list ?_
  refine seq_is (v := .int .i64 (n)) rfl (run_move rfl rfl) ?_
  (try simp only [Act.put, List.setIfInBounds_toArray, List.set_cons_zero, List.set_cons_succ])
  refine seq_is (v := .bool (decide ((n) < (0)))) rfl (run_lss rfl rfl rfl) ?_
  (try simp only [Act.put, List.setIfInBounds_toArray, List.set_cons_zero, List.set_cons_succ])
  refine seq_is (v := .bool (decide ((n) < (0)))) rfl (run_assign rfl rfl) ?_
  (try simp only [Act.put, List.setIfInBounds_toArray, List.set_cons_zero, List.set_cons_succ])
  show Code.wp _ _ _ _ _
  refine wp_cond_split (t := decide ((n) < (0))) rfl ?_ ?_
  · intro hc4
    have p_hc4 := of_decide_eq_true hc4
    refine wp_seq ?_
    refine wp_region_list ?_
    refine seq_is (v := .agg #[.bool (false), .slice none 0 0]) rfl (run_build0 rfl) ?_
    (try simp only [Act.put, List.setIfInBounds_toArray, List.set_cons_zero, List.set_cons_succ])
    refine seq_store Z 0 rfl rfl rfl rfl rfl ?_; clear Z; intro W Z
    (try simp only [Act.put, List.setIfInBounds_toArray, List.set_cons_zero, List.set_cons_succ])
    refine seq_is (v := .int .i64 (1)) rfl (run_assign rfl rfl) ?_
    (try simp only [Act.put, List.setIfInBounds_toArray, List.set_cons_zero, List.set_cons_succ])
    show Code.wp _ _ _ _ _
    refine wp_ret ?_
    exact Z.nought.endsIi (u := .int .i64 (1)) (y' := 0) (x' := 0) 0 0 rfl rfl rfl rfl rfl rfl (by exact (pow_neg p_hc4).1) (by exact (pow_neg (z := z1) p_hc4).2)
  · intro hc4
    have p_hc4 := of_decide_eq_false hc4
    refine wp_seq ?_
    refine wp_region_list ?_
    refine seq_is (v := .int .i64 (((bl (((z1).natAbs : Nat) : Int).toNat : Nat) : Int))) rfl (run_move rfl rfl) ?_
    (try simp only [Act.put, List.setIfInBounds_toArray, List.set_cons_zero, List.set_cons_succ])
    refine seq_is (v := .bool (decide ((0) < (((bl (((z1).natAbs : Nat) : Int).toNat : Nat) : Int))))) rfl (run_gtr rfl rfl rfl) ?_
    (try simp only [Act.put, List.setIfInBounds_toArray, List.set_cons_zero, List.set_cons_succ])
    refine seq_is (v := .bool (decide ((0) < (((bl (((z1).natAbs : Nat) : Int).toNat : Nat) : Int))))) rfl (run_move rfl rfl) ?_
    (try simp only [Act.put, List.setIfInBounds_toArray, List.set_cons_zero, List.set_cons_succ])
    refine list_want rfl rfl (congrArg some (congrArg Value.bool hb)) (wp_run (v := .int .i64 (n)) (run_move rfl rfl) ?_)
    (try simp only [Act.put, List.setIfInBounds_toArray, List.set_cons_zero, List.set_cons_succ])
    refine list_want rfl rfl (congrArg some (congrArg Value.bool hb)) (wp_run (v := .int .i64 (((bl (((z1).natAbs : Nat) : Int).toNat : Nat) : Int))) (run_move rfl rfl) ?_)
    (try simp only [Act.put, List.setIfInBounds_toArray, List.set_cons_zero, List.set_cons_succ])
    refine list_want rfl rfl (congrArg some (congrArg Value.bool hb)) (wp_run (v := .int .i64 (Int.tdiv (65536) (((bl (((z1).natAbs : Nat) : Int).toNat : Nat) : Int)))) (run_quoI (by omega) (tdiv_i64 (by omega)) rfl rfl rfl) ?_)
    (try simp only [Act.put, List.setIfInBounds_toArray, List.set_cons_zero, List.set_cons_succ])
    refine list_want rfl rfl (congrArg some (congrArg Value.bool hb)) (wp_run (v := .bool (decide ((Int.tdiv (65536) (((bl (((z1).natAbs : Nat) : Int).toNat : Nat) : Int))) < (n)))) (run_gtr rfl rfl rfl) ?_)
    (try simp only [Act.put, List.setIfInBounds_toArray, List.set_cons_zero, List.set_cons_succ])
    refine seq_is (v := .bool (decide ((Int.tdiv (65536) (((bl (((z1).natAbs : Nat) : Int).toNat : Nat) : Int))) < (n)))) rfl (run_pickT rfl ((show _ = Value.bool (decide ((0) < (((bl (((z1).natAbs : Nat) : Int).toNat : Nat) : Int)))) from rfl).trans (congrArg Value.bool hb)) rfl) ?_
    (try simp only [Act.put, List.setIfInBounds_toArray, List.set_cons_zero, List.set_cons_succ])
    refine seq_is (v := .bool (decide ((Int.tdiv (65536) (((bl (((z1).natAbs : Nat) : Int).toNat : Nat) : Int))) < (n)))) rfl (run_assign rfl rfl) ?_
    (try simp only [Act.put, List.setIfInBounds_toArray, List.set_cons_zero, List.set_cons_succ])
    show Code.wp _ _ _ _ _
    refine wp_cond_split (t := decide ((Int.tdiv (65536) (((bl (((z1).natAbs : Nat) : Int).toNat : Nat) : Int))) < (n))) rfl ?_ ?_
    · intro hc5
      have p_hc5 := of_decide_eq_true hc5
      refine wp_seq ?_
      refine wp_region_list ?_
      refine seq_is (v := .agg #[.bool (false), .slice none 0 0]) rfl (run_build0 rfl) ?_
      (try simp only [Act.put, List.setIfInBounds_toArray, List.set_cons_zero, List.set_cons_succ])
      refine seq_store Z 0 rfl rfl rfl rfl rfl ?_; clear Z; intro W Z
      (try simp only [Act.put, List.setIfInBounds_toArray, List.set_cons_zero, List.set_cons_succ])
      refine seq_is (v := .int .i64 (2)) rfl (run_assign rfl rfl) ?_
      (try simp only [Act.put, List.setIfInBounds_toArray, List.set_cons_zero, List.set_cons_succ])
      show Code.wp _ _ _ _ _
      refine wp_ret ?_
      exact Z.nought.endsIi (u := .int .i64 (2)) (y' := 0) (x' := 0) 0 0 rfl rfl rfl rfl rfl rfl (by exact (pow_long (z := z1) p_hc4 (powL_t hb hc5)).1) (by exact (pow_long (z := z1) p_hc4 (powL_t hb hc5)).2)
    · intro hc5
      have p_hc5 := of_decide_eq_false hc5
      refine wp_seq ?_
      refine wp_region_list ?_
      refine seq_is (v := .int .i64 (n)) rfl (run_move rfl rfl) ?_
      (try simp only [Act.put, List.setIfInBounds_toArray, List.set_cons_zero, List.set_cons_succ])
      refine seq_is (v := .bool (decide ((n) = (0)))) rfl (run_eql rfl rfl rfl) ?_
      (try simp only [Act.put, List.setIfInBounds_toArray, List.set_cons_zero, List.set_cons_succ])
      refine seq_is (v := .bool (decide ((n) = (0)))) rfl (run_assign rfl rfl) ?_
      (try simp only [Act.put, List.setIfInBounds_toArray, List.set_cons_zero, List.set_cons_succ])
      show Code.wp _ _ _ _ _
      refine wp_cond_split (t := decide ((n) = (0))) rfl ?_ ?_
      · intro hc6
        have p_hc6 := of_decide_eq_true hc6
        refine wp_seq ?_
        refine wp_region_list ?_
        refine seq_call Z rfl rfl Try.func30 rfl rfl (args1 rfl) (Z.callI (zint_Of.sem (by omega) (by omega))) ?_; clear Z; intro x7 W Z
        (try simp only [Act.put, List.setIfInBounds_toArray, List.set_cons_zero, List.set_cons_succ])
        refine seq_store Z 0 rfl rfl rfl rfl rfl ?_; clear Z; intro W Z
        (try simp only [Act.put, List.setIfInBounds_toArray, List.set_cons_zero, List.set_cons_succ])
        refine seq_is (v := .int .i64 (0)) rfl (run_assign rfl rfl) ?_
        (try simp only [Act.put, List.setIfInBounds_toArray, List.set_cons_zero, List.set_cons_succ])
        show Code.wp _ _ _ _ _
        refine wp_ret ?_
        exact Z.endsIi (u := .int .i64 (0)) (y' := 0) (x' := 0) 0 0 rfl rfl rfl rfl rfl rfl (by exact (pow_ok (z := z1) p_hc4 (powL_f hc5) (show (1 : Int) = z1 ^ n.toNat by rw [p_hc6]; exact (Int.pow_zero z1).symm)).1) (by exact (pow_ok (z := z1) p_hc4 (powL_f hc5) (show (1 : Int) = z1 ^ n.toNat by rw [p_hc6]; exact (Int.pow_zero z1).symm)).2)
      · intro hc6
        have p_hc6 := of_decide_eq_false hc6
        refine wp_seq ?_
        refine wp_region_list ?_
        refine seq_is (v := .int .i64 (((bl (((z1).natAbs : Nat) : Int).toNat : Nat) : Int))) rfl (run_move rfl rfl) ?_
        (try simp only [Act.put, List.setIfInBounds_toArray, List.set_cons_zero, List.set_cons_succ])
        refine seq_is (v := .bool (decide ((((bl (((z1).natAbs : Nat) : Int).toNat : Nat) : Int)) = (0)))) rfl (run_eql rfl rfl rfl) ?_
        (try simp only [Act.put, List.setIfInBounds_toArray, List.set_cons_zero, List.set_cons_succ])
        refine seq_is (v := .bool (decide ((((bl (((z1).natAbs : Nat) : Int).toNat : Nat) : Int)) = (0)))) rfl (run_assign rfl rfl) ?_
        (try simp only [Act.put, List.setIfInBounds_toArray, List.set_cons_zero, List.set_cons_succ])
        show Code.wp _ _ _ _ _
        refine wp_cond_false ((show _ = Value.bool (decide ((((bl (((z1).natAbs : Nat) : Int).toNat : Nat) : Int)) = (0))) from rfl).trans (congrArg Value.bool hbe)) ?_
        refine wp_skip ?_
        show Code.wp _ _ _ _ _
        refine wp_seq ?_
        have hL : powL z1 n = false := powL_f hc5
        have hT := tdiv_le p_hb
        refine wp_region_list ?_
        refine seq_call Z rfl rfl Try.func30 rfl rfl (args1 rfl) (Z.callI (zint_Of.sem (by omega) (by omega))) ?_; clear Z; intro x8 W Z
        (try simp only [Act.put, List.setIfInBounds_toArray, List.set_cons_zero, List.set_cons_succ])
        refine seq_alloc Z rfl rfl ?_; clear Z; intro g9 W Z
        (try simp only [Act.put, List.setIfInBounds_toArray, List.set_cons_zero, List.set_cons_succ])
        refine seq_store Z 0 rfl rfl rfl rfl rfl ?_; clear Z; intro W Z
        (try simp only [Act.put, List.setIfInBounds_toArray, List.set_cons_zero, List.set_cons_succ])
        show Code.wp _ _ _ _ _
        refine wp_seq ?_
        refine wp_region_list ?_
        refine seq_is (v := .agg #[.bool (b1), .slice A1 n1 c1]) rfl (run_load2 rfl rfl (Z.bx 2 rfl)) ?_
        (try simp only [Act.put, List.setIfInBounds_toArray, List.set_cons_zero, List.set_cons_succ])
        refine seq_call Z rfl rfl Try.func32 rfl rfl (args1 rfl) (Z.callI (zint_Form.sem (Z.num 1 rfl)  )) ?_; clear Z; intro x10 W Z
        (try simp only [Act.put, List.setIfInBounds_toArray, List.set_cons_zero, List.set_cons_succ])
        refine seq_alloc Z rfl rfl ?_; clear Z; intro g11 W Z
        (try simp only [Act.put, List.setIfInBounds_toArray, List.set_cons_zero, List.set_cons_succ])
        refine seq_store Z 0 rfl rfl rfl rfl rfl ?_; clear Z; intro W Z
        (try simp only [Act.put, List.setIfInBounds_toArray, List.set_cons_zero, List.set_cons_succ])
        show Code.wp _ _ _ _ _
        refine wp_block ?_
        refine wp_loop_s (α := Int × Nat × Nat × Int × Int × Sl × Sl × Nat) (fun (m, e, f, X, P, px, pp, gx) a W => ∃ (j5_13 j36_13 j37_13 j38_13 j39_13 j40_13 j41_13 j42_13 j43_13 j44_13 j45_13 j46_13 j47_13 j48_13 j49_13 j50_13 : Value), a = { tmps := #[.agg #[.bool (b1), .slice A1 n1 c1], .int .i64 (m), .pointer (some ⟨g1, 0, none⟩), undef, .pointer (some ⟨g2, 0, none⟩), j5_13, .int .i64 (((bl (((z1).natAbs : Nat) : Int).toNat : Nat) : Int)), .pointer (some ⟨g9, 0, none⟩), .pointer (some ⟨gx, 0, none⟩), .agg #[.bool (b1), .slice A1 n1 c1], .int .i64 (((bl (((z1).natAbs : Nat) : Int).toNat : Nat) : Int)), .bool (decide ((n) < (0))), .int .i64 (n), .bool (decide ((n) < (0))), undef, .bool (decide ((Int.tdiv (65536) (((bl (((z1).natAbs : Nat) : Int).toNat : Nat) : Int))) < (n))), .int .i64 (((bl (((z1).natAbs : Nat) : Int).toNat : Nat) : Int)), .bool (decide ((0) < (((bl (((z1).natAbs : Nat) : Int).toNat : Nat) : Int)))), .bool (decide ((0) < (((bl (((z1).natAbs : Nat) : Int).toNat : Nat) : Int)))), .int .i64 (n), .int .i64 (((bl (((z1).natAbs : Nat) : Int).toNat : Nat) : Int)), .int .i64 (Int.tdiv (65536) (((bl (((z1).natAbs : Nat) : Int).toNat : Nat) : Int))), .bool (decide ((Int.tdiv (65536) (((bl (((z1).natAbs : Nat) : Int).toNat : Nat) : Int))) < (n))), .bool (decide ((Int.tdiv (65536) (((bl (((z1).natAbs : Nat) : Int).toNat : Nat) : Int))) < (n))), undef, .bool (decide ((n) = (0))), .int .i64 (n), .bool (decide ((n) = (0))), undef, .bool (decide ((((bl (((z1).natAbs : Nat) : Int).toNat : Nat) : Int)) = (0))), .int .i64 (((bl (((z1).natAbs : Nat) : Int).toNat : Nat) : Int)), .bool (decide ((((bl (((z1).natAbs : Nat) : Int).toNat : Nat) : Int)) = (0))), undef, .agg #[.bool (decide ((1 : Int) < 0)), x8.v], .agg #[.bool (b1), .slice A1 n1 c1], .agg #[.bool (decide ((z1) < 0)), x10.v], j36_13, j37_13, j38_13, j39_13, j40_13, j41_13, j42_13, j43_13, j44_13, j45_13, j46_13, j47_13, j48_13, j49_13, j50_13], defers := [] } ∧ Zt w W [(px.v, tyO w (mg X)), (pp.v, tyO w (mg P)), (.slice A1 n1 c1, tyN b1 z1)] [(gx, 25, #[.bool (decide (X < 0)), px.v]), (g9, 25, #[.bool (decide (P < 0)), pp.v]), (g2, 25, #[.bool (false), .slice none 0 0]), (g1, 25, #[.bool (b1), .slice A1 n1 c1])] ∧ (1 ≤ m ∧ (f : Int) + e * m = n ∧ X = z1 ^ e ∧ P = z1 ^ f ∧ 1 ≤ e)) (fun (m, e, f, X, P, px, pp, gx) => m.toNat) (n, 1, 0, z1, (1 : Int), x10, x8, g11) ⟨_, _, _, _, _, _, _, _, _, _, _, _, _, _, _, _, rfl, (Z.retype (has_cons (Z.has 0 rfl) (has_cons (Z.has 1 rfl) (has_cons (Z.has 2 rfl) (Has.nil _ _))))), ⟨by omega, by omega, (Int.pow_one z1).symm, (Int.pow_zero z1).symm, Nat.le_refl 1⟩⟩ ?_
        clear Z; rintro ⟨m, e, f, X, P, px, pp, gx⟩ a W ⟨j5_13, j36_13, j37_13, j38_13, j39_13, j40_13, j41_13, j42_13, j43_13, j44_13, j45_13, j46_13, j47_13, j48_13, j49_13, j50_13, rfl, Z, hI⟩
        have hem := le_mul1 (e := e) hI.1
        have hX : Bd 65537 X := by rw [hI.2.2.1]; exact pow_bd h0 hL (by have := hI.2.1; omega)
        have hP : Bd 65537 P := by rw [hI.2.2.2.1]; exact pow_bd h0 hL (by have := hI.2.1; omega)
        have hm1 := hI.1
        have hmn : m ≤ 65536 := by have := hI.2.1; have := le_mul2 (m := m) hI.2.2.2.2 (by omega); omega
        refine wp_seq ?_
        refine wp_block ?_
        refine wp_seq ?_
        refine wp_seq ?_
        refine wp_region_list ?_
        refine seq_is (v := .int .i64 (m)) rfl (run_move rfl rfl) ?_
        (try simp only [Act.put, List.setIfInBounds_toArray, List.set_cons_zero, List.set_cons_succ])
        refine seq_is (v := .int .i64 (m % 2)) rfl (run_and1 (by omega) (by omega) rfl rfl) ?_
        (try simp only [Act.put, List.setIfInBounds_toArray, List.set_cons_zero, List.set_cons_succ])
        refine seq_is (v := .bool (decide ((m % 2) = (1)))) rfl (run_eql rfl rfl rfl) ?_
        (try simp only [Act.put, List.setIfInBounds_toArray, List.set_cons_zero, List.set_cons_succ])
        show Code.wp _ _ _ _ _
        refine wp_cond_split (t := decide ((m % 2) = (1))) rfl ?_ ?_
        · intro hc12
          have p_hc12 := of_decide_eq_true hc12
          refine wp_region_list ?_
          refine seq_is (v := .agg #[.bool (decide (P < 0)), pp.v]) rfl (run_load2 rfl rfl (Z.bx 1 rfl)) ?_
          (try simp only [Act.put, List.setIfInBounds_toArray, List.set_cons_zero, List.set_cons_succ])
          refine seq_is (v := .agg #[.bool (decide (X < 0)), px.v]) rfl (run_load2 rfl rfl (Z.bx 0 rfl)) ?_
          (try simp only [Act.put, List.setIfInBounds_toArray, List.set_cons_zero, List.set_cons_succ])
          refine seq_call Z rfl rfl Try.func23 rfl rfl (args2 rfl rfl) (Z.callI (zint_Mul.sem (Z.own 1 rfl (Bd.fm (Bd.abs hP) (by decide))) (Z.own 0 rfl (Bd.fm (Bd.abs hX) (by decide))) (Bd.fm (Bd.mul (Bd.abs hP) (Bd.abs hX)) (by decide)) )) ?_; clear Z; intro x13 W Z
          (try simp only [Act.put, List.setIfInBounds_toArray, List.set_cons_zero, List.set_cons_succ])
          refine seq_store Z 1 rfl rfl rfl rfl rfl ?_; clear Z; intro W Z
          (try simp only [Act.put, List.setIfInBounds_toArray, List.set_cons_zero, List.set_cons_succ])
          show Code.wp _ _ _ _ _
          refine wp_seq ?_
          refine wp_region_list ?_
          refine seq_is (v := .int .i64 (m)) rfl (run_move rfl rfl) ?_
          (try simp only [Act.put, List.setIfInBounds_toArray, List.set_cons_zero, List.set_cons_succ])
          refine seq_is (v := .int .i64 (m / 2)) rfl (run_shr1 rfl rfl) ?_
          (try simp only [Act.put, List.setIfInBounds_toArray, List.set_cons_zero, List.set_cons_succ])
          refine seq_is (v := .int .i64 (m / 2)) rfl (run_assign rfl rfl) ?_
          (try simp only [Act.put, List.setIfInBounds_toArray, List.set_cons_zero, List.set_cons_succ])
          show Code.wp _ _ _ _ _
          refine wp_seq ?_
          refine wp_region_list ?_
          refine seq_is (v := .int .i64 (m / 2)) rfl (run_move rfl rfl) ?_
          (try simp only [Act.put, List.setIfInBounds_toArray, List.set_cons_zero, List.set_cons_succ])
          refine seq_is (v := .bool (decide ((m / 2) = (0)))) rfl (run_eql rfl rfl rfl) ?_
          (try simp only [Act.put, List.setIfInBounds_toArray, List.set_cons_zero, List.set_cons_succ])
          show Code.wp _ _ _ _ _
          refine wp_cond_split (t := decide ((m / 2) = (0))) rfl ?_ ?_
          · intro hc14
            have p_hc14 := of_decide_eq_true hc14
            refine wp_seq ?_
            refine wp_region_list ?_
            refine seq_is (v := .agg #[.bool (decide ((P) * (X) < 0)), x13.v]) rfl (run_load2 rfl rfl (Z.bx 1 rfl)) ?_
            (try simp only [Act.put, List.setIfInBounds_toArray, List.set_cons_zero, List.set_cons_succ])
            refine seq_store Z 2 rfl rfl rfl rfl rfl ?_; clear Z; intro W Z
            (try simp only [Act.put, List.setIfInBounds_toArray, List.set_cons_zero, List.set_cons_succ])
            refine seq_is (v := .int .i64 (0)) rfl (run_assign rfl rfl) ?_
            (try simp only [Act.put, List.setIfInBounds_toArray, List.set_cons_zero, List.set_cons_succ])
            show Code.wp _ _ _ _ _
            refine wp_ret ?_
            exact Z.endsIi (u := .int .i64 (0)) (y' := 0) (x' := 0) 2 0 rfl rfl rfl rfl rfl rfl (by exact (pow_ok (z := z1) p_hc4 (powL_f hc5) (show P * X = z1 ^ n.toNat by rw [mul_pow' hI.2.2.1 hI.2.2.2.1, show n.toNat = f + e by have h9 := hI.2.1; rw [show m = 1 by have := hI.1; omega, Int.mul_one] at h9; omega])).1) (by exact (pow_ok (z := z1) p_hc4 (powL_f hc5) (show P * X = z1 ^ n.toNat by rw [mul_pow' hI.2.2.1 hI.2.2.2.1, show n.toNat = f + e by have h9 := hI.2.1; rw [show m = 1 by have := hI.1; omega, Int.mul_one] at h9; omega])).2)
          · intro hc14
            have p_hc14 := of_decide_eq_false hc14
            refine wp_skip ?_
            show Code.wp _ _ _ _ _
            refine wp_seq ?_
            refine wp_seq ?_
            refine wp_region_list ?_
            refine seq_is (v := .agg #[.bool (decide (X < 0)), px.v]) rfl (run_load2 rfl rfl (Z.bx 0 rfl)) ?_
            (try simp only [Act.put, List.setIfInBounds_toArray, List.set_cons_zero, List.set_cons_succ])
            show Code.wp _ _ _ _ _
            refine wp_region_list ?_
            refine seq_alloc Z rfl rfl ?_; clear Z; intro g15 W Z
            (try simp only [Act.put, List.setIfInBounds_toArray, List.set_cons_zero, List.set_cons_succ])
            refine seq_store Z 0 rfl rfl rfl rfl rfl ?_; clear Z; intro W Z
            (try simp only [Act.put, List.setIfInBounds_toArray, List.set_cons_zero, List.set_cons_succ])
            show Code.wp _ _ _ _ _
            refine wp_region_list ?_
            refine seq_is (v := .agg #[.bool (decide (X < 0)), px.v]) rfl (run_load2 rfl rfl (Z.bx 0 rfl)) ?_
            (try simp only [Act.put, List.setIfInBounds_toArray, List.set_cons_zero, List.set_cons_succ])
            refine seq_is (v := .agg #[.bool (decide (X < 0)), px.v]) rfl (run_load2 rfl rfl (Z.bx 0 rfl)) ?_
            (try simp only [Act.put, List.setIfInBounds_toArray, List.set_cons_zero, List.set_cons_succ])
            refine seq_call Z rfl rfl Try.func23 rfl rfl (args2 rfl rfl) (Z.callI (zint_Mul.sem (Z.own 1 rfl (Bd.fm (Bd.abs hX) (by decide))) (Z.own 1 rfl (Bd.fm (Bd.abs hX) (by decide))) (Bd.fm (Bd.mul (Bd.abs hX) (Bd.abs hX)) (by decide)) )) ?_; clear Z; intro x16 W Z
            (try simp only [Act.put, List.setIfInBounds_toArray, List.set_cons_zero, List.set_cons_succ])
            refine seq_store Z 0 rfl rfl rfl rfl rfl ?_; clear Z; intro W Z
            (try simp only [Act.put, List.setIfInBounds_toArray, List.set_cons_zero, List.set_cons_succ])
            exact ⟨(m / 2, 2 * e, f + e, X * X, P * X, x16, x13, g15), (show (m / 2).toNat < m.toNat by omega), _, _, _, _, _, _, _, _, _, _, _, _, _, _, _, _, rfl, ((Z.forget 1).retype (has_cons (Z.has 0 rfl) (has_cons (Z.has 1 rfl) (has_cons (Z.has 4 rfl) (Has.nil _ _))))), ⟨by omega, sq_odd p_hc12 hI.2.1, sq_pow hI.2.2.1, mul_pow' hI.2.2.1 hI.2.2.2.1, (show 1 ≤ 2 * e by have := hI.2.2.2.2; omega)⟩⟩
        · intro hc12
          have p_hc12 := of_decide_eq_false hc12
          refine wp_skip ?_
          show Code.wp _ _ _ _ _
          refine wp_seq ?_
          refine wp_region_list ?_
          refine seq_is (v := .int .i64 (m)) rfl (run_move rfl rfl) ?_
          (try simp only [Act.put, List.setIfInBounds_toArray, List.set_cons_zero, List.set_cons_succ])
          refine seq_is (v := .int .i64 (m / 2)) rfl (run_shr1 rfl rfl) ?_
          (try simp only [Act.put, List.setIfInBounds_toArray, List.set_cons_zero, List.set_cons_succ])
          refine seq_is (v := .int .i64 (m / 2)) rfl (run_assign rfl rfl) ?_
          (try simp only [Act.put, List.setIfInBounds_toArray, List.set_cons_zero, List.set_cons_succ])
          show Code.wp _ _ _ _ _
          refine wp_seq ?_
          refine wp_region_list ?_
          refine seq_is (v := .int .i64 (m / 2)) rfl (run_move rfl rfl) ?_
          (try simp only [Act.put, List.setIfInBounds_toArray, List.set_cons_zero, List.set_cons_succ])
          refine seq_is (v := .bool (decide ((m / 2) = (0)))) rfl (run_eql rfl rfl rfl) ?_
          (try simp only [Act.put, List.setIfInBounds_toArray, List.set_cons_zero, List.set_cons_succ])
          show Code.wp _ _ _ _ _
          refine wp_cond_split (t := decide ((m / 2) = (0))) rfl ?_ ?_
          · intro hc17
            have p_hc17 := of_decide_eq_true hc17
            exfalso; have := hI.1; omega
          · intro hc17
            have p_hc17 := of_decide_eq_false hc17
            refine wp_skip ?_
            show Code.wp _ _ _ _ _
            refine wp_seq ?_
            refine wp_seq ?_
            refine wp_region_list ?_
            refine seq_is (v := .agg #[.bool (decide (X < 0)), px.v]) rfl (run_load2 rfl rfl (Z.bx 0 rfl)) ?_
            (try simp only [Act.put, List.setIfInBounds_toArray, List.set_cons_zero, List.set_cons_succ])
            show Code.wp _ _ _ _ _
            refine wp_region_list ?_
            refine seq_alloc Z rfl rfl ?_; clear Z; intro g18 W Z
            (try simp only [Act.put, List.setIfInBounds_toArray, List.set_cons_zero, List.set_cons_succ])
            refine seq_store Z 0 rfl rfl rfl rfl rfl ?_; clear Z; intro W Z
            (try simp only [Act.put, List.setIfInBounds_toArray, List.set_cons_zero, List.set_cons_succ])
            show Code.wp _ _ _ _ _
            refine wp_region_list ?_
            refine seq_is (v := .agg #[.bool (decide (X < 0)), px.v]) rfl (run_load2 rfl rfl (Z.bx 0 rfl)) ?_
            (try simp only [Act.put, List.setIfInBounds_toArray, List.set_cons_zero, List.set_cons_succ])
            refine seq_is (v := .agg #[.bool (decide (X < 0)), px.v]) rfl (run_load2 rfl rfl (Z.bx 0 rfl)) ?_
            (try simp only [Act.put, List.setIfInBounds_toArray, List.set_cons_zero, List.set_cons_succ])
            refine seq_call Z rfl rfl Try.func23 rfl rfl (args2 rfl rfl) (Z.callI (zint_Mul.sem (Z.own 0 rfl (Bd.fm (Bd.abs hX) (by decide))) (Z.own 0 rfl (Bd.fm (Bd.abs hX) (by decide))) (Bd.fm (Bd.mul (Bd.abs hX) (Bd.abs hX)) (by decide)) )) ?_; clear Z; intro x19 W Z
            (try simp only [Act.put, List.setIfInBounds_toArray, List.set_cons_zero, List.set_cons_succ])
            refine seq_store Z 0 rfl rfl rfl rfl rfl ?_; clear Z; intro W Z
            (try simp only [Act.put, List.setIfInBounds_toArray, List.set_cons_zero, List.set_cons_succ])
            exact ⟨(m / 2, 2 * e, f, X * X, P, x19, pp, g18), (show (m / 2).toNat < m.toNat by omega), _, _, _, _, _, _, _, _, _, _, _, _, _, _, _, _, rfl, ((Z.forget 1).retype (has_cons (Z.has 0 rfl) (has_cons (Z.has 2 rfl) (has_cons (Z.has 3 rfl) (Has.nil _ _))))), ⟨by omega, sq_even p_hc12 hI.2.1, sq_pow hI.2.2.1, hI.2.2.2.1, (show 1 ≤ 2 * e by have := hI.2.2.2.2; omega)⟩⟩
end Go.Proofs.Ytmbmbmkmjbpcpaa.PA

