/- Powers: plain; and how a call forgets a box. -/
import Derived.Test.YtmbmbmkmjbpcpaaZHK
import Derived.Test.YtmbmbmkmjbpcpaaPAx0K
import Derived.Outline
namespace Go.Proofs.Ytmbmbmkmjbpcpaa.PA
open Go Go.Proofs.Ytmbmbmkmjbpcpaa.Nums Go.RowKit Go.Proofs.YtmbmbmkmjbpcpaaW.PrintWords Go.Proofs.YtmbmbmkmjbpcpaaW.PrintLast Go.Proofs.YtmbmbmkmjbpcpaaW.PrintMore
set_option linter.unusedVariables false
theorem Zt.forget {w0 w : World} {ts : List (Value × (World → Value → Prop))} {bs : List (Nat × TypeId × Array Value)} (Z : Zt w0 w ts bs) (i : Nat) : Zt w0 w ts (bs.eraseIdx i) := by
  have hget : ∀ (n : Nat) (q : Nat × TypeId × Array Value), (bs.eraseIdx i)[n]? = some q → bs[if n < i then n else n + 1]? = some q := by
    intro n q h
    rw [List.getElem?_eraseIdx] at h
    split at h
    · rename_i h1
      rw [if_pos h1]
      exact h
    · rename_i h1
      rw [if_neg h1]
      exact h
  refine ⟨Z.below, Z.typ, fun p hp => Z.box p (List.mem_of_mem_eraseIdx hp), fun a b p q hne ha hb => Z.apart _ _ p q ?_ (hget a p ha) (hget b q hb)⟩
  split <;> split <;> omega
theorem run_neg' {a : Act} {o : Oper} {W : World} {p : Operand} {x y : Int} (h : wrap64 (-x) = y) (ho : o.op = .unOp .neg 3 p) (he : a.eval p = .int .i64 x) : (execOp a.eval o).run Try.prog W = .ok (.value (.int .i64 y)) W := by
  subst h
  exact run_neg ho he
theorem zint_two.int {w : World} {n : Int} (h0 : 0 ≤ n) (h1 : n ≤ 65536) : Calls Try.prog 90 #[.int .i64 n] w (ResM w (2 ^ n.toNat)) := by
  obtain ⟨N, rfl⟩ := Int.eq_ofNat_of_zero_le h0
  exact zint_two.sem (by omega)
def shiftZ (z n : Int) : Int := if 65536 < n ∨ n < -65536 then 0 else if 0 ≤ n then z * 2 ^ n.toNat else z.fdiv (2 ^ (-n).toNat)
def shiftE (n : Int) : Int := if 65536 < n ∨ n < -65536 then 2 else 0
theorem shift_out {z n : Int} (h : 65536 < n ∨ n < -65536) : 0 = shiftZ z n ∧ Value.int .i64 2 = .int .i64 (shiftE n) := by
  unfold shiftZ shiftE
  rw [if_pos h, if_pos h]
  exact ⟨rfl, rfl⟩
theorem shift_up {z n : Int} (h : ¬ (65536 < n ∨ n < -65536)) (h0 : 0 ≤ n) : z * 2 ^ n.toNat = shiftZ z n ∧ Value.int .i64 0 = .int .i64 (shiftE n) := by
  unfold shiftZ shiftE
  rw [if_neg h, if_neg h, if_pos h0]
  exact ⟨rfl, rfl⟩
theorem shift_down {z n : Int} (h : ¬ (65536 < n ∨ n < -65536)) (h0 : ¬ 0 ≤ n) : z.fdiv (2 ^ (-n).toNat) = shiftZ z n ∧ Value.int .i64 0 = .int .i64 (shiftE n) := by
  unfold shiftZ shiftE
  rw [if_neg h, if_neg h, if_neg h0]
  exact ⟨rfl, rfl⟩
end Go.Proofs.Ytmbmbmkmjbpcpaa.PA


/- The walks of Shift. -/
namespace Go.Proofs.Ytmbmbmkmjbpcpaa.PA
open Go Go.Proofs.Ytmbmbmkmjbpcpaa.Nums Go.RowKit Go.Proofs.YtmbmbmkmjbpcpaaW.PrintWords Go.Proofs.YtmbmbmkmjbpcpaaW.PrintLast Go.Proofs.YtmbmbmkmjbpcpaaW.PrintMore
set_option linter.unusedVariables false
set_option linter.unusedSimpArgs false
set_option maxHeartbeats 4000000 in
set_option maxRecDepth 100000 in
theorem zint_Shift.sem {w : World} {b1 : Bool} {v1 : Value} {z1 n : Int} (m1 : NumV w b1 v1 z1) (hb1 : Bd 100000000 z1) : Calls Try.prog 63 #[.agg #[.bool b1, v1], .int .i64 n] w (ResIi w (shiftZ z1 n) (.int .i64 (shiftE n))) := by
  obtain ⟨A1, n1, c1, rfl⟩ := m1.form
  have Z := Zt.begin1 m1
  go_enter Try.func63, Try.ntmps63
  refine wp_seq ?_
  refine wp_region_list ?_
  refine seq_box Z rfl rfl rfl ?_; clear Z; intro g1 W Z
  (try simp only [Act.put, List.setIfInBounds_toArray, List.set_cons_zero, List.set_cons_succ])
  refine seq_alloc Z rfl rfl ?_; clear Z; intro g2 W Z
  (try simp only [Act.put, List.setIfInBounds_toArray, List.set_cons_zero, List.set_cons_succ])
  refine seq_is (v := .int .i64 (0)) rfl (run_assign rfl rfl) ?_
  (try simp only [Act.put, List.setIfInBounds_toArray, List.set_cons_zero, List.set_cons_succ])
  show Code.wp _ _ _ _ _
  refine wp_seq ?_
  refine wp_seq ?_
  rcases Bool.eq_false_or_eq_true (decide ((65536) < (n))) with hk3 | hk3
  · have p_hk3 := of_decide_eq_true hk3
    refine wp_region_list ?_
    refine seq_is (v := .int .i64 (n)) rfl (run_move rfl rfl) ?_
    (try simp only [Act.put, List.setIfInBounds_toArray, List.set_cons_zero, List.set_cons_succ])
    refine seq_is (v := .bool (decide ((65536) < (n)))) rfl (run_gtr rfl rfl rfl) ?_
    (try simp only [Act.put, List.setIfInBounds_toArray, List.set_cons_zero, List.set_cons_succ])
    refine seq_is (v := .bool (decide ((65536) < (n)))) rfl (run_move rfl rfl) ?_
    (try simp only [Act.put, List.setIfInBounds_toArray, List.set_cons_zero, List.set_cons_succ])
    refine list_unwant rfl rfl (congrArg some (congrArg Value.bool hk3)) (by decide) ?_
    refine list_unwant rfl rfl (congrArg some (congrArg Value.bool hk3)) (by decide) ?_
    refine seq_is (v := .bool (true)) rfl (run_pickT rfl ((show _ = Value.bool (decide ((65536) < (n))) from rfl).trans (congrArg Value.bool hk3)) rfl) ?_
    (try simp only [Act.put, List.setIfInBounds_toArray, List.set_cons_zero, List.set_cons_succ])
    show Code.wp _ _ _ _ _
    refine wp_cond_true rfl ?_
    refine wp_seq ?_
    refine wp_region_list ?_
    refine seq_is (v := .agg #[.bool (false), .slice none 0 0]) rfl (run_build0 rfl) ?_
    (try simp only [Act.put, List.setIfInBounds_toArray, List.set_cons_zero, List.set_cons_succ])
    refine seq_store Z 0 rfl rfl rfl rfl rfl ?_; clear Z; intro W Z
    (try simp only [Act.put, List.setIfInBounds_toArray, List.set_cons_zero, List.set_cons_succ])
    refine seq_is (v := .int .i64 (2)) rfl (run_assign rfl rfl) ?_
    (try simp only [Act.put, List.setIfInBounds_toArray, List.set_cons_zero, List.set_cons_succ])
    show Code.wp _ _ _ _ _
    refine wp_ret ?_
    exact Z.nought.endsIi (u := .int .i64 (2)) (y' := 0) (x' := 0) 0 0 rfl rfl rfl rfl rfl rfl (by exact (shift_out (by omega)).1) (by exact (shift_out (z := z1) (by omega)).2)
  · have p_hk3 := of_decide_eq_false hk3
    refine wp_region_list ?_
    refine seq_is (v := .int .i64 (n)) rfl (run_move rfl rfl) ?_
    (try simp only [Act.put, List.setIfInBounds_toArray, List.set_cons_zero, List.set_cons_succ])
    refine seq_is (v := .bool (decide ((65536) < (n)))) rfl (run_gtr rfl rfl rfl) ?_
    (try simp only [Act.put, List.setIfInBounds_toArray, List.set_cons_zero, List.set_cons_succ])
    refine seq_is (v := .bool (decide ((65536) < (n)))) rfl (run_move rfl rfl) ?_
    (try simp only [Act.put, List.setIfInBounds_toArray, List.set_cons_zero, List.set_cons_succ])
    refine list_want rfl rfl (congrArg some (congrArg Value.bool hk3)) (wp_run (v := .int .i64 (n)) (run_move rfl rfl) ?_)
    (try simp only [Act.put, List.setIfInBounds_toArray, List.set_cons_zero, List.set_cons_succ])
    refine list_want rfl rfl (congrArg some (congrArg Value.bool hk3)) (wp_run (v := .bool (decide ((n) < (-65536)))) (run_lss rfl rfl rfl) ?_)
    (try simp only [Act.put, List.setIfInBounds_toArray, List.set_cons_zero, List.set_cons_succ])
    refine seq_is (v := .bool (decide ((n) < (-65536)))) rfl (run_pickF rfl ((show _ = Value.bool (decide ((65536) < (n))) from rfl).trans (congrArg Value.bool hk3)) rfl) ?_
    (try simp only [Act.put, List.setIfInBounds_toArray, List.set_cons_zero, List.set_cons_succ])
    show Code.wp _ _ _ _ _
    refine wp_cond_split (t := decide ((n) < (-65536))) rfl ?_ ?_
    · intro hc4
      have p_hc4 := of_decide_eq_true hc4
      refine wp_seq ?_
      refine wp_region_list ?_
      refine seq_is (v := .agg #[.bool (false), .slice none 0 0]) rfl (run_build0 rfl) ?_
      (try simp only [Act.put, List.setIfInBounds_toArray, List.set_cons_zero, List.set_cons_succ])
      refine seq_store Z 0 rfl rfl rfl rfl rfl ?_; clear Z; intro W Z
      (try simp only [Act.put, List.setIfInBounds_toArray, List.set_cons_zero, List.set_cons_succ])
      refine seq_is (v := .int .i64 (2)) rfl (run_assign rfl rfl) ?_
      (try simp only [Act.put, List.setIfInBounds_toArray, List.set_cons_zero, List.set_cons_succ])
      show Code.wp _ _ _ _ _
      refine wp_ret ?_
      exact Z.nought.endsIi (u := .int .i64 (2)) (y' := 0) (x' := 0) 0 0 rfl rfl rfl rfl rfl rfl (by exact (shift_out (by omega)).1) (by exact (shift_out (z := z1) (by omega)).2)
    · intro hc4
      have p_hc4 := of_decide_eq_false hc4
      refine wp_skip ?_
      show Code.wp _ _ _ _ _
      refine wp_seq ?_
      refine wp_seq ?_
      refine wp_region_list ?_
      refine seq_is (v := .int .i64 (n)) rfl (run_move rfl rfl) ?_
      (try simp only [Act.put, List.setIfInBounds_toArray, List.set_cons_zero, List.set_cons_succ])
      refine seq_is (v := .bool (decide ((0) ≤ (n)))) rfl (run_geq rfl rfl rfl) ?_
      (try simp only [Act.put, List.setIfInBounds_toArray, List.set_cons_zero, List.set_cons_succ])
      show Code.wp _ _ _ _ _
      refine wp_cond_split (t := decide ((0) ≤ (n))) rfl ?_ ?_
      · intro hc5
        have p_hc5 := of_decide_eq_true hc5
        refine wp_seq ?_
        refine wp_dag (pre := [_, _, _, _, _]) (sps := [.is (.agg #[.bool (b1), .slice A1 n1 c1]), .is (.int .i64 (n)), spM w (2 ^ (n).toNat), .val Sl (fun x => .agg #[.bool (false), x.v]) (fun x => [(x.v, tyO w (lm (2 ^ (n).toNat)))]), spI w ((z1) * (zof (false) (2 ^ (n).toNat)))]) Z (by kernel_rfl) _ rfl (by kernel_rfl) (by kernel_rfl) rfl ⟨?_, ?_, ?_, ?_, ?_, trivial⟩ ?_
        · intro a e6 W Q Z; exact step_is (fun _ h => op_plain rfl rfl h) (run_load2 rfl (ev e6) (Z.bx 1 rfl))
        · intro a e8 W Q Z; exact step_is (fun _ h => op_plain rfl rfl h) (run_move rfl (ev e8))
        · intro a x10 e11 W Q Z; exact step_call (fun _ h => op_plain rfl rfl h) rfl Try.func90 rfl rfl (args1 (ev e11)) (Z.callM (zint_two.int (n := n) (by omega) (by omega)))
        · intro a x13 e14 W Q Z; exact step_val x13 (fun _ h => op_plain rfl rfl h) (run_build1 rfl (ev e14)) (has_one (Z.has 0 rfl))
        · intro a x16 e17 x18 e19 W Q Z; exact step_call (fun _ h => op_plain rfl rfl h) rfl Try.func23 rfl rfl (args2 (ev e17) (ev e19)) (Z.callI (zint_Mul.sem (Z.num 1 rfl) (NumV.of_mag (Z.ownM 0 rfl (Int.le_of_lt (two_pos _)) (fm_two (by omega)))) (Bd.fm (Bd.mul (Bd.abs hb1) (Bd.abs (Bd.zof (Bd.two (k := 65537) (by omega))))) (by decide)) ))
        clear Z; intro x7 x9 x12 x15 x20 W Z
        (try simp only [Act.put, List.setIfInBounds_toArray, List.set_cons_zero, List.set_cons_succ])
        refine seq_store Z 0 rfl rfl rfl rfl rfl ?_; clear Z; intro W Z
        (try simp only [Act.put, List.setIfInBounds_toArray, List.set_cons_zero, List.set_cons_succ])
        refine seq_is (v := .int .i64 (0)) rfl (run_assign rfl rfl) ?_
        (try simp only [Act.put, List.setIfInBounds_toArray, List.set_cons_zero, List.set_cons_succ])
        show Code.wp _ _ _ _ _
        refine wp_ret ?_
        exact Z.endsIi (u := .int .i64 (0)) (y' := 0) (x' := 0) 0 0 rfl rfl rfl rfl rfl rfl (by exact (shift_up (by omega) (by omega)).1) (by exact (shift_up (z := z1) (by omega) (by omega)).2)
      · intro hc5
        have p_hc5 := of_decide_eq_false hc5
        refine wp_skip ?_
        show Code.wp _ _ _ _ _
        refine wp_seq ?_
        refine wp_dag2 (pre := [_, _, _, _, _, _, _, _, _, _, _, _]) (sps := [.is (.agg #[.bool (b1), .slice A1 n1 c1]), .is (.int .i64 (n)), .is (.int .i64 (-n)), spM w (2 ^ (-n).toNat), .val Sl (fun x => .agg #[.bool (false), x.v]) (fun x => [(x.v, tyO w (lm (2 ^ (-n).toNat)))]), spIIi w ((z1 : Int).fdiv (zof (false) (2 ^ (-n).toNat))) ((z1 : Int).fmod (zof (false) (2 ^ (-n).toNat))) (.int .i64 (0)), spIIi w ((z1 : Int).fdiv (zof (false) (2 ^ (-n).toNat))) ((z1 : Int).fmod (zof (false) (2 ^ (-n).toNat))) (.int .i64 (0)), spI w ((z1 : Int).fdiv (zof (false) (2 ^ (-n).toNat))), spI w ((z1 : Int).fmod (zof (false) (2 ^ (-n).toNat))), .is (.int .i64 (0)), .box 25 #[.bool false, .slice none 0 0], .box 25 #[.bool false, .slice none 0 0]]) Z (by kernel_rfl) _ rfl (by kernel_rfl) (by kernel_rfl) (by kernel_rfl) rfl (fun _ _ d _ _ h => by cases d <;> exact h) ⟨?_, ?_, ?_, ?_, ?_, ?_, ?_, ?_, ?_, ?_, ?_, ?_, trivial⟩ ?_
        · intro a e21 W Q Z; exact step_is (fun _ h => op_plain rfl rfl h) (run_load2 rfl (ev e21) (Z.bx 1 rfl))
        · intro a e23 W Q Z; exact step_is (fun _ h => op_plain rfl rfl h) (run_move rfl (ev e23))
        · intro a x25 e26 W Q Z; exact step_is (fun _ h => op_plain rfl rfl h) (run_neg' (w64 (by omega) (by omega)) rfl (ev e26))
        · intro a x28 e29 W Q Z; exact step_call (fun _ h => op_plain rfl rfl h) rfl Try.func90 rfl rfl (args1 (ev e29)) (Z.callM (zint_two.int (n := -n) (by omega) (by omega)))
        · intro a x31 e32 W Q Z; exact step_val x31 (fun _ h => op_plain rfl rfl h) (run_build1 rfl (ev e32)) (has_one (Z.has 0 rfl))
        · intro a x34 e35 x36 e37 W Q Z; exact step_call (fun _ h => op_plain rfl rfl h) rfl Try.func51 rfl rfl (args2 (ev e35) (ev e37)) (Z.callIIi (zint_Floor.sem (Z.num 1 rfl) (NumV.of_mag (Z.ownM 0 rfl (Int.le_of_lt (two_pos _)) (fm_two (by omega))))  (Bd.mono hb1 (by decide)) (Bd.mono (Bd.zof (Bd.two (k := 65537) (by omega))) (by decide)) (Int.ne_of_gt (two_pos _))))
        · intro a x39 e40 W Q Z; exact step_val x39 (fun _ h => op_plain rfl rfl h) (run_move rfl (ev e40)) (has_two (Z.has 0 rfl) (Z.has 1 rfl))
        · intro a x42 e43 W Q Z; exact step_val x42.1 (fun _ h => op_plain rfl rfl h) (run_extract rfl (ev e43) rfl) (has_one (Z.has 0 rfl))
        · intro a x45 e46 W Q Z; exact step_val x45.2 (fun _ h => op_plain rfl rfl h) (run_extract rfl (ev e46) rfl) (has_one (Z.has 1 rfl))
        · intro a x48 e49 W Q Z; exact step_is (fun _ h => op_plain rfl rfl h) (run_extract rfl (ev e49) rfl)
        · intro a W Q Z; exact step_box (fun _ h => op_plain rfl rfl h) (by decide) (run_alloc2 rfl)
        · intro a W Q Z; exact step_box (fun _ h => op_plain rfl rfl h) (by decide) (run_alloc2 rfl)
        clear Z; intro x22 x24 x27 x30 x33 x38 x41 x44 x47 x50 g51 g52 W Z
        (try simp only [Act.put, List.setIfInBounds_toArray, List.set_cons_zero, List.set_cons_succ])
        refine seq_store Z 1 rfl rfl rfl rfl rfl ?_; clear Z; intro W Z
        (try simp only [Act.put, List.setIfInBounds_toArray, List.set_cons_zero, List.set_cons_succ])
        refine seq_store Z 0 rfl rfl rfl rfl rfl ?_; clear Z; intro W Z
        (try simp only [Act.put, List.setIfInBounds_toArray, List.set_cons_zero, List.set_cons_succ])
        refine seq_is (v := .int .i64 (0)) rfl (run_assign rfl rfl) ?_
        (try simp only [Act.put, List.setIfInBounds_toArray, List.set_cons_zero, List.set_cons_succ])
        show Code.wp _ _ _ _ _
        refine wp_seq ?_
        refine wp_region_list ?_
        refine seq_is (v := .agg #[.bool (decide ((z1 : Int).fdiv (zof (false) (2 ^ (-n).toNat)) < 0)), x44.v]) rfl (run_load2 rfl rfl (Z.bx 1 rfl)) ?_
        (try simp only [Act.put, List.setIfInBounds_toArray, List.set_cons_zero, List.set_cons_succ])
        refine seq_store Z 2 rfl rfl rfl rfl rfl ?_; clear Z; intro W Z
        (try simp only [Act.put, List.setIfInBounds_toArray, List.set_cons_zero, List.set_cons_succ])
        refine seq_is (v := .int .i64 (0)) rfl (run_assign rfl rfl) ?_
        (try simp only [Act.put, List.setIfInBounds_toArray, List.set_cons_zero, List.set_cons_succ])
        show Code.wp _ _ _ _ _
        refine wp_ret ?_
        exact Z.endsIi (u := .int .i64 (0)) (y' := 0) (x' := 0) 2 1 rfl rfl rfl rfl rfl rfl (by exact (shift_down (by omega) (by omega)).1) (by exact (shift_down (z := z1) (by omega) (by omega)).2)
end Go.Proofs.Ytmbmbmkmjbpcpaa.PA

