/- Small functions of layer 3; awake. -/
import Derived.Outline
import Derived.Test.YtndopanohhdfgaaZQK
import Derived.Test.YtndopanohhdfgaaZwholeK
import Derived.Test.YtndopanohhdfgaaZEK
import Derived.Test.YtndopanohhdfgaaPAx0K
namespace Go.Proofs.Ytndopanohhdfgaa.PA
open Go Go.Proofs.Ytndopanohhdfgaa.Nums Go.RowKit Go.Proofs.YtndopanohhdfgaaW.PrintWords Go.Proofs.YtndopanohhdfgaaW.PrintLast Go.Proofs.YtndopanohhdfgaaW.PrintMore
set_option linter.unusedVariables false
set_option linter.unusedSimpArgs false
def okB1 (d : Int) : Bool := decide (0 < d)
theorem sign_pos {z : Int} : decide (0 < z.sign) = okB1 z := by
  refine decide_eq_decide.mpr ⟨fun h => ?_, fun h => by rw [Int.sign_eq_one_of_pos h]; decide⟩
  rcases Int.lt_trichotomy 0 z with h1 | h1 | h1
  · exact h1
  · subst h1; exact absurd h (by decide)
  · rw [Int.sign_eq_neg_one_of_neg h1] at h; exact absurd h (by decide)
theorem cmp_0 {x y : Int} (h : decide (cmp x y = 0) = true) : x = y := by
  have h := of_decide_eq_true h
  unfold cmp at h
  split at h
  · omega
  · split at h
    · assumption
    · omega
theorem cmp_n {x y : Int} (h : decide (cmp x y = 0) = false) : x ≠ y := by
  rintro rfl
  refine of_decide_eq_false h ?_
  unfold cmp
  rw [if_neg (by omega), if_pos rfl]
/-- a rational's text -/
def textQ (x y : Int) : ByteArray := if qd x y = 1 then textZ (qn x y) else textZ (qn x y) ++ ⟨#[47]⟩ ++ textZ (qd x y)
theorem text_sz {z : Int} (h : Fm ((z.natAbs : Nat) : Int)) : (textZ z).size ≤ 100000002 := by
  have h2 := val_lt (lm_ok ((z.natAbs : Nat) : Int))
  rw [lm_val (by omega)] at h2
  have h3 := textOf_size (x := ((z.natAbs : Nat) : Int)) (by omega) (Int.lt_of_lt_of_le h2 (Bp_le h))
  unfold textZ
  split
  · rw [ByteArray.size_append]
    show 1 + _ ≤ _
    omega
  · omega
theorem text_s1 {z : Int} (h : Fm ((z.natAbs : Nat) : Int)) : (textZ z).size + (⟨#[47]⟩ : ByteArray).size ≤ 9223372036854775807 := by
  have := text_sz h
  show _ + 1 ≤ _
  omega
theorem text_s2 {z y : Int} (h : Fm ((z.natAbs : Nat) : Int)) (h2 : Fm ((y.natAbs : Nat) : Int)) : (textZ z ++ ⟨#[47]⟩).size + (textZ y).size ≤ 9223372036854775807 := by
  have := text_sz h
  have := text_sz h2
  rw [ByteArray.size_append]
  show _ + 1 + _ ≤ _
  omega
theorem text_22 : textQ 2 2 = ⟨#[49]⟩ := by kernel_rfl
theorem near_32 : nearZ (-3) 2 = -1 := by decide
theorem wholeI {w : World} {v1 v2 : Value} {z1 z2 : Int} (m1 : Rd w v1 (mg z1)) (m2 : Rd w v2 (mg z2)) (hf : Fm ((z1.natAbs : Nat))) (hz : z1 = z2) : Calls Try.prog 35 #[.agg #[.bool (decide (z1 < 0)), v1], .agg #[.bool (decide (z2 < 0)), v2]] w (RetV w (.bool true)) := by
  subst hz
  have h := trammellaw03_whole.sem (b1 := decide (z1 < 0)) (b2 := decide (z1 < 0)) m1 m2 (by have : (mg z1).length ≤ 10000000 := hf; omega)
  simpa using h
set_option maxHeartbeats 4000000 in
set_option maxRecDepth 100000 in
theorem trammellaw03_half.sem {w : World} {n : Int} (hn : -9223372036854775808 ≤ n ∧ n ≤ 9223372036854775807) : Calls Try.prog 33 #[.int .i64 n] w (ResQ w n 2) := by
  have Z := Zt.start w (Has.nil w w)
  go_enter Try.func33, Try.ntmps33
  refine wp_seq ?_
  refine wp_region_list ?_
  refine seq_alloc4 Z rfl rfl ?_; clear Z; intro g1 W Z
  (try simp only [Act.put, List.setIfInBounds_toArray, List.set_cons_zero, List.set_cons_succ])
  show Code.wp _ _ _ _ _
  refine wp_seq ?_
  refine wp_region_list ?_
  refine seq_is (v := .int .i64 n) rfl (run_move rfl rfl) ?_
  (try simp only [Act.put, List.setIfInBounds_toArray, List.set_cons_zero, List.set_cons_succ])
  refine seq_call Z rfl rfl Try.func46 rfl rfl (args1 rfl) (Z.callI (trammelref02_Of.sem (by omega) (by omega))) ?_; clear Z; intro x2 W Z
  (try simp only [Act.put, List.setIfInBounds_toArray, List.set_cons_zero, List.set_cons_succ])
  refine seq_call Z rfl rfl Try.func46 rfl rfl (args1 rfl) (Z.callI (trammelref02_Of.sem (by decide) (by decide))) ?_; clear Z; intro x3 W Z
  (try simp only [Act.put, List.setIfInBounds_toArray, List.set_cons_zero, List.set_cons_succ])
  refine seq_is (v := .agg #[.bool (decide (n < 0)), x2.v, .bool (decide ((2 : Int) < 0)), x3.v]) rfl (run_buildR rfl rfl rfl) ?_
  (try simp only [Act.put, List.setIfInBounds_toArray, List.set_cons_zero, List.set_cons_succ])
  refine seq_store4 Z 0 rfl rfl rfl rfl rfl ?_; clear Z; intro W Z
  (try simp only [Act.put, List.setIfInBounds_toArray, List.set_cons_zero, List.set_cons_succ])
  show Code.wp _ _ _ _ _
  refine wp_ret ?_
  exact Z.endsQ' 0 1 0 rfl rfl rfl rfl rfl rfl (by rfl) (by rfl) (by rfl) (by rfl)
set_option maxHeartbeats 4000000 in
set_option maxRecDepth 100000 in
theorem trammelref03_Valid.sem {w : World} {b1 : Bool} {v1 : Value} {z1 : Int} {b2 : Bool} {v2 : Value} {z2 : Int} (m1 : NumV w b1 v1 z1) (m2 : NumV w b2 v2 z2) (hb2 : Bd 150000000 z2) : Calls Try.prog 65 #[.agg #[.bool b1, v1, .bool b2, v2]] w (RetV w (.bool (okB1 z2))) := by
  obtain ⟨A1, n1, c1, rfl⟩ := m1.form
  obtain ⟨A2, n2, c2, rfl⟩ := m2.form
  have Z := Zt.start w (m1.has.append m2.has)
  go_enter Try.func65, Try.ntmps65
  refine wp_seq ?_
  refine wp_region_list ?_
  refine seq_box4 Z rfl rfl rfl ?_; clear Z; intro g1 W Z
  (try simp only [Act.put, List.setIfInBounds_toArray, List.set_cons_zero, List.set_cons_succ])
  refine seq_is (v := .bool (false)) rfl (run_assign rfl rfl) ?_
  (try simp only [Act.put, List.setIfInBounds_toArray, List.set_cons_zero, List.set_cons_succ])
  show Code.wp _ _ _ _ _
  refine wp_seq ?_
  refine wp_region_list ?_
  refine seq_is (v := .pointer (some ⟨g1, 2, none⟩)) rfl (run_fieldR1 rfl rfl) ?_
  (try simp only [Act.put, List.setIfInBounds_toArray, List.set_cons_zero, List.set_cons_succ])
  refine seq_is (v := .agg #[.bool (b2), .slice A2 n2 c2]) rfl (run_loadDen rfl rfl (Z.bx 0 rfl)) ?_
  (try simp only [Act.put, List.setIfInBounds_toArray, List.set_cons_zero, List.set_cons_succ])
  refine seq_call Z rfl rfl Try.func14 rfl rfl (args1 rfl) (Z.callV (trammelref02_Sign.sem (Z.num 1 rfl) (Bd.fm (Bd.abs hb2) (by decide)) )) ?_; clear Z; intro x2 W Z
  (try simp only [Act.put, List.setIfInBounds_toArray, List.set_cons_zero, List.set_cons_succ])
  refine seq_is (v := .bool (decide ((0) < ((z2).sign)))) rfl (run_gtr rfl rfl rfl) ?_
  (try simp only [Act.put, List.setIfInBounds_toArray, List.set_cons_zero, List.set_cons_succ])
  refine seq_is (v := .bool (decide ((0) < ((z2).sign)))) rfl (run_assign rfl rfl) ?_
  (try simp only [Act.put, List.setIfInBounds_toArray, List.set_cons_zero, List.set_cons_succ])
  show Code.wp _ _ _ _ _
  refine wp_ret ?_
  exact Z.endsV (u := .bool (decide ((0) < ((z2).sign)))) rfl rfl rfl (by rw [sign_pos])
set_option maxHeartbeats 4000000 in
set_option maxRecDepth 100000 in
theorem trammellaw03_ok.sem {w : World} {b1 : Bool} {v1 : Value} {z1 : Int} {b2 : Bool} {v2 : Value} {z2 : Int} (m1 : NumV w b1 v1 z1) (m2 : NumV w b2 v2 z2) (hb2 : Bd 150000000 z2) : Calls Try.prog 31 #[.agg #[.bool b1, v1, .bool b2, v2]] w (RetV w (.bool (okB1 z2))) := by
  obtain ⟨A1, n1, c1, rfl⟩ := m1.form
  obtain ⟨A2, n2, c2, rfl⟩ := m2.form
  have Z := Zt.start w (m1.has.append m2.has)
  go_enter Try.func31, Try.ntmps31
  refine wp_seq ?_
  refine wp_region_list ?_
  refine seq_box4 Z rfl rfl rfl ?_; clear Z; intro g1 W Z
  (try simp only [Act.put, List.setIfInBounds_toArray, List.set_cons_zero, List.set_cons_succ])
  refine seq_is (v := .bool (false)) rfl (run_assign rfl rfl) ?_
  (try simp only [Act.put, List.setIfInBounds_toArray, List.set_cons_zero, List.set_cons_succ])
  show Code.wp _ _ _ _ _
  refine wp_seq ?_
  refine wp_region_list ?_
  refine seq_is (v := .agg #[.bool (b1), .slice A1 n1 c1, .bool (b2), .slice A2 n2 c2]) rfl (run_load4 rfl rfl (Z.bx 0 rfl)) ?_
  (try simp only [Act.put, List.setIfInBounds_toArray, List.set_cons_zero, List.set_cons_succ])
  refine seq_call Z rfl rfl Try.func65 rfl rfl (args1 rfl) (Z.callV (trammelref03_Valid.sem (Z.num 0 rfl) (Z.num 1 rfl) (Bd.mono hb2 (by decide)))) ?_; clear Z; intro x2 W Z
  (try simp only [Act.put, List.setIfInBounds_toArray, List.set_cons_zero, List.set_cons_succ])
  refine seq_is (v := .bool (okB1 (z2))) rfl (run_assign rfl rfl) ?_
  (try simp only [Act.put, List.setIfInBounds_toArray, List.set_cons_zero, List.set_cons_succ])
  show Code.wp _ _ _ _ _
  refine wp_ret ?_
  exact Z.endsV (u := .bool (okB1 (z2))) rfl rfl rfl (by rfl)
set_option maxHeartbeats 4000000 in
set_option maxRecDepth 100000 in
theorem rat_Near.sem {w : World} {b1 : Bool} {v1 : Value} {z1 : Int} {b2 : Bool} {v2 : Value} {z2 : Int} (m1 : NumV w b1 v1 z1) (m2 : NumV w b2 v2 z2) (hb1 : Bd 140000000 z1) (hb2 : Bd 140000000 z2) (h2 : 0 < z2) : Calls Try.prog 32 #[.agg #[.bool b1, v1, .bool b2, v2]] w (ResIi w (nearZ z1 z2) (.int .i64 0)) := by
  obtain ⟨A1, n1, c1, rfl⟩ := m1.form
  obtain ⟨A2, n2, c2, rfl⟩ := m2.form
  have Z := Zt.start w (m1.has.append m2.has)
  go_enter Try.func32, Try.ntmps32
  refine wp_seq ?_
  refine wp_region_list ?_
  refine seq_box4 Z rfl rfl rfl ?_; clear Z; intro g1 W Z
  (try simp only [Act.put, List.setIfInBounds_toArray, List.set_cons_zero, List.set_cons_succ])
  refine seq_alloc Z rfl rfl ?_; clear Z; intro g2 W Z
  (try simp only [Act.put, List.setIfInBounds_toArray, List.set_cons_zero, List.set_cons_succ])
  refine seq_is (v := .int .i64 (0)) rfl (run_assign rfl rfl) ?_
  (try simp only [Act.put, List.setIfInBounds_toArray, List.set_cons_zero, List.set_cons_succ])
  show Code.wp _ _ _ _ _
  refine wp_seq ?_
  refine wp_seq ?_
  refine wp_region_list ?_
  refine seq_is (v := .agg #[.bool (b1), .slice A1 n1 c1, .bool (b2), .slice A2 n2 c2]) rfl (run_load4 rfl rfl (Z.bx 1 rfl)) ?_
  (try simp only [Act.put, List.setIfInBounds_toArray, List.set_cons_zero, List.set_cons_succ])
  refine seq_rowR1 Z rfl rfl rfl ?_; clear Z; intro g3 W Z
  (try simp only [Act.put, List.setIfInBounds_toArray, List.set_cons_zero, List.set_cons_succ])
  refine seq_call Z rfl rfl Try.func41 rfl rfl (args1 rfl) (Z.callV (rat_valid.sem1 (Z.num 0 rfl) (Z.num 1 rfl) (Z.bx 0 rfl).2.2)) ?_; clear Z; intro x4 W Z
  (try simp only [Act.put, List.setIfInBounds_toArray, List.set_cons_zero, List.set_cons_succ])
  refine seq_is (v := .int .i64 (okE1 (z2))) rfl (run_assign rfl rfl) ?_
  (try simp only [Act.put, List.setIfInBounds_toArray, List.set_cons_zero, List.set_cons_succ])
  show Code.wp _ _ _ _ _
  refine wp_seq ?_
  refine wp_region_list ?_
  refine seq_is (v := .int .i64 (okE1 (z2))) rfl (run_move rfl rfl) ?_
  (try simp only [Act.put, List.setIfInBounds_toArray, List.set_cons_zero, List.set_cons_succ])
  refine seq_is (v := .bool (decide ((okE1 (z2)) ≠ (0)))) rfl (run_neqE rfl rfl rfl) ?_
  (try simp only [Act.put, List.setIfInBounds_toArray, List.set_cons_zero, List.set_cons_succ])
  show Code.wp _ _ _ _ _
  refine wp_cond_false ((show _ = Value.bool (decide ((okE1 (z2)) ≠ (0))) from rfl).trans (congrArg Value.bool (okE1_t h2))) ?_
  refine wp_skip ?_
  show Code.wp _ _ _ _ _
  refine wp_seq ?_
  refine wp_region_list ?_
  refine seq_is (v := .pointer (some ⟨g1, 0, none⟩)) rfl (run_fieldR0 rfl rfl) ?_
  (try simp only [Act.put, List.setIfInBounds_toArray, List.set_cons_zero, List.set_cons_succ])
  refine seq_is (v := .agg #[.bool (b1), .slice A1 n1 c1]) rfl (run_loadNum rfl rfl (Z.bx 2 rfl)) ?_
  (try simp only [Act.put, List.setIfInBounds_toArray, List.set_cons_zero, List.set_cons_succ])
  refine seq_is (v := .pointer (some ⟨g1, 2, none⟩)) rfl (run_fieldR1 rfl rfl) ?_
  (try simp only [Act.put, List.setIfInBounds_toArray, List.set_cons_zero, List.set_cons_succ])
  refine seq_is (v := .agg #[.bool (b2), .slice A2 n2 c2]) rfl (run_loadDen rfl rfl (Z.bx 2 rfl)) ?_
  (try simp only [Act.put, List.setIfInBounds_toArray, List.set_cons_zero, List.set_cons_succ])
  refine seq_call Z rfl rfl Try.func66 rfl rfl (args2 rfl rfl) (Z.callIi (zint_Near.sem (Z.num 0 rfl) (Z.num 1 rfl)  (Bd.mono hb1 (by decide)) (Bd.mono hb2 (by decide)) (pos_ne h2))) ?_; clear Z; intro x5 W Z
  (try simp only [Act.put, List.setIfInBounds_toArray, List.set_cons_zero, List.set_cons_succ])
  refine seq_is (v := .tuple #[.agg #[.bool (decide (nearZ (z1) (z2) < 0)), x5.v], .int .i64 (0)]) rfl (run_move rfl rfl) ?_
  (try simp only [Act.put, List.setIfInBounds_toArray, List.set_cons_zero, List.set_cons_succ])
  refine seq_is (v := .agg #[.bool (decide (nearZ (z1) (z2) < 0)), x5.v]) rfl (run_extract rfl rfl rfl) ?_
  (try simp only [Act.put, List.setIfInBounds_toArray, List.set_cons_zero, List.set_cons_succ])
  refine seq_is (v := .int .i64 (0)) rfl (run_extract rfl rfl rfl) ?_
  (try simp only [Act.put, List.setIfInBounds_toArray, List.set_cons_zero, List.set_cons_succ])
  refine seq_alloc Z rfl rfl ?_; clear Z; intro g6 W Z
  (try simp only [Act.put, List.setIfInBounds_toArray, List.set_cons_zero, List.set_cons_succ])
  refine seq_store Z 0 rfl rfl rfl rfl rfl ?_; clear Z; intro W Z
  (try simp only [Act.put, List.setIfInBounds_toArray, List.set_cons_zero, List.set_cons_succ])
  refine seq_is (v := .int .i64 (0)) rfl (run_assign rfl rfl) ?_
  (try simp only [Act.put, List.setIfInBounds_toArray, List.set_cons_zero, List.set_cons_succ])
  show Code.wp _ _ _ _ _
  refine wp_seq ?_
  refine wp_region_list ?_
  refine seq_is (v := .agg #[.bool (decide (nearZ (z1) (z2) < 0)), x5.v]) rfl (run_load2 rfl rfl (Z.bx 0 rfl)) ?_
  (try simp only [Act.put, List.setIfInBounds_toArray, List.set_cons_zero, List.set_cons_succ])
  refine seq_store Z 2 rfl rfl rfl rfl rfl ?_; clear Z; intro W Z
  (try simp only [Act.put, List.setIfInBounds_toArray, List.set_cons_zero, List.set_cons_succ])
  refine seq_is (v := .int .i64 (0)) rfl (run_assign rfl rfl) ?_
  (try simp only [Act.put, List.setIfInBounds_toArray, List.set_cons_zero, List.set_cons_succ])
  show Code.wp _ _ _ _ _
  refine wp_ret ?_
  exact Z.endsIi (u := .int .i64 (0)) (y' := 0) (x' := 0) 2 0 rfl rfl rfl rfl rfl rfl (by rfl) (by rfl)
set_option maxHeartbeats 4000000 in
set_option maxRecDepth 100000 in
theorem rat_Text.sem {w : World} {b1 : Bool} {v1 : Value} {z1 : Int} {b2 : Bool} {v2 : Value} {z2 : Int} (m1 : NumV w b1 v1 z1) (m2 : NumV w b2 v2 z2) (hb1 : Bd 150000000 z1) (hb2 : Bd 150000000 z2) (h2 : 0 < z2) : Calls Try.prog 39 #[.agg #[.bool b1, v1, .bool b2, v2]] w (RetV w (.tuple #[.string (textQ z1 z2), .int .i64 0])) := by
  obtain ⟨A1, n1, c1, rfl⟩ := m1.form
  obtain ⟨A2, n2, c2, rfl⟩ := m2.form
  have Z := Zt.start w (m1.has.append m2.has)
  have hq : Fm (((qn z1 z2).natAbs : Nat) : Int) := (Bd.abs (Bd.qn hb1)).fm (by decide)
  have hd : Fm (((qd z1 z2).natAbs : Nat) : Int) := (Bd.abs (Bd.qd hb2)).fm (by decide)
  go_enter Try.func39, Try.ntmps39
  refine wp_seq ?_
  refine wp_region_list ?_
  refine seq_box4 Z rfl rfl rfl ?_; clear Z; intro g1 W Z
  (try simp only [Act.put, List.setIfInBounds_toArray, List.set_cons_zero, List.set_cons_succ])
  refine seq_is (v := .string (⟨#[]⟩ : ByteArray)) rfl (run_assign rfl rfl) ?_
  (try simp only [Act.put, List.setIfInBounds_toArray, List.set_cons_zero, List.set_cons_succ])
  refine seq_is (v := .int .i64 (0)) rfl (run_assign rfl rfl) ?_
  (try simp only [Act.put, List.setIfInBounds_toArray, List.set_cons_zero, List.set_cons_succ])
  show Code.wp _ _ _ _ _
  refine wp_seq ?_
  refine wp_seq ?_
  refine wp_region_list ?_
  refine seq_is (v := .agg #[.bool (b1), .slice A1 n1 c1, .bool (b2), .slice A2 n2 c2]) rfl (run_load4 rfl rfl (Z.bx 0 rfl)) ?_
  (try simp only [Act.put, List.setIfInBounds_toArray, List.set_cons_zero, List.set_cons_succ])
  refine seq_rowR1 Z rfl rfl rfl ?_; clear Z; intro g2 W Z
  (try simp only [Act.put, List.setIfInBounds_toArray, List.set_cons_zero, List.set_cons_succ])
  refine seq_call Z rfl rfl Try.func41 rfl rfl (args1 rfl) (Z.callV (rat_valid.sem1 (Z.num 0 rfl) (Z.num 1 rfl) (Z.bx 0 rfl).2.2)) ?_; clear Z; intro x3 W Z
  (try simp only [Act.put, List.setIfInBounds_toArray, List.set_cons_zero, List.set_cons_succ])
  refine seq_is (v := .int .i64 (okE1 (z2))) rfl (run_assign rfl rfl) ?_
  (try simp only [Act.put, List.setIfInBounds_toArray, List.set_cons_zero, List.set_cons_succ])
  show Code.wp _ _ _ _ _
  refine wp_seq ?_
  refine wp_region_list ?_
  refine seq_is (v := .int .i64 (okE1 (z2))) rfl (run_move rfl rfl) ?_
  (try simp only [Act.put, List.setIfInBounds_toArray, List.set_cons_zero, List.set_cons_succ])
  refine seq_is (v := .bool (decide ((okE1 (z2)) ≠ (0)))) rfl (run_neqE rfl rfl rfl) ?_
  (try simp only [Act.put, List.setIfInBounds_toArray, List.set_cons_zero, List.set_cons_succ])
  show Code.wp _ _ _ _ _
  refine wp_cond_false ((show _ = Value.bool (decide ((okE1 (z2)) ≠ (0))) from rfl).trans (congrArg Value.bool (okE1_t h2))) ?_
  refine wp_skip ?_
  show Code.wp _ _ _ _ _
  refine wp_seq ?_
  refine wp_region_list ?_
  refine seq_is (v := .pointer (some ⟨g1, 0, none⟩)) rfl (run_fieldR0 rfl rfl) ?_
  (try simp only [Act.put, List.setIfInBounds_toArray, List.set_cons_zero, List.set_cons_succ])
  refine seq_is (v := .agg #[.bool (b1), .slice A1 n1 c1]) rfl (run_loadNum rfl rfl (Z.bx 1 rfl)) ?_
  (try simp only [Act.put, List.setIfInBounds_toArray, List.set_cons_zero, List.set_cons_succ])
  refine seq_is (v := .pointer (some ⟨g1, 2, none⟩)) rfl (run_fieldR1 rfl rfl) ?_
  (try simp only [Act.put, List.setIfInBounds_toArray, List.set_cons_zero, List.set_cons_succ])
  refine seq_is (v := .agg #[.bool (b2), .slice A2 n2 c2]) rfl (run_loadDen rfl rfl (Z.bx 1 rfl)) ?_
  (try simp only [Act.put, List.setIfInBounds_toArray, List.set_cons_zero, List.set_cons_succ])
  refine seq_call Z rfl rfl Try.func44 rfl rfl (args2 rfl rfl) (Z.callQ (rat_made.semq (Z.num 0 rfl) (Z.num 1 rfl) (Bd.mono hb1 (by decide)) (Bd.mono hb2 (by decide)) (pos_ne h2))) ?_; clear Z; intro x4 W Z
  (try simp only [Act.put, List.setIfInBounds_toArray, List.set_cons_zero, List.set_cons_succ])
  refine seq_alloc4 Z rfl rfl ?_; clear Z; intro g5 W Z
  (try simp only [Act.put, List.setIfInBounds_toArray, List.set_cons_zero, List.set_cons_succ])
  refine seq_store4 Z 0 rfl rfl rfl rfl rfl ?_; clear Z; intro W Z
  (try simp only [Act.put, List.setIfInBounds_toArray, List.set_cons_zero, List.set_cons_succ])
  show Code.wp _ _ _ _ _
  refine wp_seq ?_
  refine wp_seq ?_
  refine wp_dag (pre := [_, _, _, _, _]) (sps := [.is (.pointer (some ⟨g5, 2, none⟩)), .is (.agg #[.bool (decide (qd (z1) (z2) < 0)), x4.2.v]), spI w ((1 : Int)), .is (.int .i64 (cmp (qd (z1) (z2)) ((1 : Int)))), .is (.bool (decide ((cmp (qd (z1) (z2)) ((1 : Int))) = (0))))]) Z (by kernel_rfl) _ rfl (by kernel_rfl) (by kernel_rfl) rfl ⟨?_, ?_, ?_, ?_, ?_, trivial⟩ ?_
  · intro a e6 W Q Z; exact step_is (fun _ h => op_plain rfl rfl h) (run_fieldR1 rfl (ev e6))
  · intro a x8 e9 W Q Z; exact step_is (fun _ h => op_plain rfl rfl h) (run_loadDen rfl (ev e9) (Z.bx 0 rfl))
  · intro a W Q Z; exact step_call (fun _ h => op_plain rfl rfl h) rfl Try.func52 rfl rfl (args1 rfl) (Z.callI (zint_Of.sem (by omega) (by omega)))
  · intro a x12 e13 x14 e15 W Q Z; exact step_call (fun _ h => op_plain rfl rfl h) rfl Try.func54 rfl rfl (args2 (ev e13) (ev e15)) (Z.callV (zint_Compare.sem (Z.own 2 rfl (Bd.fm (Bd.abs (Bd.qd hb2)) (by decide))) (Z.own 0 rfl (Bd.fm (Bd.abs (Bd.lit (k := 64) (z := 1) (by decide))) (by decide)))  ))
  · intro a x17 e18 W Q Z; exact step_is (fun _ h => op_plain rfl rfl h) (run_eql rfl (ev e18) rfl)
  clear Z; intro x7 x10 x11 x16 x19 W Z
  (try simp only [Act.put, List.setIfInBounds_toArray, List.set_cons_zero, List.set_cons_succ])
  show Code.wp _ _ _ _ _
  refine wp_cond_split (t := decide ((cmp (qd (z1) (z2)) ((1 : Int))) = (0))) rfl ?_ ?_
  · intro hc20
    refine wp_seq ?_
    refine wp_region_list ?_
    refine seq_is (v := .pointer (some ⟨g5, 0, none⟩)) rfl (run_fieldR0 rfl rfl) ?_
    (try simp only [Act.put, List.setIfInBounds_toArray, List.set_cons_zero, List.set_cons_succ])
    refine seq_is (v := .agg #[.bool (decide (qn (z1) (z2) < 0)), x4.1.v]) rfl (run_loadNum rfl rfl (Z.bx 0 rfl)) ?_
    (try simp only [Act.put, List.setIfInBounds_toArray, List.set_cons_zero, List.set_cons_succ])
    refine seq_call Z rfl rfl Try.func71 rfl rfl (args1 rfl) (Z.callV (zint_Text.sem (Z.own 1 rfl (Bd.fm (Bd.abs (Bd.qn hb1)) (by decide)))  )) ?_; clear Z; intro x21 W Z
    (try simp only [Act.put, List.setIfInBounds_toArray, List.set_cons_zero, List.set_cons_succ])
    refine seq_is (v := .string (textZ (qn (z1) (z2)))) rfl (run_assign rfl rfl) ?_
    (try simp only [Act.put, List.setIfInBounds_toArray, List.set_cons_zero, List.set_cons_succ])
    refine seq_is (v := .int .i64 (0)) rfl (run_assign rfl rfl) ?_
    (try simp only [Act.put, List.setIfInBounds_toArray, List.set_cons_zero, List.set_cons_succ])
    show Code.wp _ _ _ _ _
    refine wp_ret ?_
    exact Z.endsV2 (u := .string (textZ (qn (z1) (z2)))) (v := .int .i64 (0)) rfl rfl rfl rfl (by unfold textQ; rw [if_pos (cmp_0 hc20)])
  · intro hc20
    refine wp_skip ?_
    show Code.wp _ _ _ _ _
    refine wp_seq ?_
    refine wp_dag (pre := [_, _, _, _, _, _, _, _, _, _]) (sps := [.is (.pointer (some ⟨g5, 0, none⟩)), .is (.agg #[.bool (decide (qn (z1) (z2) < 0)), x4.1.v]), .is (.string (textZ (qn (z1) (z2)))), .is (.string ((textZ (qn (z1) (z2))) ++ (⟨#[47]⟩ : ByteArray))), .is (.pointer (some ⟨g5, 2, none⟩)), .is (.agg #[.bool (decide (qd (z1) (z2) < 0)), x4.2.v]), .is (.string (textZ (qd (z1) (z2)))), .is (.string (((textZ (qn (z1) (z2))) ++ (⟨#[47]⟩ : ByteArray)) ++ (textZ (qd (z1) (z2))))), .is (.string (((textZ (qn (z1) (z2))) ++ (⟨#[47]⟩ : ByteArray)) ++ (textZ (qd (z1) (z2))))), .is (.int .i64 (0))]) Z (by kernel_rfl) _ rfl (by kernel_rfl) (by kernel_rfl) rfl ⟨?_, ?_, ?_, ?_, ?_, ?_, ?_, ?_, ?_, ?_, trivial⟩ ?_
    · intro a e22 W Q Z; exact step_is (fun _ h => op_plain rfl rfl h) (run_fieldR0 rfl (ev e22))
    · intro a x24 e25 W Q Z; exact step_is (fun _ h => op_plain rfl rfl h) (run_loadNum rfl (ev e25) (Z.bx 0 rfl))
    · intro a x27 e28 W Q Z; exact step_call (fun _ h => op_plain rfl rfl h) rfl Try.func71 rfl rfl (args1 (ev e28)) (Z.callV (zint_Text.sem (Z.own 1 rfl (Bd.fm (Bd.abs (Bd.qn hb1)) (by decide)))  ))
    · intro a x30 e31 W Q Z; exact step_is (fun _ h => op_plain rfl rfl h) (run_addS (text_s1 hq) rfl (ev e31) rfl)
    · intro a e33 W Q Z; exact step_is (fun _ h => op_plain rfl rfl h) (run_fieldR1 rfl (ev e33))
    · intro a x35 e36 W Q Z; exact step_is (fun _ h => op_plain rfl rfl h) (run_loadDen rfl (ev e36) (Z.bx 0 rfl))
    · intro a x38 e39 W Q Z; exact step_call (fun _ h => op_plain rfl rfl h) rfl Try.func71 rfl rfl (args1 (ev e39)) (Z.callV (zint_Text.sem (Z.own 2 rfl (Bd.fm (Bd.abs (Bd.qd hb2)) (by decide)))  ))
    · intro a x41 e42 x43 e44 W Q Z; exact step_is (fun _ h => op_plain rfl rfl h) (run_addS (text_s2 hq hd) rfl (ev e42) (ev e44))
    · intro a x46 e47 W Q Z; exact step_is (fun _ h => op_plain rfl rfl h) (run_assign rfl (ev e47))
    · intro a W Q Z; exact step_is (fun _ h => op_plain rfl rfl h) (run_assign rfl rfl)
    clear Z; intro x23 x26 x29 x32 x34 x37 x40 x45 x48 x49 W Z
    (try simp only [Act.put, List.setIfInBounds_toArray, List.set_cons_zero, List.set_cons_succ])
    show Code.wp _ _ _ _ _
    refine wp_ret ?_
    exact Z.endsV2 (u := .string (((textZ (qn (z1) (z2))) ++ (⟨#[47]⟩ : ByteArray)) ++ (textZ (qd (z1) (z2))))) (v := .int .i64 (0)) rfl rfl rfl rfl (by unfold textQ; rw [if_neg (cmp_n hc20)])
set_option maxHeartbeats 4000000 in
set_option maxRecDepth 100000 in
theorem trammellaw03_awake.sem (w : World) : Calls Try.prog 16 #[] w (RetV w (.bool true)) := by
  have Z := Zt.start w (Has.nil w w)
  obtain ⟨tt, htt⟩ : ∃ b : Bool, b = true := ⟨true, rfl⟩
  obtain ⟨ff, hff⟩ : ∃ b : Bool, b = false := ⟨false, rfl⟩
  go_enter Try.func16, Try.ntmps16
  refine wp_seq ?_
  refine wp_region_list ?_
  refine seq_is (v := .bool (false)) rfl (run_assign rfl rfl) ?_
  (try simp only [Act.put, List.setIfInBounds_toArray, List.set_cons_zero, List.set_cons_succ])
  show Code.wp _ _ _ _ _
  refine wp_seq ?_
  refine wp_region_list ?_
  refine seq_call Z rfl rfl Try.func33 rfl rfl (args1 rfl) (Z.callQ (trammellaw03_half.sem (by decide))) ?_; clear Z; intro x1 W Z
  (try simp only [Act.put, List.setIfInBounds_toArray, List.set_cons_zero, List.set_cons_succ])
  refine seq_call Z rfl rfl Try.func32 rfl rfl (args1 rfl) (Z.callIi (rat_Near.sem (Z.own 0 rfl (Bd.fm (Bd.abs (Bd.lit (k := 64) (z := -3) (by decide))) (by decide))) (Z.own 1 rfl (Bd.fm (Bd.abs (Bd.lit (k := 64) (z := 2) (by decide))) (by decide))) (Bd.mono (Bd.lit (k := 64) (z := -3) (by decide)) (by decide)) (Bd.mono (Bd.lit (k := 64) (z := 2) (by decide)) (by decide)) (by decide))) ?_; clear Z; intro x2 W Z
  (try simp only [Act.put, List.setIfInBounds_toArray, List.set_cons_zero, List.set_cons_succ])
  refine seq_is (v := .tuple #[.agg #[.bool (decide (nearZ ((-3 : Int)) ((2 : Int)) < 0)), x2.v], .int .i64 (0)]) rfl (run_move rfl rfl) ?_
  (try simp only [Act.put, List.setIfInBounds_toArray, List.set_cons_zero, List.set_cons_succ])
  refine seq_is (v := .agg #[.bool (decide (nearZ ((-3 : Int)) ((2 : Int)) < 0)), x2.v]) rfl (run_extract rfl rfl rfl) ?_
  (try simp only [Act.put, List.setIfInBounds_toArray, List.set_cons_zero, List.set_cons_succ])
  refine seq_is (v := .int .i64 (0)) rfl (run_extract rfl rfl rfl) ?_
  (try simp only [Act.put, List.setIfInBounds_toArray, List.set_cons_zero, List.set_cons_succ])
  refine seq_alloc Z rfl rfl ?_; clear Z; intro g3 W Z
  (try simp only [Act.put, List.setIfInBounds_toArray, List.set_cons_zero, List.set_cons_succ])
  refine seq_store Z 0 rfl rfl rfl rfl rfl ?_; clear Z; intro W Z
  (try simp only [Act.put, List.setIfInBounds_toArray, List.set_cons_zero, List.set_cons_succ])
  refine seq_is (v := .int .i64 (0)) rfl (run_assign rfl rfl) ?_
  (try simp only [Act.put, List.setIfInBounds_toArray, List.set_cons_zero, List.set_cons_succ])
  show Code.wp _ _ _ _ _
  refine wp_seq ?_
  refine wp_region_list ?_
  refine seq_call Z rfl rfl Try.func33 rfl rfl (args1 rfl) (Z.callQ (trammellaw03_half.sem (by decide))) ?_; clear Z; intro x4 W Z
  (try simp only [Act.put, List.setIfInBounds_toArray, List.set_cons_zero, List.set_cons_succ])
  refine seq_call Z rfl rfl Try.func39 rfl rfl (args1 rfl) (Z.callV (rat_Text.sem (Z.own 0 rfl (Bd.fm (Bd.abs (Bd.lit (k := 64) (z := 2) (by decide))) (by decide))) (Z.own 1 rfl (Bd.fm (Bd.abs (Bd.lit (k := 64) (z := 2) (by decide))) (by decide))) (Bd.mono (Bd.lit (k := 64) (z := 2) (by decide)) (by decide)) (Bd.mono (Bd.lit (k := 64) (z := 2) (by decide)) (by decide)) (by decide))) ?_; clear Z; intro x5 W Z
  (try simp only [Act.put, List.setIfInBounds_toArray, List.set_cons_zero, List.set_cons_succ])
  refine seq_is (v := .tuple #[.string (textQ ((2 : Int)) ((2 : Int))), .int .i64 (0)]) rfl (run_move rfl rfl) ?_
  (try simp only [Act.put, List.setIfInBounds_toArray, List.set_cons_zero, List.set_cons_succ])
  refine seq_is (v := .string (textQ ((2 : Int)) ((2 : Int)))) rfl (run_extract rfl rfl rfl) ?_
  (try simp only [Act.put, List.setIfInBounds_toArray, List.set_cons_zero, List.set_cons_succ])
  refine seq_is (v := .int .i64 (0)) rfl (run_extract rfl rfl rfl) ?_
  (try simp only [Act.put, List.setIfInBounds_toArray, List.set_cons_zero, List.set_cons_succ])
  refine seq_is (v := .string (textQ ((2 : Int)) ((2 : Int)))) rfl (run_assign rfl rfl) ?_
  (try simp only [Act.put, List.setIfInBounds_toArray, List.set_cons_zero, List.set_cons_succ])
  refine seq_is (v := .int .i64 (0)) rfl (run_assign rfl rfl) ?_
  (try simp only [Act.put, List.setIfInBounds_toArray, List.set_cons_zero, List.set_cons_succ])
  show Code.wp _ _ _ _ _
  refine wp_seq ?_
  refine wp_dag (pre := [_, _, _, _, _, _, _, _, _, _, _, _, _, _, _, _]) (sps := [.is (.int .i64 (0)), .is (.bool (decide ((0 : Int) = (0)))), .is (.bool (decide ((0 : Int) = (0)))), .is (.agg #[.bool (decide (nearZ ((-3 : Int)) ((2 : Int)) < 0)), x2.v]), spI w ((-1 : Int)), .is (.bool (true)), .is (.bool (tt)), .is (.bool (tt)), .is (.int .i64 (0)), .is (.bool (decide ((0 : Int) = (0)))), .is (.bool (decide ((0 : Int) = (0)))), .is (.bool (decide ((0 : Int) = (0)))), .is (.string (textQ ((2 : Int)) ((2 : Int)))), .is (.bool (true)), .is (.bool (tt)), .is (.bool (tt))]) Z (by kernel_rfl) _ rfl (by kernel_rfl) (by kernel_rfl) rfl ⟨?_, ?_, ?_, ?_, ?_, ?_, ?_, ?_, ?_, ?_, ?_, ?_, ?_, ?_, ?_, ?_, trivial⟩ ?_
  · intro a e6 W Q Z; exact step_is (fun _ h => op_plain rfl rfl h) (run_move rfl (ev e6))
  · intro a x8 e9 W Q Z; exact step_is (fun _ h => op_plain rfl rfl h) (run_eqlE rfl (ev e9) rfl)
  · intro a x11 e12 W Q Z; exact step_is (fun _ h => op_plain rfl rfl h) (run_move rfl (ev e12))
  · intro a x14 e15 e16 W Q Z; exact step_is (fun _ h => op_want rfl rfl rfl e15 h) (run_load2 rfl (ev e16) (Z.bx 0 rfl))
  · intro a x18 e19 W Q Z; exact step_call (fun _ h => op_want rfl rfl rfl e19 h) rfl Try.func46 rfl rfl (args1 rfl) (Z.callI (trammelref02_Of.sem (by omega) (by omega)))
  · intro a x21 e22 x23 e24 x25 e26 W Q Z; exact step_call (fun _ h => op_want rfl rfl rfl e22 h) rfl Try.func35 rfl rfl (args2 (ev e24) (ev e26)) (Z.callV (wholeI (z1 := nearZ ((-3 : Int)) ((2 : Int))) (z2 := (-1 : Int)) (Z.rdO 3 rfl) (Z.rdO 0 rfl) (Bd.fm (Bd.abs (Bd.near (Bd.lit (k := 64) (z := -3) (by decide)) (Bd.lit (k := 64) (z := 2) (by decide)))) (by decide)) near_32))
  · intro a x28 e29 x30 e31 W Q Z; exact step_is (fun _ h => op_plain rfl rfl h) (run_castR (run_pickT rfl (ev e29) (ev e31)) htt.symm)
  · intro a x33 e34 W Q Z; exact step_is (fun _ h => op_plain rfl rfl h) (run_move rfl (ev e34))
  · intro a x36 e37 e38 W Q Z; exact step_is (fun _ h => op_want rfl rfl rfl (e37.trans (congrArg some (congrArg Value.bool htt))) h) (run_move rfl (ev e38))
  · intro a x40 e41 x42 e43 W Q Z; exact step_is (fun _ h => op_want rfl rfl rfl (e41.trans (congrArg some (congrArg Value.bool htt))) h) (run_eqlE rfl (ev e43) rfl)
  · intro a x45 e46 x47 e48 W Q Z; exact step_is (fun _ h => op_plain rfl rfl h) (run_pickT rfl ((show _ = Value.bool (tt) from (ev e46)).trans (congrArg Value.bool htt)) (ev e48))
  · intro a x50 e51 W Q Z; exact step_is (fun _ h => op_plain rfl rfl h) (run_move rfl (ev e51))
  · intro a x53 e54 e55 W Q Z; exact step_is (fun _ h => op_want rfl rfl rfl e54 h) (run_move rfl (ev e55))
  · intro a x57 e58 x59 e60 W Q Z; exact step_is (fun _ h => op_want rfl rfl rfl e58 h) (run_eqlS text_22 rfl (ev e60) rfl)
  · intro a x62 e63 x64 e65 W Q Z; exact step_is (fun _ h => op_plain rfl rfl h) (run_castR (run_pickT rfl (ev e63) (ev e65)) htt.symm)
  · intro a x67 e68 W Q Z; exact step_is (fun _ h => op_plain rfl rfl h) (run_assign rfl (ev e68))
  clear Z; intro x7 x10 x13 x17 x20 x27 x32 x35 x39 x44 x49 x52 x56 x61 x66 x69 W Z
  (try simp only [Act.put, List.setIfInBounds_toArray, List.set_cons_zero, List.set_cons_succ])
  show Code.wp _ _ _ _ _
  refine wp_ret ?_
  exact Z.endsV rfl rfl rfl (congrArg Value.bool htt)
theorem whole_self {w : World} {b : Bool} {v1 v2 : Value} {l : List Int} (m1 : Rd w v1 l) (m2 : Rd w v2 l) (hl : l.length ≤ 10000000) : Calls Try.prog 35 #[.agg #[.bool b, v1], .agg #[.bool b, v2]] w (RetV w (.bool true)) := by
  have h := trammellaw03_whole.sem (b1 := b) (b2 := b) m1 m2 (by omega)
  simpa using h
set_option maxHeartbeats 4000000 in
set_option maxRecDepth 100000 in
theorem same_self {w : World} {b1 b2 : Bool} {v1 v2 v3 v4 : Value} {l1 l2 : List Int} (m1 : Rd w v1 l1) (m2 : Rd w v2 l2) (m3 : Rd w v3 l1) (m4 : Rd w v4 l2) (hl1 : l1.length ≤ 10000000) (hl2 : l2.length ≤ 10000000) : Calls Try.prog 15 #[.agg #[.bool b1, v1, .bool b2, v2], .agg #[.bool b1, v3, .bool b2, v4]] w (RetV w (.bool true)) := by
  obtain ⟨A1, c1, rfl, hc1, hC1⟩ := id m1
  obtain ⟨A2, c2, rfl, hc2, hC2⟩ := id m2
  obtain ⟨A3, c3, rfl, hc3, hC3⟩ := id m3
  obtain ⟨A4, c4, rfl, hc4, hC4⟩ := id m4
  have Z := Zt.start w (m1.has.append (m2.has.append (m3.has.append m4.has)))
  clear hC1 hC2 hC3 hC4
  obtain ⟨tt, htt⟩ : ∃ b : Bool, b = true := ⟨true, rfl⟩
  obtain ⟨ff, hff⟩ : ∃ b : Bool, b = false := ⟨false, rfl⟩
  go_enter Try.func15, Try.ntmps15
  refine wp_seq ?_
  refine wp_region_list ?_
  refine seq_box4 Z rfl rfl rfl ?_; clear Z; intro g1 W Z
  (try simp only [Act.put, List.setIfInBounds_toArray, List.set_cons_zero, List.set_cons_succ])
  refine seq_box4 Z rfl rfl rfl ?_; clear Z; intro g2 W Z
  (try simp only [Act.put, List.setIfInBounds_toArray, List.set_cons_zero, List.set_cons_succ])
  refine seq_is (v := .bool (false)) rfl (run_assign rfl rfl) ?_
  (try simp only [Act.put, List.setIfInBounds_toArray, List.set_cons_zero, List.set_cons_succ])
  show Code.wp _ _ _ _ _
  refine wp_seq ?_
  refine wp_region_list ?_
  refine seq_is (v := .pointer (some ⟨g1, 0, none⟩)) rfl (run_fieldR0 rfl rfl) ?_
  (try simp only [Act.put, List.setIfInBounds_toArray, List.set_cons_zero, List.set_cons_succ])
  refine seq_is (v := .agg #[.bool (b1), .slice A1 l1.length c1]) rfl (run_loadNum rfl rfl (Z.bx 1 rfl)) ?_
  (try simp only [Act.put, List.setIfInBounds_toArray, List.set_cons_zero, List.set_cons_succ])
  refine seq_is (v := .pointer (some ⟨g2, 0, none⟩)) rfl (run_fieldR0 rfl rfl) ?_
  (try simp only [Act.put, List.setIfInBounds_toArray, List.set_cons_zero, List.set_cons_succ])
  refine seq_is (v := .agg #[.bool (b1), .slice A3 l1.length c3]) rfl (run_loadNum rfl rfl (Z.bx 0 rfl)) ?_
  (try simp only [Act.put, List.setIfInBounds_toArray, List.set_cons_zero, List.set_cons_succ])
  refine seq_call Z rfl rfl Try.func35 rfl rfl (args2 rfl rfl) (Z.callV (whole_self (Z.rd 0 rfl) (Z.rd 2 rfl) hl1)) ?_; clear Z; intro x3 W Z
  (try simp only [Act.put, List.setIfInBounds_toArray, List.set_cons_zero, List.set_cons_succ])
  refine seq_is (v := .bool (true)) rfl (run_move rfl rfl) ?_
  (try simp only [Act.put, List.setIfInBounds_toArray, List.set_cons_zero, List.set_cons_succ])
  refine list_want rfl rfl (congrArg some (congrArg Value.bool (Eq.refl true))) (wp_run (v := .pointer (some ⟨g1, 2, none⟩)) (run_fieldR1 rfl rfl) ?_)
  (try simp only [Act.put, List.setIfInBounds_toArray, List.set_cons_zero, List.set_cons_succ])
  refine list_want rfl rfl (congrArg some (congrArg Value.bool (Eq.refl true))) (wp_run (v := .agg #[.bool (b2), .slice A2 l2.length c2]) (run_loadDen rfl rfl (Z.bx 1 rfl)) ?_)
  (try simp only [Act.put, List.setIfInBounds_toArray, List.set_cons_zero, List.set_cons_succ])
  refine list_want rfl rfl (congrArg some (congrArg Value.bool (Eq.refl true))) (wp_run (v := .pointer (some ⟨g2, 2, none⟩)) (run_fieldR1 rfl rfl) ?_)
  (try simp only [Act.put, List.setIfInBounds_toArray, List.set_cons_zero, List.set_cons_succ])
  refine list_want rfl rfl (congrArg some (congrArg Value.bool (Eq.refl true))) (wp_run (v := .agg #[.bool (b2), .slice A4 l2.length c4]) (run_loadDen rfl rfl (Z.bx 0 rfl)) ?_)
  (try simp only [Act.put, List.setIfInBounds_toArray, List.set_cons_zero, List.set_cons_succ])
  refine seq_callw Z (fun h => list_want rfl rfl (congrArg some (congrArg Value.bool (Eq.refl true))) h) rfl Try.func35 rfl rfl (args2 rfl rfl) (Z.callV (whole_self (Z.rd 1 rfl) (Z.rd 3 rfl) hl2)) ?_; clear Z; intro x4 W Z
  (try simp only [Act.put, List.setIfInBounds_toArray, List.set_cons_zero, List.set_cons_succ])
  refine seq_is (v := .bool (tt)) rfl (run_castR (run_pickT rfl rfl rfl) htt.symm) ?_
  (try simp only [Act.put, List.setIfInBounds_toArray, List.set_cons_zero, List.set_cons_succ])
  refine seq_is (v := .bool (tt)) rfl (run_assign rfl rfl) ?_
  (try simp only [Act.put, List.setIfInBounds_toArray, List.set_cons_zero, List.set_cons_succ])
  show Code.wp _ _ _ _ _
  refine wp_ret ?_
  exact Z.endsV rfl rfl rfl (congrArg Value.bool htt)
theorem sameQ {w : World} {v1 v2 v3 v4 : Value} {z1 z2 y1 y2 : Int} (m1 : Rd w v1 (mg z1)) (m2 : Rd w v2 (mg y1)) (m3 : Rd w v3 (mg z2)) (m4 : Rd w v4 (mg y2)) (f1 : Fm ((z1.natAbs : Nat))) (f2 : Fm ((y1.natAbs : Nat))) (e : z1 = z2) (e2 : y1 = y2) : Calls Try.prog 15 #[.agg #[.bool (decide (z1 < 0)), v1, .bool (decide (y1 < 0)), v2], .agg #[.bool (decide (z2 < 0)), v3, .bool (decide (y2 < 0)), v4]] w (RetV w (.bool true)) := by
  subst e e2
  exact same_self m1 m2 m3 m4 f1 f2
end Go.Proofs.Ytndopanohhdfgaa.PA


/- Add, Sub, Mul, Div of layer 3 and of the document. -/
namespace Go.Proofs.Ytndopanohhdfgaa.PA
open Go Go.Proofs.Ytndopanohhdfgaa.Nums Go.RowKit Go.Proofs.YtndopanohhdfgaaW.PrintWords Go.Proofs.YtndopanohhdfgaaW.PrintLast Go.Proofs.YtndopanohhdfgaaW.PrintMore
set_option linter.unusedVariables false
set_option linter.unusedSimpArgs false
theorem args3 {a : Act} {p q r : Operand} {v u t : Value} (h : a.eval p = v) (k : a.eval q = u) (l : a.eval r = t) : (#[p, q, r] : Array Operand).map a.eval = #[v, u, t] := by simp [h, k, l]
theorem sub_q {a b c d : Int} (hb : b ≠ 0) (hd : d ≠ 0) : qn (a * qd (-c) d + qn (-c) d * b) (b * qd (-c) d) = qn (a * d - c * b) (b * d) ∧ qd (a * qd (-c) d + qn (-c) d * b) (b * qd (-c) d) = qd (a * d - c * b) (b * d) := by
  have h1 := q_cross (x := -c) hd
  have h2 := qd_pos (x := -c) hd
  refine q_eq (Int.mul_ne_zero hb (by omega)) (Int.mul_ne_zero hb hd) ?_
  grind
set_option maxHeartbeats 4000000 in
set_option maxRecDepth 100000 in
theorem rat_Sub_1.sem {w : World} {b1 : Bool} {v1 : Value} {z1 : Int} {b2 : Bool} {v2 : Value} {z2 : Int} {b3 : Bool} {v3 : Value} {z3 : Int} {b4 : Bool} {v4 : Value} {z4 : Int} {g1 g2 : Nat} (m1 : NumV w b1 v1 z1) (m2 : NumV w b2 v2 z2) (m3 : NumV w b3 v3 z3) (m4 : NumV w b4 v4 z4) (hg1 : w.heap[g1]? = some (.cells #[.bool b1, v1, .bool b2, v2] 29 (0, 0))) (hg2 : w.heap[g2]? = some (.cells #[.bool b3, v3, .bool b4, v4] 29 (0, 0))) (hb1 : Bd 74000000 z1) (hb2 : Bd 74000000 z2) (hb3 : Bd 74000000 z3) (hb4 : Bd 74000000 z4) (h2 : 0 < z2) (h4 : 0 < z4) : Calls Try.prog 59 #[.pointer (some ⟨g1, 0, none⟩), .pointer (some ⟨g2, 0, none⟩)] w (ResQ w (qn ((z1 * z4) - (z3 * z2)) (z2 * z4)) (qd ((z1 * z4) - (z3 * z2)) (z2 * z4))) := by
  obtain ⟨A1, n1, c1, rfl⟩ := m1.form
  obtain ⟨A2, n2, c2, rfl⟩ := m2.form
  obtain ⟨A3, n3, c3, rfl⟩ := m3.form
  obtain ⟨A4, n4, c4, rfl⟩ := m4.form
  have Z := Zt.start w (m1.has.append (m2.has.append (m3.has.append (m4.has.append ((tyH.has (.pointer (some ⟨g1, 0, none⟩)) hg1).append (tyH.has (.pointer (some ⟨g2, 0, none⟩)) hg2))))))
  go_enter Try.func59, Try.ntmps59
  refine wp_seq ?_
  refine wp_region_list ?_
  refine seq_alloc4 Z rfl rfl ?_; clear Z; intro g11 W Z
  (try simp only [Act.put, List.setIfInBounds_toArray, List.set_cons_zero, List.set_cons_succ])
  show Code.wp _ _ _ _ _
  refine wp_seq ?_
  refine wp_dag (pre := [_, _, _, _, _, _, _, _, _, _, _, _, _, _, _, _, _]) (sps := [.is (.pointer (some ⟨g1, 0, none⟩)), .is (.agg #[.bool (b1), .slice A1 n1 c1]), .is (.pointer (some ⟨g2, 2, none⟩)), .is (.agg #[.bool (b4), .slice A4 n4 c4]), spI w ((z1) * (z4)), .is (.pointer (some ⟨g2, 0, none⟩)), .is (.agg #[.bool (b3), .slice A3 n3 c3]), .is (.pointer (some ⟨g1, 2, none⟩)), .is (.agg #[.bool (b2), .slice A2 n2 c2]), spI w ((z3) * (z2)), spI w (((z1) * (z4)) - ((z3) * (z2))), .is (.pointer (some ⟨g1, 2, none⟩)), .is (.agg #[.bool (b2), .slice A2 n2 c2]), .is (.pointer (some ⟨g2, 2, none⟩)), .is (.agg #[.bool (b4), .slice A4 n4 c4]), spI w ((z2) * (z4)), spQ w (qn (((z1) * (z4)) - ((z3) * (z2))) ((z2) * (z4))) (qd (((z1) * (z4)) - ((z3) * (z2))) ((z2) * (z4)))]) Z (by kernel_rfl) _ rfl (by kernel_rfl) (by kernel_rfl) rfl ⟨?_, ?_, ?_, ?_, ?_, ?_, ?_, ?_, ?_, ?_, ?_, ?_, ?_, ?_, ?_, ?_, ?_, trivial⟩ ?_
  · intro a e12 W Q Z; exact step_is (fun _ h => op_plain rfl rfl h) (run_fieldR0 rfl (ev e12))
  · intro a x14 e15 W Q Z; exact step_is (fun _ h => op_plain rfl rfl h) (run_loadNumH rfl (ev e15) (Z.get 4 rfl))
  · intro a e17 W Q Z; exact step_is (fun _ h => op_plain rfl rfl h) (run_fieldR1 rfl (ev e17))
  · intro a x19 e20 W Q Z; exact step_is (fun _ h => op_plain rfl rfl h) (run_loadDenH rfl (ev e20) (Z.get 5 rfl))
  · intro a x22 e23 x24 e25 W Q Z; exact step_call (fun _ h => op_plain rfl rfl h) rfl Try.func55 rfl rfl (args2 (ev e23) (ev e25)) (Z.callI (zint_Mul.sem (Z.num 0 rfl) (Z.num 3 rfl) (Bd.fm (Bd.mul (Bd.abs hb1) (Bd.abs hb4)) (by decide)) ))
  · intro a e27 W Q Z; exact step_is (fun _ h => op_plain rfl rfl h) (run_fieldR0 rfl (ev e27))
  · intro a x29 e30 W Q Z; exact step_is (fun _ h => op_plain rfl rfl h) (run_loadNumH rfl (ev e30) (Z.get 5 rfl))
  · intro a e32 W Q Z; exact step_is (fun _ h => op_plain rfl rfl h) (run_fieldR1 rfl (ev e32))
  · intro a x34 e35 W Q Z; exact step_is (fun _ h => op_plain rfl rfl h) (run_loadDenH rfl (ev e35) (Z.get 4 rfl))
  · intro a x37 e38 x39 e40 W Q Z; exact step_call (fun _ h => op_plain rfl rfl h) rfl Try.func55 rfl rfl (args2 (ev e38) (ev e40)) (Z.callI (zint_Mul.sem (Z.num 2 rfl) (Z.num 1 rfl) (Bd.fm (Bd.mul (Bd.abs hb3) (Bd.abs hb2)) (by decide)) ))
  · intro a x42 e43 x44 e45 W Q Z; exact step_call (fun _ h => op_plain rfl rfl h) rfl Try.func60 rfl rfl (args2 (ev e43) (ev e45)) (Z.callI (zint_Sub.sem (Z.own 1 rfl (Bd.fm (Bd.abs (Bd.mul hb1 hb4)) (by decide))) (Z.own 0 rfl (Bd.fm (Bd.abs (Bd.mul hb3 hb2)) (by decide))) (Bd.fm (Bd.abs (Bd.neg (Bd.mul hb3 hb2))) (by decide)) (Bd.fm (Bd.add (Bd.abs (Bd.mul hb1 hb4)) (Bd.abs (Bd.neg (Bd.mul hb3 hb2)))) (by decide)) (Bd.fm (Bd.sub (Bd.abs (Bd.neg (Bd.mul hb3 hb2))) (Bd.abs (Bd.mul hb1 hb4))) (by decide)) (Bd.fm (Bd.sub (Bd.abs (Bd.mul hb1 hb4)) (Bd.abs (Bd.neg (Bd.mul hb3 hb2)))) (by decide)) ))
  · intro a e47 W Q Z; exact step_is (fun _ h => op_plain rfl rfl h) (run_fieldR1 rfl (ev e47))
  · intro a x49 e50 W Q Z; exact step_is (fun _ h => op_plain rfl rfl h) (run_loadDenH rfl (ev e50) (Z.get 4 rfl))
  · intro a e52 W Q Z; exact step_is (fun _ h => op_plain rfl rfl h) (run_fieldR1 rfl (ev e52))
  · intro a x54 e55 W Q Z; exact step_is (fun _ h => op_plain rfl rfl h) (run_loadDenH rfl (ev e55) (Z.get 5 rfl))
  · intro a x57 e58 x59 e60 W Q Z; exact step_call (fun _ h => op_plain rfl rfl h) rfl Try.func55 rfl rfl (args2 (ev e58) (ev e60)) (Z.callI (zint_Mul.sem (Z.num 1 rfl) (Z.num 3 rfl) (Bd.fm (Bd.mul (Bd.abs hb2) (Bd.abs hb4)) (by decide)) ))
  · intro a x62 e63 x64 e65 W Q Z; exact step_call (fun _ h => op_plain rfl rfl h) rfl Try.func44 rfl rfl (args2 (ev e63) (ev e65)) (Z.callQ (rat_made.semq (Z.own 1 rfl (Bd.fm (Bd.abs (Bd.sub (Bd.mul hb1 hb4) (Bd.mul hb3 hb2))) (by decide))) (Z.own 0 rfl (Bd.fm (Bd.abs (Bd.mul hb2 hb4)) (by decide))) (Bd.mono (Bd.sub (Bd.mul hb1 hb4) (Bd.mul hb3 hb2)) (by decide)) (Bd.mono (Bd.mul hb2 hb4) (by decide)) (pos_ne (Int.mul_pos h2 h4))))
  clear Z; intro x13 x16 x18 x21 x26 x28 x31 x33 x36 x41 x46 x48 x51 x53 x56 x61 x66 W Z
  (try simp only [Act.put, List.setIfInBounds_toArray, List.set_cons_zero, List.set_cons_succ])
  refine seq_store4 Z 0 rfl rfl rfl rfl rfl ?_; clear Z; intro W Z
  (try simp only [Act.put, List.setIfInBounds_toArray, List.set_cons_zero, List.set_cons_succ])
  show Code.wp _ _ _ _ _
  refine wp_ret ?_
  exact Z.endsQ' 0 0 1 rfl rfl rfl rfl rfl rfl (by rfl) (by rfl) (by rfl) (by rfl)
set_option maxHeartbeats 4000000 in
set_option maxRecDepth 100000 in
theorem rat_two.sem {w : World} {b1 : Bool} {v1 : Value} {z1 : Int} {b2 : Bool} {v2 : Value} {z2 : Int} {b3 : Bool} {v3 : Value} {z3 : Int} {b4 : Bool} {v4 : Value} {z4 : Int} (m1 : NumV w b1 v1 z1) (m2 : NumV w b2 v2 z2) (m3 : NumV w b3 v3 z3) (m4 : NumV w b4 v4 z4) (h2 : 0 < z2) (h4 : 0 < z4) {f : FuncId} {fn : Func} {caps : Array Value} {X Y : Int} (hf : Try.prog.funcs[f]? = some fn ∧ (fn.name == "runtime.NumGoroutine") = false ∧ fn.body.isSome = true) (hc : ∀ W, Below w.heap.size w W → Calls Try.prog f caps W (ResQ W X Y)) : Calls Try.prog 56 #[.agg #[.bool b1, v1, .bool b2, v2], .agg #[.bool b3, v3, .bool b4, v4], .func (.func f) #[] caps] w (ResQi w X Y (.int .i64 0)) := by
  obtain ⟨A1, n1, c1, rfl⟩ := m1.form
  obtain ⟨A2, n2, c2, rfl⟩ := m2.form
  obtain ⟨A3, n3, c3, rfl⟩ := m3.form
  obtain ⟨A4, n4, c4, rfl⟩ := m4.form
  have Z := Zt.start w (m1.has.append (m2.has.append (m3.has.append m4.has)))
  go_enter Try.func56, Try.ntmps56
  refine wp_seq ?_
  refine wp_region_list ?_
  refine seq_box4 Z rfl rfl rfl ?_; clear Z; intro g1 W Z
  (try simp only [Act.put, List.setIfInBounds_toArray, List.set_cons_zero, List.set_cons_succ])
  refine seq_box4 Z rfl rfl rfl ?_; clear Z; intro g2 W Z
  (try simp only [Act.put, List.setIfInBounds_toArray, List.set_cons_zero, List.set_cons_succ])
  refine seq_alloc4 Z rfl rfl ?_; clear Z; intro g3 W Z
  (try simp only [Act.put, List.setIfInBounds_toArray, List.set_cons_zero, List.set_cons_succ])
  refine seq_is (v := .int .i64 (0)) rfl (run_assign rfl rfl) ?_
  (try simp only [Act.put, List.setIfInBounds_toArray, List.set_cons_zero, List.set_cons_succ])
  show Code.wp _ _ _ _ _
  refine wp_seq ?_
  refine wp_seq ?_
  refine wp_region_list ?_
  refine seq_is (v := .agg #[.bool (b1), .slice A1 n1 c1, .bool (b2), .slice A2 n2 c2]) rfl (run_load4 rfl rfl (Z.bx 2 rfl)) ?_
  (try simp only [Act.put, List.setIfInBounds_toArray, List.set_cons_zero, List.set_cons_succ])
  refine seq_is (v := .agg #[.bool (b3), .slice A3 n3 c3, .bool (b4), .slice A4 n4 c4]) rfl (run_load4 rfl rfl (Z.bx 1 rfl)) ?_
  (try simp only [Act.put, List.setIfInBounds_toArray, List.set_cons_zero, List.set_cons_succ])
  refine seq_rowR2 Z rfl rfl rfl rfl ?_; clear Z; intro g4 W Z
  (try simp only [Act.put, List.setIfInBounds_toArray, List.set_cons_zero, List.set_cons_succ])
  refine seq_call Z rfl rfl Try.func41 rfl rfl (args1 rfl) (Z.callV (rat_valid.sem2 (Z.num 0 rfl) (Z.num 1 rfl) (Z.num 2 rfl) (Z.num 3 rfl) (Z.bx 0 rfl).2.2)) ?_; clear Z; intro x5 W Z
  (try simp only [Act.put, List.setIfInBounds_toArray, List.set_cons_zero, List.set_cons_succ])
  refine seq_is (v := .int .i64 (okE2 (z2) (z4))) rfl (run_assign rfl rfl) ?_
  (try simp only [Act.put, List.setIfInBounds_toArray, List.set_cons_zero, List.set_cons_succ])
  show Code.wp _ _ _ _ _
  refine wp_seq ?_
  refine wp_region_list ?_
  refine seq_is (v := .int .i64 (okE2 (z2) (z4))) rfl (run_move rfl rfl) ?_
  (try simp only [Act.put, List.setIfInBounds_toArray, List.set_cons_zero, List.set_cons_succ])
  refine seq_is (v := .bool (decide ((okE2 (z2) (z4)) ≠ (0)))) rfl (run_neqE rfl rfl rfl) ?_
  (try simp only [Act.put, List.setIfInBounds_toArray, List.set_cons_zero, List.set_cons_succ])
  show Code.wp _ _ _ _ _
  refine wp_cond_false ((show _ = Value.bool (decide ((okE2 (z2) (z4)) ≠ (0))) from rfl).trans (congrArg Value.bool (okE2_t ⟨h2, h4⟩))) ?_
  refine wp_skip ?_
  show Code.wp _ _ _ _ _
  refine wp_seq ?_
  refine wp_region_list ?_
  refine seq_is (v := .func (.func f) #[] caps) rfl (run_move rfl rfl) ?_
  (try simp only [Act.put, List.setIfInBounds_toArray, List.set_cons_zero, List.set_cons_succ])
  refine seq_dyn Z rfl rfl rfl hf (Z.callQ (hc _ Z.below)) ?_; clear Z; intro x6 W Z
  (try simp only [Act.put, List.setIfInBounds_toArray, List.set_cons_zero, List.set_cons_succ])
  refine seq_store4 Z 1 rfl rfl rfl rfl rfl ?_; clear Z; intro W Z
  (try simp only [Act.put, List.setIfInBounds_toArray, List.set_cons_zero, List.set_cons_succ])
  refine seq_is (v := .int .i64 (0)) rfl (run_assign rfl rfl) ?_
  (try simp only [Act.put, List.setIfInBounds_toArray, List.set_cons_zero, List.set_cons_succ])
  show Code.wp _ _ _ _ _
  refine wp_ret ?_
  exact Z.endsQi' (u := .int .i64 (0)) 1 0 1 rfl rfl rfl rfl rfl rfl rfl (by rfl) (by rfl) (by rfl) (by rfl) (by rfl)
set_option maxHeartbeats 4000000 in
set_option maxRecDepth 100000 in
theorem rat_Sub.sem {w : World} {b1 : Bool} {v1 : Value} {z1 : Int} {b2 : Bool} {v2 : Value} {z2 : Int} {b3 : Bool} {v3 : Value} {z3 : Int} {b4 : Bool} {v4 : Value} {z4 : Int} (m1 : NumV w b1 v1 z1) (m2 : NumV w b2 v2 z2) (m3 : NumV w b3 v3 z3) (m4 : NumV w b4 v4 z4) (hb1 : Bd 74000000 z1) (hb2 : Bd 74000000 z2) (hb3 : Bd 74000000 z3) (hb4 : Bd 74000000 z4) (h2 : 0 < z2) (h4 : 0 < z4) : Calls Try.prog 24 #[.agg #[.bool b1, v1, .bool b2, v2], .agg #[.bool b3, v3, .bool b4, v4]] w (ResQi w (qn ((z1 * z4) - (z3 * z2)) (z2 * z4)) (qd ((z1 * z4) - (z3 * z2)) (z2 * z4)) (.int .i64 0)) := by
  obtain ⟨A1, n1, c1, rfl⟩ := m1.form
  obtain ⟨A2, n2, c2, rfl⟩ := m2.form
  obtain ⟨A3, n3, c3, rfl⟩ := m3.form
  obtain ⟨A4, n4, c4, rfl⟩ := m4.form
  have Z := Zt.start w (m1.has.append (m2.has.append (m3.has.append m4.has)))
  go_enter Try.func24, Try.ntmps24
  refine wp_seq ?_
  refine wp_region_list ?_
  refine seq_box4 Z rfl rfl rfl ?_; clear Z; intro g1 W Z
  (try simp only [Act.put, List.setIfInBounds_toArray, List.set_cons_zero, List.set_cons_succ])
  refine seq_box4 Z rfl rfl rfl ?_; clear Z; intro g2 W Z
  (try simp only [Act.put, List.setIfInBounds_toArray, List.set_cons_zero, List.set_cons_succ])
  refine seq_alloc4 Z rfl rfl ?_; clear Z; intro g3 W Z
  (try simp only [Act.put, List.setIfInBounds_toArray, List.set_cons_zero, List.set_cons_succ])
  refine seq_is (v := .int .i64 (0)) rfl (run_assign rfl rfl) ?_
  (try simp only [Act.put, List.setIfInBounds_toArray, List.set_cons_zero, List.set_cons_succ])
  show Code.wp _ _ _ _ _
  refine wp_seq ?_
  refine wp_region_list ?_
  refine seq_is (v := .agg #[.bool (b1), .slice A1 n1 c1, .bool (b2), .slice A2 n2 c2]) rfl (run_load4 rfl rfl (Z.bx 2 rfl)) ?_
  (try simp only [Act.put, List.setIfInBounds_toArray, List.set_cons_zero, List.set_cons_succ])
  refine seq_is (v := .agg #[.bool (b3), .slice A3 n3 c3, .bool (b4), .slice A4 n4 c4]) rfl (run_load4 rfl rfl (Z.bx 1 rfl)) ?_
  (try simp only [Act.put, List.setIfInBounds_toArray, List.set_cons_zero, List.set_cons_succ])
  refine seq_is (v := .func (.func 59) #[] #[.pointer (some ⟨g1, 0, none⟩), .pointer (some ⟨g2, 0, none⟩)]) rfl (run_func2 rfl rfl rfl) ?_
  (try simp only [Act.put, List.setIfInBounds_toArray, List.set_cons_zero, List.set_cons_succ])
  refine seq_call Z rfl rfl Try.func56 rfl rfl (args3 rfl rfl rfl) (Z.callQi (rat_two.sem (Z.num 0 rfl) (Z.num 1 rfl) (Z.num 2 rfl) (Z.num 3 rfl) h2 h4 ⟨Try.func59, rfl, rfl⟩ (fun W hb => rat_Sub_1.sem ((Z.step hb).num 0 rfl) ((Z.step hb).num 1 rfl) ((Z.step hb).num 2 rfl) ((Z.step hb).num 3 rfl) ((Z.step hb).bx 2 rfl).2.2 ((Z.step hb).bx 1 rfl).2.2 hb1 hb2 hb3 hb4 h2 h4))) ?_; clear Z; intro x4 W Z
  (try simp only [Act.put, List.setIfInBounds_toArray, List.set_cons_zero, List.set_cons_succ])
  refine seq_is (v := .agg #[.bool (decide (qn ((z1 * z4) - (z3 * z2)) (z2 * z4) < 0)), x4.1.v, .bool (decide (qd ((z1 * z4) - (z3 * z2)) (z2 * z4) < 0)), x4.2.v]) rfl (run_extract rfl rfl rfl) ?_
  (try simp only [Act.put, List.setIfInBounds_toArray, List.set_cons_zero, List.set_cons_succ])
  refine seq_is (v := .int .i64 (0)) rfl (run_extract rfl rfl rfl) ?_
  (try simp only [Act.put, List.setIfInBounds_toArray, List.set_cons_zero, List.set_cons_succ])
  refine seq_store4 Z 0 rfl rfl rfl rfl rfl ?_; clear Z; intro W Z
  (try simp only [Act.put, List.setIfInBounds_toArray, List.set_cons_zero, List.set_cons_succ])
  refine seq_is (v := .int .i64 (0)) rfl (run_assign rfl rfl) ?_
  (try simp only [Act.put, List.setIfInBounds_toArray, List.set_cons_zero, List.set_cons_succ])
  show Code.wp _ _ _ _ _
  refine wp_ret ?_
  exact Z.endsQi' (u := .int .i64 (0)) 0 0 1 rfl rfl rfl rfl rfl rfl rfl (by rfl) (by rfl) (by rfl) (by rfl) (by rfl)
set_option maxHeartbeats 4000000 in
set_option maxRecDepth 100000 in
theorem trammelref03_Neg.sem {w : World} {b1 : Bool} {v1 : Value} {z1 : Int} {b2 : Bool} {v2 : Value} {z2 : Int} (m1 : NumV w b1 v1 z1) (m2 : NumV w b2 v2 z2) (hb1 : Bd 150000000 z1) (hb2 : Bd 150000000 z2) (h2 : z2 ≠ 0) : Calls Try.prog 63 #[.agg #[.bool b1, v1, .bool b2, v2]] w (ResQ w (qn (-z1) z2) (qd (-z1) z2)) := by
  obtain ⟨A1, n1, c1, rfl⟩ := m1.form
  obtain ⟨A2, n2, c2, rfl⟩ := m2.form
  have Z := Zt.start w (m1.has.append m2.has)
  go_enter Try.func63, Try.ntmps63
  refine wp_seq ?_
  refine wp_region_list ?_
  refine seq_box4 Z rfl rfl rfl ?_; clear Z; intro g1 W Z
  (try simp only [Act.put, List.setIfInBounds_toArray, List.set_cons_zero, List.set_cons_succ])
  refine seq_alloc4 Z rfl rfl ?_; clear Z; intro g2 W Z
  (try simp only [Act.put, List.setIfInBounds_toArray, List.set_cons_zero, List.set_cons_succ])
  show Code.wp _ _ _ _ _
  refine wp_seq ?_
  refine wp_dag (pre := [_, _, _, _, _, _]) (sps := [.is (.pointer (some ⟨g1, 0, none⟩)), .is (.agg #[.bool (b1), .slice A1 n1 c1]), spI w (-(z1)), .is (.pointer (some ⟨g1, 2, none⟩)), .is (.agg #[.bool (b2), .slice A2 n2 c2]), spQ w (qn (-(z1)) (z2)) (qd (-(z1)) (z2))]) Z (by kernel_rfl) _ rfl (by kernel_rfl) (by kernel_rfl) rfl ⟨?_, ?_, ?_, ?_, ?_, ?_, trivial⟩ ?_
  · intro a e3 W Q Z; exact step_is (fun _ h => op_plain rfl rfl h) (run_fieldR0 rfl (ev e3))
  · intro a x5 e6 W Q Z; exact step_is (fun _ h => op_plain rfl rfl h) (run_loadNum rfl (ev e6) (Z.bx 1 rfl))
  · intro a x8 e9 W Q Z; exact step_call (fun _ h => op_plain rfl rfl h) rfl Try.func48 rfl rfl (args1 (ev e9)) (Z.callI (trammelref02_Neg.sem (Z.num 0 rfl)  ))
  · intro a e11 W Q Z; exact step_is (fun _ h => op_plain rfl rfl h) (run_fieldR1 rfl (ev e11))
  · intro a x13 e14 W Q Z; exact step_is (fun _ h => op_plain rfl rfl h) (run_loadDen rfl (ev e14) (Z.bx 1 rfl))
  · intro a x16 e17 x18 e19 W Q Z; exact step_call (fun _ h => op_plain rfl rfl h) rfl Try.func17 rfl rfl (args2 (ev e17) (ev e19)) (Z.callQ (trammelref03_Make.semq (Z.own 0 rfl (Bd.fm (Bd.abs (Bd.neg hb1)) (by decide))) (Z.num 2 rfl) (Bd.mono (Bd.neg hb1) (by decide)) (Bd.mono hb2 (by decide)) h2))
  clear Z; intro x4 x7 x10 x12 x15 x20 W Z
  (try simp only [Act.put, List.setIfInBounds_toArray, List.set_cons_zero, List.set_cons_succ])
  refine seq_store4 Z 0 rfl rfl rfl rfl rfl ?_; clear Z; intro W Z
  (try simp only [Act.put, List.setIfInBounds_toArray, List.set_cons_zero, List.set_cons_succ])
  show Code.wp _ _ _ _ _
  refine wp_ret ?_
  exact Z.endsQ' 0 0 1 rfl rfl rfl rfl rfl rfl (by rfl) (by rfl) (by rfl) (by rfl)
set_option maxHeartbeats 4000000 in
set_option maxRecDepth 100000 in
theorem trammelref03_Add.sem {w : World} {b1 : Bool} {v1 : Value} {z1 : Int} {b2 : Bool} {v2 : Value} {z2 : Int} {b3 : Bool} {v3 : Value} {z3 : Int} {b4 : Bool} {v4 : Value} {z4 : Int} (m1 : NumV w b1 v1 z1) (m2 : NumV w b2 v2 z2) (m3 : NumV w b3 v3 z3) (m4 : NumV w b4 v4 z4) (hb1 : Bd 74000000 z1) (hb2 : Bd 74000000 z2) (hb3 : Bd 74000000 z3) (hb4 : Bd 74000000 z4) (h2 : z2 ≠ 0) (h4 : z4 ≠ 0) : Calls Try.prog 25 #[.agg #[.bool b1, v1, .bool b2, v2], .agg #[.bool b3, v3, .bool b4, v4]] w (ResQ w (qn ((z1 * z4) + (z3 * z2)) (z2 * z4)) (qd ((z1 * z4) + (z3 * z2)) (z2 * z4))) := by
  obtain ⟨A1, n1, c1, rfl⟩ := m1.form
  obtain ⟨A2, n2, c2, rfl⟩ := m2.form
  obtain ⟨A3, n3, c3, rfl⟩ := m3.form
  obtain ⟨A4, n4, c4, rfl⟩ := m4.form
  have Z := Zt.start w (m1.has.append (m2.has.append (m3.has.append m4.has)))
  go_enter Try.func25, Try.ntmps25
  refine wp_seq ?_
  refine wp_region_list ?_
  refine seq_box4 Z rfl rfl rfl ?_; clear Z; intro g1 W Z
  (try simp only [Act.put, List.setIfInBounds_toArray, List.set_cons_zero, List.set_cons_succ])
  refine seq_box4 Z rfl rfl rfl ?_; clear Z; intro g2 W Z
  (try simp only [Act.put, List.setIfInBounds_toArray, List.set_cons_zero, List.set_cons_succ])
  refine seq_alloc4 Z rfl rfl ?_; clear Z; intro g3 W Z
  (try simp only [Act.put, List.setIfInBounds_toArray, List.set_cons_zero, List.set_cons_succ])
  show Code.wp _ _ _ _ _
  refine wp_seq ?_
  refine wp_region_list ?_
  refine seq_is (v := .pointer (some ⟨g1, 0, none⟩)) rfl (run_fieldR0 rfl rfl) ?_
  (try simp only [Act.put, List.setIfInBounds_toArray, List.set_cons_zero, List.set_cons_succ])
  refine seq_is (v := .agg #[.bool (b1), .slice A1 n1 c1]) rfl (run_loadNum rfl rfl (Z.bx 2 rfl)) ?_
  (try simp only [Act.put, List.setIfInBounds_toArray, List.set_cons_zero, List.set_cons_succ])
  refine seq_is (v := .pointer (some ⟨g2, 2, none⟩)) rfl (run_fieldR1 rfl rfl) ?_
  (try simp only [Act.put, List.setIfInBounds_toArray, List.set_cons_zero, List.set_cons_succ])
  refine seq_is (v := .agg #[.bool (b4), .slice A4 n4 c4]) rfl (run_loadDen rfl rfl (Z.bx 1 rfl)) ?_
  (try simp only [Act.put, List.setIfInBounds_toArray, List.set_cons_zero, List.set_cons_succ])
  refine seq_call Z rfl rfl Try.func61 rfl rfl (args2 rfl rfl) (Z.callI (trammelref02_Mul.sem (Z.num 0 rfl) (Z.num 3 rfl) (Bd.fm (Bd.mul (Bd.abs hb1) (Bd.abs hb4)) (by decide)) )) ?_; clear Z; intro x4 W Z
  (try simp only [Act.put, List.setIfInBounds_toArray, List.set_cons_zero, List.set_cons_succ])
  refine seq_alloc Z rfl rfl ?_; clear Z; intro g5 W Z
  (try simp only [Act.put, List.setIfInBounds_toArray, List.set_cons_zero, List.set_cons_succ])
  refine seq_store Z 0 rfl rfl rfl rfl rfl ?_; clear Z; intro W Z
  (try simp only [Act.put, List.setIfInBounds_toArray, List.set_cons_zero, List.set_cons_succ])
  show Code.wp _ _ _ _ _
  refine wp_seq ?_
  refine wp_region_list ?_
  refine seq_is (v := .pointer (some ⟨g2, 0, none⟩)) rfl (run_fieldR0 rfl rfl) ?_
  (try simp only [Act.put, List.setIfInBounds_toArray, List.set_cons_zero, List.set_cons_succ])
  refine seq_is (v := .agg #[.bool (b3), .slice A3 n3 c3]) rfl (run_loadNum rfl rfl (Z.bx 2 rfl)) ?_
  (try simp only [Act.put, List.setIfInBounds_toArray, List.set_cons_zero, List.set_cons_succ])
  refine seq_is (v := .pointer (some ⟨g1, 2, none⟩)) rfl (run_fieldR1 rfl rfl) ?_
  (try simp only [Act.put, List.setIfInBounds_toArray, List.set_cons_zero, List.set_cons_succ])
  refine seq_is (v := .agg #[.bool (b2), .slice A2 n2 c2]) rfl (run_loadDen rfl rfl (Z.bx 3 rfl)) ?_
  (try simp only [Act.put, List.setIfInBounds_toArray, List.set_cons_zero, List.set_cons_succ])
  refine seq_call Z rfl rfl Try.func61 rfl rfl (args2 rfl rfl) (Z.callI (trammelref02_Mul.sem (Z.num 3 rfl) (Z.num 2 rfl) (Bd.fm (Bd.mul (Bd.abs hb3) (Bd.abs hb2)) (by decide)) )) ?_; clear Z; intro x6 W Z
  (try simp only [Act.put, List.setIfInBounds_toArray, List.set_cons_zero, List.set_cons_succ])
  refine seq_alloc Z rfl rfl ?_; clear Z; intro g7 W Z
  (try simp only [Act.put, List.setIfInBounds_toArray, List.set_cons_zero, List.set_cons_succ])
  refine seq_store Z 0 rfl rfl rfl rfl rfl ?_; clear Z; intro W Z
  (try simp only [Act.put, List.setIfInBounds_toArray, List.set_cons_zero, List.set_cons_succ])
  show Code.wp _ _ _ _ _
  refine wp_seq ?_
  refine wp_dag (pre := [_, _, _, _, _, _, _, _, _]) (sps := [.is (.agg #[.bool (decide ((z1) * (z4) < 0)), x4.v]), .is (.agg #[.bool (decide ((z3) * (z2) < 0)), x6.v]), spI w (((z1) * (z4)) + ((z3) * (z2))), .is (.pointer (some ⟨g1, 2, none⟩)), .is (.agg #[.bool (b2), .slice A2 n2 c2]), .is (.pointer (some ⟨g2, 2, none⟩)), .is (.agg #[.bool (b4), .slice A4 n4 c4]), spI w ((z2) * (z4)), spQ w (qn (((z1) * (z4)) + ((z3) * (z2))) ((z2) * (z4))) (qd (((z1) * (z4)) + ((z3) * (z2))) ((z2) * (z4)))]) Z (by kernel_rfl) _ rfl (by kernel_rfl) (by kernel_rfl) rfl ⟨?_, ?_, ?_, ?_, ?_, ?_, ?_, ?_, ?_, trivial⟩ ?_
  · intro a e8 W Q Z; exact step_is (fun _ h => op_plain rfl rfl h) (run_load2 rfl (ev e8) (Z.bx 1 rfl))
  · intro a e10 W Q Z; exact step_is (fun _ h => op_plain rfl rfl h) (run_load2 rfl (ev e10) (Z.bx 0 rfl))
  · intro a x12 e13 x14 e15 W Q Z; exact step_call (fun _ h => op_plain rfl rfl h) rfl Try.func62 rfl rfl (args2 (ev e13) (ev e15)) (Z.callI (trammelref02_Add.sem (Z.own 1 rfl (Bd.fm (Bd.abs (Bd.mul hb1 hb4)) (by decide))) (Z.own 0 rfl (Bd.fm (Bd.abs (Bd.mul hb3 hb2)) (by decide))) (Bd.fm (Bd.add (Bd.abs (Bd.mul hb1 hb4)) (Bd.abs (Bd.mul hb3 hb2))) (by decide)) (Bd.fm (Bd.sub (Bd.abs (Bd.mul hb1 hb4)) (Bd.abs (Bd.mul hb3 hb2))) (by decide)) (Bd.fm (Bd.sub (Bd.abs (Bd.mul hb3 hb2)) (Bd.abs (Bd.mul hb1 hb4))) (by decide)) ))
  · intro a e17 W Q Z; exact step_is (fun _ h => op_plain rfl rfl h) (run_fieldR1 rfl (ev e17))
  · intro a x19 e20 W Q Z; exact step_is (fun _ h => op_plain rfl rfl h) (run_loadDen rfl (ev e20) (Z.bx 4 rfl))
  · intro a e22 W Q Z; exact step_is (fun _ h => op_plain rfl rfl h) (run_fieldR1 rfl (ev e22))
  · intro a x24 e25 W Q Z; exact step_is (fun _ h => op_plain rfl rfl h) (run_loadDen rfl (ev e25) (Z.bx 3 rfl))
  · intro a x27 e28 x29 e30 W Q Z; exact step_call (fun _ h => op_plain rfl rfl h) rfl Try.func61 rfl rfl (args2 (ev e28) (ev e30)) (Z.callI (trammelref02_Mul.sem (Z.num 3 rfl) (Z.num 5 rfl) (Bd.fm (Bd.mul (Bd.abs hb2) (Bd.abs hb4)) (by decide)) ))
  · intro a x32 e33 x34 e35 W Q Z; exact step_call (fun _ h => op_plain rfl rfl h) rfl Try.func17 rfl rfl (args2 (ev e33) (ev e35)) (Z.callQ (trammelref03_Make.semq (Z.own 1 rfl (Bd.fm (Bd.abs (Bd.add (Bd.mul hb1 hb4) (Bd.mul hb3 hb2))) (by decide))) (Z.own 0 rfl (Bd.fm (Bd.abs (Bd.mul hb2 hb4)) (by decide))) (Bd.mono (Bd.add (Bd.mul hb1 hb4) (Bd.mul hb3 hb2)) (by decide)) (Bd.mono (Bd.mul hb2 hb4) (by decide)) (Int.mul_ne_zero h2 h4)))
  clear Z; intro x9 x11 x16 x18 x21 x23 x26 x31 x36 W Z
  (try simp only [Act.put, List.setIfInBounds_toArray, List.set_cons_zero, List.set_cons_succ])
  refine seq_store4 Z 2 rfl rfl rfl rfl rfl ?_; clear Z; intro W Z
  (try simp only [Act.put, List.setIfInBounds_toArray, List.set_cons_zero, List.set_cons_succ])
  show Code.wp _ _ _ _ _
  refine wp_ret ?_
  exact Z.endsQ' 2 0 1 rfl rfl rfl rfl rfl rfl (by rfl) (by rfl) (by rfl) (by rfl)
set_option maxHeartbeats 4000000 in
set_option maxRecDepth 100000 in
theorem trammelref03_Sub.sem {w : World} {b1 : Bool} {v1 : Value} {z1 : Int} {b2 : Bool} {v2 : Value} {z2 : Int} {b3 : Bool} {v3 : Value} {z3 : Int} {b4 : Bool} {v4 : Value} {z4 : Int} (m1 : NumV w b1 v1 z1) (m2 : NumV w b2 v2 z2) (m3 : NumV w b3 v3 z3) (m4 : NumV w b4 v4 z4) (hb1 : Bd 74000000 z1) (hb2 : Bd 74000000 z2) (hb3 : Bd 74000000 z3) (hb4 : Bd 74000000 z4) (h2 : z2 ≠ 0) (h4 : z4 ≠ 0) : Calls Try.prog 26 #[.agg #[.bool b1, v1, .bool b2, v2], .agg #[.bool b3, v3, .bool b4, v4]] w (ResQ w (qn ((z1 * z4) - (z3 * z2)) (z2 * z4)) (qd ((z1 * z4) - (z3 * z2)) (z2 * z4))) := by
  obtain ⟨A1, n1, c1, rfl⟩ := m1.form
  obtain ⟨A2, n2, c2, rfl⟩ := m2.form
  obtain ⟨A3, n3, c3, rfl⟩ := m3.form
  obtain ⟨A4, n4, c4, rfl⟩ := m4.form
  have Z := Zt.start w (m1.has.append (m2.has.append (m3.has.append m4.has)))
  go_enter Try.func26, Try.ntmps26
  refine wp_seq ?_
  refine wp_region_list ?_
  refine seq_box4 Z rfl rfl rfl ?_; clear Z; intro g1 W Z
  (try simp only [Act.put, List.setIfInBounds_toArray, List.set_cons_zero, List.set_cons_succ])
  refine seq_box4 Z rfl rfl rfl ?_; clear Z; intro g2 W Z
  (try simp only [Act.put, List.setIfInBounds_toArray, List.set_cons_zero, List.set_cons_succ])
  refine seq_alloc4 Z rfl rfl ?_; clear Z; intro g3 W Z
  (try simp only [Act.put, List.setIfInBounds_toArray, List.set_cons_zero, List.set_cons_succ])
  show Code.wp _ _ _ _ _
  refine wp_seq ?_
  refine wp_dag (pre := [_, _, _, _]) (sps := [.is (.agg #[.bool (b1), .slice A1 n1 c1, .bool (b2), .slice A2 n2 c2]), .is (.agg #[.bool (b3), .slice A3 n3 c3, .bool (b4), .slice A4 n4 c4]), spQ w (qn (-(z3)) (z4)) (qd (-(z3)) (z4)), spQ w (qn (((z1) * (qd (-(z3)) (z4))) + ((qn (-(z3)) (z4)) * (z2))) ((z2) * (qd (-(z3)) (z4)))) (qd (((z1) * (qd (-(z3)) (z4))) + ((qn (-(z3)) (z4)) * (z2))) ((z2) * (qd (-(z3)) (z4))))]) Z (by kernel_rfl) _ rfl (by kernel_rfl) (by kernel_rfl) rfl ⟨?_, ?_, ?_, ?_, trivial⟩ ?_
  · intro a e4 W Q Z; exact step_is (fun _ h => op_plain rfl rfl h) (run_load4 rfl (ev e4) (Z.bx 2 rfl))
  · intro a e6 W Q Z; exact step_is (fun _ h => op_plain rfl rfl h) (run_load4 rfl (ev e6) (Z.bx 1 rfl))
  · intro a x8 e9 W Q Z; exact step_call (fun _ h => op_plain rfl rfl h) rfl Try.func63 rfl rfl (args1 (ev e9)) (Z.callQ (trammelref03_Neg.sem (Z.num 2 rfl) (Z.num 3 rfl) (Bd.mono hb3 (by decide)) (Bd.mono hb4 (by decide)) h4))
  · intro a x11 e12 x13 e14 W Q Z; exact step_call (fun _ h => op_plain rfl rfl h) rfl Try.func25 rfl rfl (args2 (ev e12) (ev e14)) (Z.callQ (trammelref03_Add.sem (Z.num 2 rfl) (Z.num 3 rfl) (Z.own 0 rfl (Bd.fm (Bd.abs (Bd.qn (Bd.neg hb3))) (by decide))) (Z.own 1 rfl (Bd.fm (Bd.abs (Bd.qd hb4)) (by decide))) (Bd.mono hb1 (by decide)) (Bd.mono hb2 (by decide)) (Bd.mono (Bd.qn (Bd.neg hb3)) (by decide)) (Bd.mono (Bd.qd hb4) (by decide)) h2 (pos_ne (qd_pos h4))))
  clear Z; intro x5 x7 x10 x15 W Z
  (try simp only [Act.put, List.setIfInBounds_toArray, List.set_cons_zero, List.set_cons_succ])
  refine seq_store4 Z 0 rfl rfl rfl rfl rfl ?_; clear Z; intro W Z
  (try simp only [Act.put, List.setIfInBounds_toArray, List.set_cons_zero, List.set_cons_succ])
  show Code.wp _ _ _ _ _
  refine wp_ret ?_
  exact Z.endsQ' 0 0 1 rfl rfl rfl rfl rfl rfl (by rw [(sub_q h2 h4).1]) (by rw [(sub_q h2 h4).1]) (by rw [(sub_q h2 h4).2]) (by rw [(sub_q h2 h4).2])
end Go.Proofs.Ytndopanohhdfgaa.PA


/- Floor, Near, Dist of layer 3 and of the document. -/
namespace Go.Proofs.Ytndopanohhdfgaa.PA
open Go Go.Proofs.Ytndopanohhdfgaa.Nums Go.RowKit Go.Proofs.YtndopanohhdfgaaW.PrintWords Go.Proofs.YtndopanohhdfgaaW.PrintLast Go.Proofs.YtndopanohhdfgaaW.PrintMore
set_option linter.unusedVariables false
set_option linter.unusedSimpArgs false
theorem fdiv_q {x y : Int} (h : 0 < y) : (qn x y).fdiv (qd x y) = x.fdiv y := by
  have hg := gg_pos (x := x) (pos_ne h)
  have h1 := qn_mul (x := x) (y := y)
  have h2 := qd_mul (x := x) (y := y)
  rw [sgn_pos h] at h1 h2
  have h3 := Int.mul_fdiv_mul_of_pos_left (qn x y) (qd x y) hg
  rw [h1, h2] at h3
  exact h3.symm
theorem near_q {x y : Int} (h : 0 < y) : (qn (x * 2 + 1 * y) (y * 2)).fdiv (qd (x * 2 + 1 * y) (y * 2)) = nearZ x y := by
  rw [fdiv_q (by omega)]
  unfold nearZ
  rw [Int.one_mul, Int.mul_comm x 2, Int.mul_comm y 2]
theorem qn_neg' {x y : Int} (h : 0 < y) : qn (-x) y = - qn x y ∧ qd (-x) y = qd x y := by
  have hg := gg_pos (x := x) (pos_ne h)
  have e : gg (-x) y = gg x y := by unfold gg; rw [Int.natAbs_neg]
  have h1 := qn_mul (x := x) (y := y)
  have h2 := qn_mul (x := -x) (y := y)
  rw [sgn_pos h] at h1 h2
  rw [e] at h2
  refine ⟨Int.eq_of_mul_eq_mul_right (pos_ne hg) ?_, ?_⟩
  · rw [h2, Int.neg_mul, h1]
  · unfold Go.Proofs.Ytndopanohhdfgaa.PA.qd
    rw [e]
theorem qn_idem {x y : Int} (h : 0 < y) : qn (qn x y) (qd x y) = qn x y ∧ qd (qn x y) (qd x y) = qd x y := q_eq (pos_ne (qd_pos (pos_ne h))) (pos_ne h) (q_cross (pos_ne h))
theorem abs_n {x : Int} (h : x < 0) : -x = ((x.natAbs : Nat) : Int) := by omega
theorem abs_p {x : Int} (h : ¬ x < 0) : x = ((x.natAbs : Nat) : Int) := by omega
theorem dist_q {x y : Int} (h : 0 < y) : qn (((qn x y).natAbs : Nat) : Int) (qd x y) = (((qn x y).natAbs : Nat) : Int) ∧ qd (((qn x y).natAbs : Nat) : Int) (qd x y) = qd x y := by
  have hd := qd_pos (x := x) (pos_ne h)
  have h0 := qn_idem (x := x) h
  by_cases hn : qn x y < 0
  · have h1 := qn_neg' (x := qn x y) hd
    rw [← abs_n hn, h1.1, h1.2, h0.1, h0.2]
    exact ⟨rfl, rfl⟩
  · rw [← abs_p hn]
    exact h0
set_option maxHeartbeats 4000000 in
set_option maxRecDepth 100000 in
theorem rat_Floor.sem {w : World} {b1 : Bool} {v1 : Value} {z1 : Int} {b2 : Bool} {v2 : Value} {z2 : Int} (m1 : NumV w b1 v1 z1) (m2 : NumV w b2 v2 z2) (hb1 : Bd 150000000 z1) (hb2 : Bd 150000000 z2) (h2 : 0 < z2) : Calls Try.prog 12 #[.agg #[.bool b1, v1, .bool b2, v2]] w (ResIi w (z1.fdiv z2) (.int .i64 0)) := by
  obtain ⟨A1, n1, c1, rfl⟩ := m1.form
  obtain ⟨A2, n2, c2, rfl⟩ := m2.form
  have Z := Zt.start w (m1.has.append m2.has)
  go_enter Try.func12, Try.ntmps12
  refine wp_seq ?_
  refine wp_region_list ?_
  refine seq_box4 Z rfl rfl rfl ?_; clear Z; intro g1 W Z
  (try simp only [Act.put, List.setIfInBounds_toArray, List.set_cons_zero, List.set_cons_succ])
  refine seq_alloc Z rfl rfl ?_; clear Z; intro g2 W Z
  (try simp only [Act.put, List.setIfInBounds_toArray, List.set_cons_zero, List.set_cons_succ])
  refine seq_is (v := .int .i64 (0)) rfl (run_assign rfl rfl) ?_
  (try simp only [Act.put, List.setIfInBounds_toArray, List.set_cons_zero, List.set_cons_succ])
  show Code.wp _ _ _ _ _
  refine wp_seq ?_
  refine wp_seq ?_
  refine wp_region_list ?_
  refine seq_is (v := .agg #[.bool (b1), .slice A1 n1 c1, .bool (b2), .slice A2 n2 c2]) rfl (run_load4 rfl rfl (Z.bx 1 rfl)) ?_
  (try simp only [Act.put, List.setIfInBounds_toArray, List.set_cons_zero, List.set_cons_succ])
  refine seq_rowR1 Z rfl rfl rfl ?_; clear Z; intro g3 W Z
  (try simp only [Act.put, List.setIfInBounds_toArray, List.set_cons_zero, List.set_cons_succ])
  refine seq_call Z rfl rfl Try.func41 rfl rfl (args1 rfl) (Z.callV (rat_valid.sem1 (Z.num 0 rfl) (Z.num 1 rfl) (Z.bx 0 rfl).2.2)) ?_; clear Z; intro x4 W Z
  (try simp only [Act.put, List.setIfInBounds_toArray, List.set_cons_zero, List.set_cons_succ])
  refine seq_is (v := .int .i64 (okE1 (z2))) rfl (run_assign rfl rfl) ?_
  (try simp only [Act.put, List.setIfInBounds_toArray, List.set_cons_zero, List.set_cons_succ])
  show Code.wp _ _ _ _ _
  refine wp_seq ?_
  refine wp_region_list ?_
  refine seq_is (v := .int .i64 (okE1 (z2))) rfl (run_move rfl rfl) ?_
  (try simp only [Act.put, List.setIfInBounds_toArray, List.set_cons_zero, List.set_cons_succ])
  refine seq_is (v := .bool (decide ((okE1 (z2)) ≠ (0)))) rfl (run_neqE rfl rfl rfl) ?_
  (try simp only [Act.put, List.setIfInBounds_toArray, List.set_cons_zero, List.set_cons_succ])
  show Code.wp _ _ _ _ _
  refine wp_cond_false ((show _ = Value.bool (decide ((okE1 (z2)) ≠ (0))) from rfl).trans (congrArg Value.bool (okE1_t h2))) ?_
  refine wp_skip ?_
  show Code.wp _ _ _ _ _
  refine wp_seq ?_
  refine wp_region_list ?_
  refine seq_is (v := .pointer (some ⟨g1, 0, none⟩)) rfl (run_fieldR0 rfl rfl) ?_
  (try simp only [Act.put, List.setIfInBounds_toArray, List.set_cons_zero, List.set_cons_succ])
  refine seq_is (v := .agg #[.bool (b1), .slice A1 n1 c1]) rfl (run_loadNum rfl rfl (Z.bx 2 rfl)) ?_
  (try simp only [Act.put, List.setIfInBounds_toArray, List.set_cons_zero, List.set_cons_succ])
  refine seq_is (v := .pointer (some ⟨g1, 2, none⟩)) rfl (run_fieldR1 rfl rfl) ?_
  (try simp only [Act.put, List.setIfInBounds_toArray, List.set_cons_zero, List.set_cons_succ])
  refine seq_is (v := .agg #[.bool (b2), .slice A2 n2 c2]) rfl (run_loadDen rfl rfl (Z.bx 2 rfl)) ?_
  (try simp only [Act.put, List.setIfInBounds_toArray, List.set_cons_zero, List.set_cons_succ])
  refine seq_call Z rfl rfl Try.func42 rfl rfl (args2 rfl rfl) (Z.callIIi (zint_Floor.sem (Z.num 0 rfl) (Z.num 1 rfl)  (Bd.mono hb1 (by decide)) (Bd.mono hb2 (by decide)) (pos_ne h2))) ?_; clear Z; intro x5 W Z
  (try simp only [Act.put, List.setIfInBounds_toArray, List.set_cons_zero, List.set_cons_succ])
  refine seq_is (v := .tuple #[.agg #[.bool (decide ((z1 : Int).fdiv (z2) < 0)), x5.1.v], .agg #[.bool (decide ((z1 : Int).fmod (z2) < 0)), x5.2.v], .int .i64 (0)]) rfl (run_move rfl rfl) ?_
  (try simp only [Act.put, List.setIfInBounds_toArray, List.set_cons_zero, List.set_cons_succ])
  refine seq_is (v := .agg #[.bool (decide ((z1 : Int).fdiv (z2) < 0)), x5.1.v]) rfl (run_extract rfl rfl rfl) ?_
  (try simp only [Act.put, List.setIfInBounds_toArray, List.set_cons_zero, List.set_cons_succ])
  refine seq_is (v := .agg #[.bool (decide ((z1 : Int).fmod (z2) < 0)), x5.2.v]) rfl (run_extract rfl rfl rfl) ?_
  (try simp only [Act.put, List.setIfInBounds_toArray, List.set_cons_zero, List.set_cons_succ])
  refine seq_is (v := .int .i64 (0)) rfl (run_extract rfl rfl rfl) ?_
  (try simp only [Act.put, List.setIfInBounds_toArray, List.set_cons_zero, List.set_cons_succ])
  refine seq_alloc Z rfl rfl ?_; clear Z; intro g6 W Z
  (try simp only [Act.put, List.setIfInBounds_toArray, List.set_cons_zero, List.set_cons_succ])
  refine seq_alloc Z rfl rfl ?_; clear Z; intro g7 W Z
  (try simp only [Act.put, List.setIfInBounds_toArray, List.set_cons_zero, List.set_cons_succ])
  refine seq_store Z 1 rfl rfl rfl rfl rfl ?_; clear Z; intro W Z
  (try simp only [Act.put, List.setIfInBounds_toArray, List.set_cons_zero, List.set_cons_succ])
  refine seq_store Z 0 rfl rfl rfl rfl rfl ?_; clear Z; intro W Z
  (try simp only [Act.put, List.setIfInBounds_toArray, List.set_cons_zero, List.set_cons_succ])
  refine seq_is (v := .int .i64 (0)) rfl (run_assign rfl rfl) ?_
  (try simp only [Act.put, List.setIfInBounds_toArray, List.set_cons_zero, List.set_cons_succ])
  show Code.wp _ _ _ _ _
  refine wp_seq ?_
  refine wp_region_list ?_
  refine seq_is (v := .agg #[.bool (decide ((z1 : Int).fdiv (z2) < 0)), x5.1.v]) rfl (run_load2 rfl rfl (Z.bx 1 rfl)) ?_
  (try simp only [Act.put, List.setIfInBounds_toArray, List.set_cons_zero, List.set_cons_succ])
  refine seq_store Z 3 rfl rfl rfl rfl rfl ?_; clear Z; intro W Z
  (try simp only [Act.put, List.setIfInBounds_toArray, List.set_cons_zero, List.set_cons_succ])
  refine seq_is (v := .int .i64 (0)) rfl (run_assign rfl rfl) ?_
  (try simp only [Act.put, List.setIfInBounds_toArray, List.set_cons_zero, List.set_cons_succ])
  show Code.wp _ _ _ _ _
  refine wp_ret ?_
  exact Z.endsIi (u := .int .i64 (0)) (y' := 0) (x' := 0) 3 0 rfl rfl rfl rfl rfl rfl (by rfl) (by rfl)
set_option maxHeartbeats 4000000 in
set_option maxRecDepth 100000 in
theorem rat_Floor.semF {w : World} {b1 : Bool} {v1 : Value} {z1 : Int} {b2 : Bool} {v2 : Value} {z2 : Int} (m1 : NumV w b1 v1 z1) (m2 : NumV w b2 v2 z2) (hn : ¬ 0 < z2) : Calls Try.prog 12 #[.agg #[.bool b1, v1, .bool b2, v2]] w (ResIi w 0 (.int .i64 30)) := by
  obtain ⟨A1, n1, c1, rfl⟩ := m1.form
  obtain ⟨A2, n2, c2, rfl⟩ := m2.form
  have Z := Zt.start w (m1.has.append m2.has)
  go_enter Try.func12, Try.ntmps12
  refine wp_seq ?_
  refine wp_region_list ?_
  refine seq_box4 Z rfl rfl rfl ?_; clear Z; intro g1 W Z
  (try simp only [Act.put, List.setIfInBounds_toArray, List.set_cons_zero, List.set_cons_succ])
  refine seq_alloc Z rfl rfl ?_; clear Z; intro g2 W Z
  (try simp only [Act.put, List.setIfInBounds_toArray, List.set_cons_zero, List.set_cons_succ])
  refine seq_is (v := .int .i64 (0)) rfl (run_assign rfl rfl) ?_
  (try simp only [Act.put, List.setIfInBounds_toArray, List.set_cons_zero, List.set_cons_succ])
  show Code.wp _ _ _ _ _
  refine wp_seq ?_
  refine wp_seq ?_
  refine wp_region_list ?_
  refine seq_is (v := .agg #[.bool (b1), .slice A1 n1 c1, .bool (b2), .slice A2 n2 c2]) rfl (run_load4 rfl rfl (Z.bx 1 rfl)) ?_
  (try simp only [Act.put, List.setIfInBounds_toArray, List.set_cons_zero, List.set_cons_succ])
  refine seq_rowR1 Z rfl rfl rfl ?_; clear Z; intro g3 W Z
  (try simp only [Act.put, List.setIfInBounds_toArray, List.set_cons_zero, List.set_cons_succ])
  refine seq_call Z rfl rfl Try.func41 rfl rfl (args1 rfl) (Z.callV (rat_valid.sem1 (Z.num 0 rfl) (Z.num 1 rfl) (Z.bx 0 rfl).2.2)) ?_; clear Z; intro x4 W Z
  (try simp only [Act.put, List.setIfInBounds_toArray, List.set_cons_zero, List.set_cons_succ])
  refine seq_is (v := .int .i64 (okE1 (z2))) rfl (run_assign rfl rfl) ?_
  (try simp only [Act.put, List.setIfInBounds_toArray, List.set_cons_zero, List.set_cons_succ])
  show Code.wp _ _ _ _ _
  refine wp_seq ?_
  refine wp_region_list ?_
  refine seq_is (v := .int .i64 (okE1 (z2))) rfl (run_move rfl rfl) ?_
  (try simp only [Act.put, List.setIfInBounds_toArray, List.set_cons_zero, List.set_cons_succ])
  refine seq_is (v := .bool (decide ((okE1 (z2)) ≠ (0)))) rfl (run_neqE rfl rfl rfl) ?_
  (try simp only [Act.put, List.setIfInBounds_toArray, List.set_cons_zero, List.set_cons_succ])
  show Code.wp _ _ _ _ _
  refine wp_cond_true ((show _ = Value.bool (decide ((okE1 (z2)) ≠ (0))) from rfl).trans (congrArg Value.bool (okE1_f hn))) ?_
  refine wp_seq ?_
  refine wp_region_list ?_
  refine seq_is (v := .agg #[.bool (false), .slice none 0 0]) rfl (run_build0 rfl) ?_
  (try simp only [Act.put, List.setIfInBounds_toArray, List.set_cons_zero, List.set_cons_succ])
  refine seq_is (v := .int .i64 (okE1 (z2))) rfl (run_move rfl rfl) ?_
  (try simp only [Act.put, List.setIfInBounds_toArray, List.set_cons_zero, List.set_cons_succ])
  refine seq_store Z 1 rfl rfl rfl rfl rfl ?_; clear Z; intro W Z
  (try simp only [Act.put, List.setIfInBounds_toArray, List.set_cons_zero, List.set_cons_succ])
  refine seq_is (v := .int .i64 (okE1 (z2))) rfl (run_assign rfl rfl) ?_
  (try simp only [Act.put, List.setIfInBounds_toArray, List.set_cons_zero, List.set_cons_succ])
  show Code.wp _ _ _ _ _
  refine wp_ret ?_
  exact Z.nought.endsIi (u := .int .i64 (okE1 (z2))) (y' := 0) (x' := 0) 1 0 rfl rfl rfl rfl rfl rfl (by rfl) (by exact congrArg (Value.int .i64) (okE1_30 hn))
set_option maxHeartbeats 4000000 in
set_option maxRecDepth 100000 in
theorem rat_Near.semF {w : World} {b1 : Bool} {v1 : Value} {z1 : Int} {b2 : Bool} {v2 : Value} {z2 : Int} (m1 : NumV w b1 v1 z1) (m2 : NumV w b2 v2 z2) (hn : ¬ 0 < z2) : Calls Try.prog 32 #[.agg #[.bool b1, v1, .bool b2, v2]] w (ResIi w 0 (.int .i64 30)) := by
  obtain ⟨A1, n1, c1, rfl⟩ := m1.form
  obtain ⟨A2, n2, c2, rfl⟩ := m2.form
  have Z := Zt.start w (m1.has.append m2.has)
  go_enter Try.func32, Try.ntmps32
  refine wp_seq ?_
  refine wp_region_list ?_
  refine seq_box4 Z rfl rfl rfl ?_; clear Z; intro g1 W Z
  (try simp only [Act.put, List.setIfInBounds_toArray, List.set_cons_zero, List.set_cons_succ])
  refine seq_alloc Z rfl rfl ?_; clear Z; intro g2 W Z
  (try simp only [Act.put, List.setIfInBounds_toArray, List.set_cons_zero, List.set_cons_succ])
  refine seq_is (v := .int .i64 (0)) rfl (run_assign rfl rfl) ?_
  (try simp only [Act.put, List.setIfInBounds_toArray, List.set_cons_zero, List.set_cons_succ])
  show Code.wp _ _ _ _ _
  refine wp_seq ?_
  refine wp_seq ?_
  refine wp_region_list ?_
  refine seq_is (v := .agg #[.bool (b1), .slice A1 n1 c1, .bool (b2), .slice A2 n2 c2]) rfl (run_load4 rfl rfl (Z.bx 1 rfl)) ?_
  (try simp only [Act.put, List.setIfInBounds_toArray, List.set_cons_zero, List.set_cons_succ])
  refine seq_rowR1 Z rfl rfl rfl ?_; clear Z; intro g3 W Z
  (try simp only [Act.put, List.setIfInBounds_toArray, List.set_cons_zero, List.set_cons_succ])
  refine seq_call Z rfl rfl Try.func41 rfl rfl (args1 rfl) (Z.callV (rat_valid.sem1 (Z.num 0 rfl) (Z.num 1 rfl) (Z.bx 0 rfl).2.2)) ?_; clear Z; intro x4 W Z
  (try simp only [Act.put, List.setIfInBounds_toArray, List.set_cons_zero, List.set_cons_succ])
  refine seq_is (v := .int .i64 (okE1 (z2))) rfl (run_assign rfl rfl) ?_
  (try simp only [Act.put, List.setIfInBounds_toArray, List.set_cons_zero, List.set_cons_succ])
  show Code.wp _ _ _ _ _
  refine wp_seq ?_
  refine wp_region_list ?_
  refine seq_is (v := .int .i64 (okE1 (z2))) rfl (run_move rfl rfl) ?_
  (try simp only [Act.put, List.setIfInBounds_toArray, List.set_cons_zero, List.set_cons_succ])
  refine seq_is (v := .bool (decide ((okE1 (z2)) ≠ (0)))) rfl (run_neqE rfl rfl rfl) ?_
  (try simp only [Act.put, List.setIfInBounds_toArray, List.set_cons_zero, List.set_cons_succ])
  show Code.wp _ _ _ _ _
  refine wp_cond_true ((show _ = Value.bool (decide ((okE1 (z2)) ≠ (0))) from rfl).trans (congrArg Value.bool (okE1_f hn))) ?_
  refine wp_seq ?_
  refine wp_region_list ?_
  refine seq_is (v := .agg #[.bool (false), .slice none 0 0]) rfl (run_build0 rfl) ?_
  (try simp only [Act.put, List.setIfInBounds_toArray, List.set_cons_zero, List.set_cons_succ])
  refine seq_is (v := .int .i64 (okE1 (z2))) rfl (run_move rfl rfl) ?_
  (try simp only [Act.put, List.setIfInBounds_toArray, List.set_cons_zero, List.set_cons_succ])
  refine seq_store Z 1 rfl rfl rfl rfl rfl ?_; clear Z; intro W Z
  (try simp only [Act.put, List.setIfInBounds_toArray, List.set_cons_zero, List.set_cons_succ])
  refine seq_is (v := .int .i64 (okE1 (z2))) rfl (run_assign rfl rfl) ?_
  (try simp only [Act.put, List.setIfInBounds_toArray, List.set_cons_zero, List.set_cons_succ])
  show Code.wp _ _ _ _ _
  refine wp_ret ?_
  exact Z.nought.endsIi (u := .int .i64 (okE1 (z2))) (y' := 0) (x' := 0) 1 0 rfl rfl rfl rfl rfl rfl (by rfl) (by exact congrArg (Value.int .i64) (okE1_30 hn))
set_option maxHeartbeats 4000000 in
set_option maxRecDepth 100000 in
theorem rat_Dist.sem {w : World} {b1 : Bool} {v1 : Value} {z1 : Int} {b2 : Bool} {v2 : Value} {z2 : Int} (m1 : NumV w b1 v1 z1) (m2 : NumV w b2 v2 z2) (hb1 : Bd 35000000 z1) (hb2 : Bd 35000000 z2) (h2 : 0 < z2) : Calls Try.prog 34 #[.agg #[.bool b1, v1, .bool b2, v2]] w (ResQi w (((qn (z1 * 1 - nearZ (z1) (z2) * z2) (z2 * 1)).natAbs : Nat)) (qd (z1 * 1 - nearZ (z1) (z2) * z2) (z2 * 1)) (.int .i64 0)) := by
  obtain ⟨A1, n1, c1, rfl⟩ := m1.form
  obtain ⟨A2, n2, c2, rfl⟩ := m2.form
  have Z := Zt.start w (m1.has.append m2.has)
  go_enter Try.func34, Try.ntmps34
  refine wp_seq ?_
  refine wp_region_list ?_
  refine seq_box4 Z rfl rfl rfl ?_; clear Z; intro g1 W Z
  (try simp only [Act.put, List.setIfInBounds_toArray, List.set_cons_zero, List.set_cons_succ])
  refine seq_alloc4 Z rfl rfl ?_; clear Z; intro g2 W Z
  (try simp only [Act.put, List.setIfInBounds_toArray, List.set_cons_zero, List.set_cons_succ])
  refine seq_is (v := .int .i64 (0)) rfl (run_assign rfl rfl) ?_
  (try simp only [Act.put, List.setIfInBounds_toArray, List.set_cons_zero, List.set_cons_succ])
  show Code.wp _ _ _ _ _
  refine wp_seq ?_
  refine wp_region_list ?_
  refine seq_is (v := .agg #[.bool (b1), .slice A1 n1 c1, .bool (b2), .slice A2 n2 c2]) rfl (run_load4 rfl rfl (Z.bx 1 rfl)) ?_
  (try simp only [Act.put, List.setIfInBounds_toArray, List.set_cons_zero, List.set_cons_succ])
  refine seq_call Z rfl rfl Try.func32 rfl rfl (args1 rfl) (Z.callIi (rat_Near.sem (Z.num 0 rfl) (Z.num 1 rfl) (Bd.mono hb1 (by decide)) (Bd.mono hb2 (by decide)) h2)) ?_; clear Z; intro x3 W Z
  (try simp only [Act.put, List.setIfInBounds_toArray, List.set_cons_zero, List.set_cons_succ])
  refine seq_is (v := .tuple #[.agg #[.bool (decide (nearZ (z1) (z2) < 0)), x3.v], .int .i64 (0)]) rfl (run_move rfl rfl) ?_
  (try simp only [Act.put, List.setIfInBounds_toArray, List.set_cons_zero, List.set_cons_succ])
  refine seq_is (v := .agg #[.bool (decide (nearZ (z1) (z2) < 0)), x3.v]) rfl (run_extract rfl rfl rfl) ?_
  (try simp only [Act.put, List.setIfInBounds_toArray, List.set_cons_zero, List.set_cons_succ])
  refine seq_is (v := .int .i64 (0)) rfl (run_extract rfl rfl rfl) ?_
  (try simp only [Act.put, List.setIfInBounds_toArray, List.set_cons_zero, List.set_cons_succ])
  refine seq_alloc Z rfl rfl ?_; clear Z; intro g4 W Z
  (try simp only [Act.put, List.setIfInBounds_toArray, List.set_cons_zero, List.set_cons_succ])
  refine seq_store Z 0 rfl rfl rfl rfl rfl ?_; clear Z; intro W Z
  (try simp only [Act.put, List.setIfInBounds_toArray, List.set_cons_zero, List.set_cons_succ])
  refine seq_is (v := .int .i64 (0)) rfl (run_assign rfl rfl) ?_
  (try simp only [Act.put, List.setIfInBounds_toArray, List.set_cons_zero, List.set_cons_succ])
  show Code.wp _ _ _ _ _
  refine wp_seq ?_
  refine wp_seq ?_
  refine wp_region_list ?_
  refine seq_is (v := .int .i64 (0)) rfl (run_move rfl rfl) ?_
  (try simp only [Act.put, List.setIfInBounds_toArray, List.set_cons_zero, List.set_cons_succ])
  refine seq_is (v := .bool (decide ((0 : Int) ≠ (0)))) rfl (run_neqE rfl rfl rfl) ?_
  (try simp only [Act.put, List.setIfInBounds_toArray, List.set_cons_zero, List.set_cons_succ])
  show Code.wp _ _ _ _ _
  refine wp_cond_false rfl ?_
  refine wp_skip ?_
  show Code.wp _ _ _ _ _
  refine wp_seq ?_
  refine wp_dag2 (pre := [_, _, _, _, _, _, _, _]) (sps := [.is (.agg #[.bool (b1), .slice A1 n1 c1, .bool (b2), .slice A2 n2 c2]), .is (.agg #[.bool (decide (nearZ (z1) (z2) < 0)), x3.v]), spQ w ((nearZ (z1) (z2))) (1), spQi w (qn (((z1) * (1)) - (((nearZ (z1) (z2))) * (z2))) ((z2) * (1))) (qd (((z1) * (1)) - (((nearZ (z1) (z2))) * (z2))) ((z2) * (1))) (.int .i64 (0)), spQi w (qn (((z1) * (1)) - (((nearZ (z1) (z2))) * (z2))) ((z2) * (1))) (qd (((z1) * (1)) - (((nearZ (z1) (z2))) * (z2))) ((z2) * (1))) (.int .i64 (0)), spQ w (qn (((z1) * (1)) - (((nearZ (z1) (z2))) * (z2))) ((z2) * (1))) (qd (((z1) * (1)) - (((nearZ (z1) (z2))) * (z2))) ((z2) * (1))), .is (.int .i64 (0)), .box 29 #[.bool false, .slice none 0 0, .bool false, .slice none 0 0]]) Z (by kernel_rfl) _ rfl (by kernel_rfl) (by kernel_rfl) (by kernel_rfl) rfl (fun _ _ d _ _ h => by cases d <;> exact h) ⟨?_, ?_, ?_, ?_, ?_, ?_, ?_, ?_, trivial⟩ ?_
  · intro a e5 W Q Z; exact step_is (fun _ h => op_plain rfl rfl h) (run_load4 rfl (ev e5) (Z.bx 2 rfl))
  · intro a e7 W Q Z; exact step_is (fun _ h => op_plain rfl rfl h) (run_load2 rfl (ev e7) (Z.bx 0 rfl))
  · intro a x9 e10 W Q Z; exact step_call (fun _ h => op_plain rfl rfl h) rfl Try.func18 rfl rfl (args1 (ev e10)) (Z.callQ (rat_Of.sem (Z.own 0 rfl (Bd.fm (Bd.abs (Bd.near hb1 hb2)) (by decide))) ))
  · intro a x12 e13 x14 e15 W Q Z; exact step_call (fun _ h => op_plain rfl rfl h) rfl Try.func24 rfl rfl (args2 (ev e13) (ev e15)) (Z.callQi (rat_Sub.sem (Z.num 3 rfl) (Z.num 4 rfl) (Z.own 0 rfl (Bd.fm (Bd.abs (Bd.near hb1 hb2)) (by decide))) (Z.own 1 rfl (Bd.fm (Bd.abs (Bd.lit (k := 64) (z := 1) (by decide))) (by decide))) (Bd.mono hb1 (by decide)) (Bd.mono hb2 (by decide)) (Bd.mono (Bd.near hb1 hb2) (by decide)) (Bd.mono (Bd.lit (k := 64) (z := 1) (by decide)) (by decide)) h2 (by decide)))
  · intro a x17 e18 W Q Z; exact step_val x17 (fun _ h => op_plain rfl rfl h) (run_move rfl (ev e18)) (has_two (Z.has 0 rfl) (Z.has 1 rfl))
  · intro a x20 e21 W Q Z; exact step_val x20 (fun _ h => op_plain rfl rfl h) (run_extract rfl (ev e21) rfl) (has_two (Z.has 0 rfl) (Z.has 1 rfl))
  · intro a x23 e24 W Q Z; exact step_is (fun _ h => op_plain rfl rfl h) (run_extract rfl (ev e24) rfl)
  · intro a W Q Z; exact step_box (fun _ h => op_plain rfl rfl h) (by decide) (run_alloc4 rfl)
  clear Z; intro x6 x8 x11 x16 x19 x22 x25 g26 W Z
  (try simp only [Act.put, List.setIfInBounds_toArray, List.set_cons_zero, List.set_cons_succ])
  refine seq_store4 Z 0 rfl rfl rfl rfl rfl ?_; clear Z; intro W Z
  (try simp only [Act.put, List.setIfInBounds_toArray, List.set_cons_zero, List.set_cons_succ])
  refine seq_is (v := .int .i64 (0)) rfl (run_assign rfl rfl) ?_
  (try simp only [Act.put, List.setIfInBounds_toArray, List.set_cons_zero, List.set_cons_succ])
  show Code.wp _ _ _ _ _
  refine wp_seq ?_
  refine wp_region_list ?_
  refine seq_is (v := .pointer (some ⟨g26, 0, none⟩)) rfl (run_fieldR0 rfl rfl) ?_
  (try simp only [Act.put, List.setIfInBounds_toArray, List.set_cons_zero, List.set_cons_succ])
  refine seq_is (v := .agg #[.bool (decide (qn (((z1) * (1)) - (((nearZ (z1) (z2))) * (z2))) ((z2) * (1)) < 0)), x22.1.v]) rfl (run_loadNum rfl rfl (Z.bx 0 rfl)) ?_
  (try simp only [Act.put, List.setIfInBounds_toArray, List.set_cons_zero, List.set_cons_succ])
  refine seq_call Z rfl rfl Try.func67 rfl rfl (args1 rfl) (Z.callI (zint_Abs.sem (Z.own 0 rfl (Bd.fm (Bd.abs (Bd.qn (Bd.sub (Bd.mul hb1 (Bd.lit (k := 64) (z := 1) (by decide))) (Bd.mul (Bd.near hb1 hb2) hb2)))) (by decide)))  )) ?_; clear Z; intro x27 W Z
  (try simp only [Act.put, List.setIfInBounds_toArray, List.set_cons_zero, List.set_cons_succ])
  refine seq_is (v := .pointer (some ⟨g26, 0, none⟩)) rfl (run_fieldR0 rfl rfl) ?_
  (try simp only [Act.put, List.setIfInBounds_toArray, List.set_cons_zero, List.set_cons_succ])
  refine seq_storeNum Z 0 rfl rfl rfl rfl rfl ?_; clear Z; intro W Z
  (try simp only [Act.put, List.setIfInBounds_toArray, List.set_cons_zero, List.set_cons_succ])
  show Code.wp _ _ _ _ _
  refine wp_seq ?_
  refine wp_region_list ?_
  refine seq_is (v := .agg #[.bool (decide ((((qn (((z1) * (1)) - (((nearZ (z1) (z2))) * (z2))) ((z2) * (1)))).natAbs : Nat) < 0)), x27.v, .bool (decide (qd (((z1) * (1)) - (((nearZ (z1) (z2))) * (z2))) ((z2) * (1)) < 0)), x22.2.v]) rfl (run_load4 rfl rfl (Z.bx 0 rfl)) ?_
  (try simp only [Act.put, List.setIfInBounds_toArray, List.set_cons_zero, List.set_cons_succ])
  refine seq_store4 Z 2 rfl rfl rfl rfl rfl ?_; clear Z; intro W Z
  (try simp only [Act.put, List.setIfInBounds_toArray, List.set_cons_zero, List.set_cons_succ])
  refine seq_is (v := .int .i64 (0)) rfl (run_assign rfl rfl) ?_
  (try simp only [Act.put, List.setIfInBounds_toArray, List.set_cons_zero, List.set_cons_succ])
  show Code.wp _ _ _ _ _
  refine wp_ret ?_
  exact Z.endsQi' (u := .int .i64 (0)) 2 0 2 rfl rfl rfl rfl rfl rfl rfl (by rfl) (by rfl) (by rfl) (by rfl) (by rfl)
set_option maxHeartbeats 4000000 in
set_option maxRecDepth 100000 in
theorem rat_Dist.semF {w : World} {b1 : Bool} {v1 : Value} {z1 : Int} {b2 : Bool} {v2 : Value} {z2 : Int} (m1 : NumV w b1 v1 z1) (m2 : NumV w b2 v2 z2) (hn : ¬ 0 < z2) : Calls Try.prog 34 #[.agg #[.bool b1, v1, .bool b2, v2]] w (ResQi w 0 0 (.int .i64 30)) := by
  obtain ⟨A1, n1, c1, rfl⟩ := m1.form
  obtain ⟨A2, n2, c2, rfl⟩ := m2.form
  have Z := Zt.start w (m1.has.append m2.has)
  go_enter Try.func34, Try.ntmps34
  refine wp_seq ?_
  refine wp_region_list ?_
  refine seq_box4 Z rfl rfl rfl ?_; clear Z; intro g1 W Z
  (try simp only [Act.put, List.setIfInBounds_toArray, List.set_cons_zero, List.set_cons_succ])
  refine seq_alloc4 Z rfl rfl ?_; clear Z; intro g2 W Z
  (try simp only [Act.put, List.setIfInBounds_toArray, List.set_cons_zero, List.set_cons_succ])
  refine seq_is (v := .int .i64 (0)) rfl (run_assign rfl rfl) ?_
  (try simp only [Act.put, List.setIfInBounds_toArray, List.set_cons_zero, List.set_cons_succ])
  show Code.wp _ _ _ _ _
  refine wp_seq ?_
  refine wp_region_list ?_
  refine seq_is (v := .agg #[.bool (b1), .slice A1 n1 c1, .bool (b2), .slice A2 n2 c2]) rfl (run_load4 rfl rfl (Z.bx 1 rfl)) ?_
  (try simp only [Act.put, List.setIfInBounds_toArray, List.set_cons_zero, List.set_cons_succ])
  refine seq_call Z rfl rfl Try.func32 rfl rfl (args1 rfl) (Z.callIi (rat_Near.semF (Z.num 0 rfl) (Z.num 1 rfl) hn)) ?_; clear Z; intro x3 W Z
  (try simp only [Act.put, List.setIfInBounds_toArray, List.set_cons_zero, List.set_cons_succ])
  refine seq_is (v := .tuple #[.agg #[.bool (decide ((0 : Int) < 0)), x3.v], .int .i64 (30)]) rfl (run_move rfl rfl) ?_
  (try simp only [Act.put, List.setIfInBounds_toArray, List.set_cons_zero, List.set_cons_succ])
  refine seq_is (v := .agg #[.bool (decide ((0 : Int) < 0)), x3.v]) rfl (run_extract rfl rfl rfl) ?_
  (try simp only [Act.put, List.setIfInBounds_toArray, List.set_cons_zero, List.set_cons_succ])
  refine seq_is (v := .int .i64 (30)) rfl (run_extract rfl rfl rfl) ?_
  (try simp only [Act.put, List.setIfInBounds_toArray, List.set_cons_zero, List.set_cons_succ])
  refine seq_alloc Z rfl rfl ?_; clear Z; intro g4 W Z
  (try simp only [Act.put, List.setIfInBounds_toArray, List.set_cons_zero, List.set_cons_succ])
  refine seq_store Z 0 rfl rfl rfl rfl rfl ?_; clear Z; intro W Z
  (try simp only [Act.put, List.setIfInBounds_toArray, List.set_cons_zero, List.set_cons_succ])
  refine seq_is (v := .int .i64 (30)) rfl (run_assign rfl rfl) ?_
  (try simp only [Act.put, List.setIfInBounds_toArray, List.set_cons_zero, List.set_cons_succ])
  show Code.wp _ _ _ _ _
  refine wp_seq ?_
  refine wp_seq ?_
  refine wp_region_list ?_
  refine seq_is (v := .int .i64 (30)) rfl (run_move rfl rfl) ?_
  (try simp only [Act.put, List.setIfInBounds_toArray, List.set_cons_zero, List.set_cons_succ])
  refine seq_is (v := .bool (decide ((30 : Int) ≠ (0)))) rfl (run_neqE rfl rfl rfl) ?_
  (try simp only [Act.put, List.setIfInBounds_toArray, List.set_cons_zero, List.set_cons_succ])
  show Code.wp _ _ _ _ _
  refine wp_cond_true rfl ?_
  refine wp_seq ?_
  refine wp_region_list ?_
  refine seq_is (v := .agg #[.bool (false), .slice none 0 0, .bool (false), .slice none 0 0]) rfl (run_buildR0 rfl) ?_
  (try simp only [Act.put, List.setIfInBounds_toArray, List.set_cons_zero, List.set_cons_succ])
  refine seq_is (v := .int .i64 (30)) rfl (run_move rfl rfl) ?_
  (try simp only [Act.put, List.setIfInBounds_toArray, List.set_cons_zero, List.set_cons_succ])
  refine seq_store4 Z 1 rfl rfl rfl rfl rfl ?_; clear Z; intro W Z
  (try simp only [Act.put, List.setIfInBounds_toArray, List.set_cons_zero, List.set_cons_succ])
  refine seq_is (v := .int .i64 (30)) rfl (run_assign rfl rfl) ?_
  (try simp only [Act.put, List.setIfInBounds_toArray, List.set_cons_zero, List.set_cons_succ])
  show Code.wp _ _ _ _ _
  refine wp_ret ?_
  exact Z.nought.endsQi' (u := .int .i64 (30)) 1 0 0 rfl rfl rfl rfl rfl rfl rfl (by rfl) (by rfl) (by rfl) (by rfl) (by rfl)
set_option maxHeartbeats 4000000 in
set_option maxRecDepth 100000 in
theorem trammelref03_Floor.sem {w : World} {b1 : Bool} {v1 : Value} {z1 : Int} {b2 : Bool} {v2 : Value} {z2 : Int} (m1 : NumV w b1 v1 z1) (m2 : NumV w b2 v2 z2) (hb1 : Bd 150000000 z1) (hb2 : Bd 150000000 z2) (h2 : z2 ≠ 0) : Calls Try.prog 36 #[.agg #[.bool b1, v1, .bool b2, v2]] w (ResI w (z1.fdiv z2)) := by
  obtain ⟨A1, n1, c1, rfl⟩ := m1.form
  obtain ⟨A2, n2, c2, rfl⟩ := m2.form
  have Z := Zt.start w (m1.has.append m2.has)
  go_enter Try.func36, Try.ntmps36
  refine wp_seq ?_
  refine wp_region_list ?_
  refine seq_box4 Z rfl rfl rfl ?_; clear Z; intro g1 W Z
  (try simp only [Act.put, List.setIfInBounds_toArray, List.set_cons_zero, List.set_cons_succ])
  refine seq_alloc Z rfl rfl ?_; clear Z; intro g2 W Z
  (try simp only [Act.put, List.setIfInBounds_toArray, List.set_cons_zero, List.set_cons_succ])
  show Code.wp _ _ _ _ _
  refine wp_seq ?_
  refine wp_region_list ?_
  refine seq_is (v := .pointer (some ⟨g1, 0, none⟩)) rfl (run_fieldR0 rfl rfl) ?_
  (try simp only [Act.put, List.setIfInBounds_toArray, List.set_cons_zero, List.set_cons_succ])
  refine seq_is (v := .agg #[.bool (b1), .slice A1 n1 c1]) rfl (run_loadNum rfl rfl (Z.bx 1 rfl)) ?_
  (try simp only [Act.put, List.setIfInBounds_toArray, List.set_cons_zero, List.set_cons_succ])
  refine seq_is (v := .pointer (some ⟨g1, 2, none⟩)) rfl (run_fieldR1 rfl rfl) ?_
  (try simp only [Act.put, List.setIfInBounds_toArray, List.set_cons_zero, List.set_cons_succ])
  refine seq_is (v := .agg #[.bool (b2), .slice A2 n2 c2]) rfl (run_loadDen rfl rfl (Z.bx 1 rfl)) ?_
  (try simp only [Act.put, List.setIfInBounds_toArray, List.set_cons_zero, List.set_cons_succ])
  refine seq_call Z rfl rfl Try.func68 rfl rfl (args2 rfl rfl) (Z.callII (trammelref02_Floor.sem (Z.num 0 rfl) (Z.num 1 rfl)  (Bd.mono hb1 (by decide)) (Bd.mono hb2 (by decide)) h2)) ?_; clear Z; intro x3 W Z
  (try simp only [Act.put, List.setIfInBounds_toArray, List.set_cons_zero, List.set_cons_succ])
  refine seq_is (v := .tuple #[.agg #[.bool (decide ((z1 : Int).fdiv (z2) < 0)), x3.1.v], .agg #[.bool (decide ((z1 : Int).fmod (z2) < 0)), x3.2.v]]) rfl (run_move rfl rfl) ?_
  (try simp only [Act.put, List.setIfInBounds_toArray, List.set_cons_zero, List.set_cons_succ])
  refine seq_is (v := .agg #[.bool (decide ((z1 : Int).fdiv (z2) < 0)), x3.1.v]) rfl (run_extract rfl rfl rfl) ?_
  (try simp only [Act.put, List.setIfInBounds_toArray, List.set_cons_zero, List.set_cons_succ])
  refine seq_is (v := .agg #[.bool (decide ((z1 : Int).fmod (z2) < 0)), x3.2.v]) rfl (run_extract rfl rfl rfl) ?_
  (try simp only [Act.put, List.setIfInBounds_toArray, List.set_cons_zero, List.set_cons_succ])
  refine seq_alloc Z rfl rfl ?_; clear Z; intro g4 W Z
  (try simp only [Act.put, List.setIfInBounds_toArray, List.set_cons_zero, List.set_cons_succ])
  refine seq_alloc Z rfl rfl ?_; clear Z; intro g5 W Z
  (try simp only [Act.put, List.setIfInBounds_toArray, List.set_cons_zero, List.set_cons_succ])
  refine seq_store Z 1 rfl rfl rfl rfl rfl ?_; clear Z; intro W Z
  (try simp only [Act.put, List.setIfInBounds_toArray, List.set_cons_zero, List.set_cons_succ])
  refine seq_store Z 0 rfl rfl rfl rfl rfl ?_; clear Z; intro W Z
  (try simp only [Act.put, List.setIfInBounds_toArray, List.set_cons_zero, List.set_cons_succ])
  show Code.wp _ _ _ _ _
  refine wp_seq ?_
  refine wp_region_list ?_
  refine seq_is (v := .agg #[.bool (decide ((z1 : Int).fdiv (z2) < 0)), x3.1.v]) rfl (run_load2 rfl rfl (Z.bx 1 rfl)) ?_
  (try simp only [Act.put, List.setIfInBounds_toArray, List.set_cons_zero, List.set_cons_succ])
  refine seq_store Z 2 rfl rfl rfl rfl rfl ?_; clear Z; intro W Z
  (try simp only [Act.put, List.setIfInBounds_toArray, List.set_cons_zero, List.set_cons_succ])
  show Code.wp _ _ _ _ _
  refine wp_ret ?_
  exact Z.ends1 2 0 rfl rfl rfl rfl rfl (by rfl)
set_option maxHeartbeats 4000000 in
set_option maxRecDepth 100000 in
theorem trammelref03_Half.sem (w : World) : Calls Try.prog 69 #[] w (ResQ w 1 2) := by
  have Z := Zt.start w (Has.nil w w)
  go_enter Try.func69, Try.ntmps69
  refine wp_seq ?_
  refine wp_region_list ?_
  refine seq_alloc4 Z rfl rfl ?_; clear Z; intro g1 W Z
  (try simp only [Act.put, List.setIfInBounds_toArray, List.set_cons_zero, List.set_cons_succ])
  show Code.wp _ _ _ _ _
  refine wp_seq ?_
  refine wp_region_list ?_
  refine seq_call Z rfl rfl Try.func53 rfl rfl (show Array.map _ #[] = #[] by simp) (Z.callI (trammelref03_one.sem _)) ?_; clear Z; intro x2 W Z
  (try simp only [Act.put, List.setIfInBounds_toArray, List.set_cons_zero, List.set_cons_succ])
  refine seq_call Z rfl rfl Try.func46 rfl rfl (args1 rfl) (Z.callI (trammelref02_Of.sem (by omega) (by omega))) ?_; clear Z; intro x3 W Z
  (try simp only [Act.put, List.setIfInBounds_toArray, List.set_cons_zero, List.set_cons_succ])
  refine seq_is (v := .agg #[.bool (decide ((1 : Int) < 0)), x2.v, .bool (decide ((2 : Int) < 0)), x3.v]) rfl (run_buildR rfl rfl rfl) ?_
  (try simp only [Act.put, List.setIfInBounds_toArray, List.set_cons_zero, List.set_cons_succ])
  refine seq_store4 Z 0 rfl rfl rfl rfl rfl ?_; clear Z; intro W Z
  (try simp only [Act.put, List.setIfInBounds_toArray, List.set_cons_zero, List.set_cons_succ])
  show Code.wp _ _ _ _ _
  refine wp_ret ?_
  exact Z.endsQ' 0 1 0 rfl rfl rfl rfl rfl rfl (by rfl) (by rfl) (by rfl) (by rfl)
set_option maxHeartbeats 4000000 in
set_option maxRecDepth 100000 in
theorem trammelref03_Near.sem {w : World} {b1 : Bool} {v1 : Value} {z1 : Int} {b2 : Bool} {v2 : Value} {z2 : Int} (m1 : NumV w b1 v1 z1) (m2 : NumV w b2 v2 z2) (hb1 : Bd 35000000 z1) (hb2 : Bd 35000000 z2) (h2 : 0 < z2) : Calls Try.prog 37 #[.agg #[.bool b1, v1, .bool b2, v2]] w (ResI w (nearZ z1 z2)) := by
  obtain ⟨A1, n1, c1, rfl⟩ := m1.form
  obtain ⟨A2, n2, c2, rfl⟩ := m2.form
  have Z := Zt.start w (m1.has.append m2.has)
  go_enter Try.func37, Try.ntmps37
  refine wp_seq ?_
  refine wp_region_list ?_
  refine seq_box4 Z rfl rfl rfl ?_; clear Z; intro g1 W Z
  (try simp only [Act.put, List.setIfInBounds_toArray, List.set_cons_zero, List.set_cons_succ])
  refine seq_alloc Z rfl rfl ?_; clear Z; intro g2 W Z
  (try simp only [Act.put, List.setIfInBounds_toArray, List.set_cons_zero, List.set_cons_succ])
  show Code.wp _ _ _ _ _
  refine wp_seq ?_
  refine wp_dag (pre := [_, _, _, _]) (sps := [.is (.agg #[.bool (b1), .slice A1 n1 c1, .bool (b2), .slice A2 n2 c2]), spQ w ((1 : Int)) ((2 : Int)), spQ w (qn (((z1) * ((2 : Int))) + (((1 : Int)) * (z2))) ((z2) * ((2 : Int)))) (qd (((z1) * ((2 : Int))) + (((1 : Int)) * (z2))) ((z2) * ((2 : Int)))), spI w (((qn (((z1) * ((2 : Int))) + (((1 : Int)) * (z2))) ((z2) * ((2 : Int)))) : Int).fdiv ((qd (((z1) * ((2 : Int))) + (((1 : Int)) * (z2))) ((z2) * ((2 : Int))))))]) Z (by kernel_rfl) _ rfl (by kernel_rfl) (by kernel_rfl) rfl ⟨?_, ?_, ?_, ?_, trivial⟩ ?_
  · intro a e3 W Q Z; exact step_is (fun _ h => op_plain rfl rfl h) (run_load4 rfl (ev e3) (Z.bx 1 rfl))
  · intro a W Q Z; exact step_call (fun _ h => op_plain rfl rfl h) rfl Try.func69 rfl rfl (show Array.map _ #[] = #[] by simp) (Z.callQ (trammelref03_Half.sem _))
  · intro a x6 e7 x8 e9 W Q Z; exact step_call (fun _ h => op_plain rfl rfl h) rfl Try.func25 rfl rfl (args2 (ev e7) (ev e9)) (Z.callQ (trammelref03_Add.sem (Z.num 2 rfl) (Z.num 3 rfl) (Z.own 0 rfl (Bd.fm (Bd.abs (Bd.lit (k := 64) (z := 1) (by decide))) (by decide))) (Z.own 1 rfl (Bd.fm (Bd.abs (Bd.lit (k := 64) (z := 2) (by decide))) (by decide))) (Bd.mono hb1 (by decide)) (Bd.mono hb2 (by decide)) (Bd.mono (Bd.lit (k := 64) (z := 1) (by decide)) (by decide)) (Bd.mono (Bd.lit (k := 64) (z := 2) (by decide)) (by decide)) (pos_ne h2) (pos_ne (by decide))))
  · intro a x11 e12 W Q Z; exact step_call (fun _ h => op_plain rfl rfl h) rfl Try.func36 rfl rfl (args1 (ev e12)) (Z.callI (trammelref03_Floor.sem (Z.own 0 rfl (Bd.fm (Bd.abs (Bd.qn (Bd.add (Bd.mul hb1 (Bd.lit (k := 64) (z := 2) (by decide))) (Bd.mul (Bd.lit (k := 64) (z := 1) (by decide)) hb2)))) (by decide))) (Z.own 1 rfl (Bd.fm (Bd.abs (Bd.qd (Bd.mul hb2 (Bd.lit (k := 64) (z := 2) (by decide))))) (by decide))) (Bd.mono (Bd.qn (Bd.add (Bd.mul hb1 (Bd.lit (k := 64) (z := 2) (by decide))) (Bd.mul (Bd.lit (k := 64) (z := 1) (by decide)) hb2))) (by decide)) (Bd.mono (Bd.qd (Bd.mul hb2 (Bd.lit (k := 64) (z := 2) (by decide)))) (by decide)) (pos_ne (qd_pos (pos_ne (Int.mul_pos h2 (by decide)))))))
  clear Z; intro x4 x5 x10 x13 W Z
  (try simp only [Act.put, List.setIfInBounds_toArray, List.set_cons_zero, List.set_cons_succ])
  refine seq_store Z 0 rfl rfl rfl rfl rfl ?_; clear Z; intro W Z
  (try simp only [Act.put, List.setIfInBounds_toArray, List.set_cons_zero, List.set_cons_succ])
  show Code.wp _ _ _ _ _
  refine wp_ret ?_
  exact Z.ends1 0 0 rfl rfl rfl rfl rfl (by exact near_q h2)
set_option maxHeartbeats 4000000 in
set_option maxRecDepth 100000 in
theorem trammelref03_Abs.sem {w : World} {b1 : Bool} {v1 : Value} {z1 : Int} {b2 : Bool} {v2 : Value} {z2 : Int} (m1 : NumV w b1 v1 z1) (m2 : NumV w b2 v2 z2) (hb1 : Bd 150000000 z1) (hb2 : Bd 150000000 z2) (h2 : 0 < z2) : Calls Try.prog 70 #[.agg #[.bool b1, v1, .bool b2, v2]] w (ResQ w (qn ((z1.natAbs : Nat) : Int) z2) (qd ((z1.natAbs : Nat) : Int) z2)) := by
  obtain ⟨A1, n1, c1, rfl⟩ := m1.form
  obtain ⟨A2, n2, c2, rfl⟩ := m2.form
  have Z := Zt.start w (m1.has.append m2.has)
  go_enter Try.func70, Try.ntmps70
  refine wp_seq ?_
  refine wp_region_list ?_
  refine seq_box4 Z rfl rfl rfl ?_; clear Z; intro g1 W Z
  (try simp only [Act.put, List.setIfInBounds_toArray, List.set_cons_zero, List.set_cons_succ])
  refine seq_alloc4 Z rfl rfl ?_; clear Z; intro g2 W Z
  (try simp only [Act.put, List.setIfInBounds_toArray, List.set_cons_zero, List.set_cons_succ])
  show Code.wp _ _ _ _ _
  refine wp_seq ?_
  refine wp_seq ?_
  refine wp_region_list ?_
  refine seq_is (v := .pointer (some ⟨g1, 0, none⟩)) rfl (run_fieldR0 rfl rfl) ?_
  (try simp only [Act.put, List.setIfInBounds_toArray, List.set_cons_zero, List.set_cons_succ])
  refine seq_is (v := .agg #[.bool (b1), .slice A1 n1 c1]) rfl (run_loadNum rfl rfl (Z.bx 1 rfl)) ?_
  (try simp only [Act.put, List.setIfInBounds_toArray, List.set_cons_zero, List.set_cons_succ])
  refine seq_call Z rfl rfl Try.func14 rfl rfl (args1 rfl) (Z.callV (trammelref02_Sign.sem (Z.num 0 rfl) (Bd.fm (Bd.abs hb1) (by decide)) )) ?_; clear Z; intro x3 W Z
  (try simp only [Act.put, List.setIfInBounds_toArray, List.set_cons_zero, List.set_cons_succ])
  refine seq_is (v := .bool (decide (((z1).sign) < (0)))) rfl (run_lss rfl rfl rfl) ?_
  (try simp only [Act.put, List.setIfInBounds_toArray, List.set_cons_zero, List.set_cons_succ])
  show Code.wp _ _ _ _ _
  refine wp_cond_split (t := decide (((z1).sign) < (0))) rfl ?_ ?_
  · intro hc4
    refine wp_seq ?_
    refine wp_region_list ?_
    refine seq_is (v := .agg #[.bool (b1), .slice A1 n1 c1, .bool (b2), .slice A2 n2 c2]) rfl (run_load4 rfl rfl (Z.bx 1 rfl)) ?_
    (try simp only [Act.put, List.setIfInBounds_toArray, List.set_cons_zero, List.set_cons_succ])
    refine seq_call Z rfl rfl Try.func63 rfl rfl (args1 rfl) (Z.callQ (trammelref03_Neg.sem (Z.num 0 rfl) (Z.num 1 rfl) (Bd.mono hb1 (by decide)) (Bd.mono hb2 (by decide)) (pos_ne h2))) ?_; clear Z; intro x5 W Z
    (try simp only [Act.put, List.setIfInBounds_toArray, List.set_cons_zero, List.set_cons_succ])
    refine seq_store4 Z 0 rfl rfl rfl rfl rfl ?_; clear Z; intro W Z
    (try simp only [Act.put, List.setIfInBounds_toArray, List.set_cons_zero, List.set_cons_succ])
    show Code.wp _ _ _ _ _
    refine wp_ret ?_
    exact Z.endsQ' 0 0 1 rfl rfl rfl rfl rfl rfl (by rw [abs_n (sign_neg hc4)]) (by rw [abs_n (sign_neg hc4)]) (by rw [abs_n (sign_neg hc4)]) (by rw [abs_n (sign_neg hc4)])
  · intro hc4
    refine wp_skip ?_
    show Code.wp _ _ _ _ _
    refine wp_seq ?_
    refine wp_region_list ?_
    refine seq_is (v := .pointer (some ⟨g1, 0, none⟩)) rfl (run_fieldR0 rfl rfl) ?_
    (try simp only [Act.put, List.setIfInBounds_toArray, List.set_cons_zero, List.set_cons_succ])
    refine seq_is (v := .agg #[.bool (b1), .slice A1 n1 c1]) rfl (run_loadNum rfl rfl (Z.bx 1 rfl)) ?_
    (try simp only [Act.put, List.setIfInBounds_toArray, List.set_cons_zero, List.set_cons_succ])
    refine seq_is (v := .pointer (some ⟨g1, 2, none⟩)) rfl (run_fieldR1 rfl rfl) ?_
    (try simp only [Act.put, List.setIfInBounds_toArray, List.set_cons_zero, List.set_cons_succ])
    refine seq_is (v := .agg #[.bool (b2), .slice A2 n2 c2]) rfl (run_loadDen rfl rfl (Z.bx 1 rfl)) ?_
    (try simp only [Act.put, List.setIfInBounds_toArray, List.set_cons_zero, List.set_cons_succ])
    refine seq_call Z rfl rfl Try.func17 rfl rfl (args2 rfl rfl) (Z.callQ (trammelref03_Make.semq (Z.num 0 rfl) (Z.num 1 rfl) (Bd.mono hb1 (by decide)) (Bd.mono hb2 (by decide)) (pos_ne h2))) ?_; clear Z; intro x6 W Z
    (try simp only [Act.put, List.setIfInBounds_toArray, List.set_cons_zero, List.set_cons_succ])
    refine seq_store4 Z 0 rfl rfl rfl rfl rfl ?_; clear Z; intro W Z
    (try simp only [Act.put, List.setIfInBounds_toArray, List.set_cons_zero, List.set_cons_succ])
    show Code.wp _ _ _ _ _
    refine wp_ret ?_
    exact Z.endsQ' 0 0 1 rfl rfl rfl rfl rfl rfl (by rw [← abs_p (sign_nn hc4)]) (by rw [← abs_p (sign_nn hc4)]) (by rw [← abs_p (sign_nn hc4)]) (by rw [← abs_p (sign_nn hc4)])
set_option maxHeartbeats 4000000 in
set_option maxRecDepth 100000 in
theorem trammelref03_Dist.sem {w : World} {b1 : Bool} {v1 : Value} {z1 : Int} {b2 : Bool} {v2 : Value} {z2 : Int} (m1 : NumV w b1 v1 z1) (m2 : NumV w b2 v2 z2) (hb1 : Bd 35000000 z1) (hb2 : Bd 35000000 z2) (h2 : 0 < z2) : Calls Try.prog 38 #[.agg #[.bool b1, v1, .bool b2, v2]] w (ResQ w (((qn (z1 * 1 - nearZ (z1) (z2) * z2) (z2 * 1)).natAbs : Nat)) (qd (z1 * 1 - nearZ (z1) (z2) * z2) (z2 * 1))) := by
  obtain ⟨A1, n1, c1, rfl⟩ := m1.form
  obtain ⟨A2, n2, c2, rfl⟩ := m2.form
  have Z := Zt.start w (m1.has.append m2.has)
  go_enter Try.func38, Try.ntmps38
  refine wp_seq ?_
  refine wp_region_list ?_
  refine seq_box4 Z rfl rfl rfl ?_; clear Z; intro g1 W Z
  (try simp only [Act.put, List.setIfInBounds_toArray, List.set_cons_zero, List.set_cons_succ])
  refine seq_alloc4 Z rfl rfl ?_; clear Z; intro g2 W Z
  (try simp only [Act.put, List.setIfInBounds_toArray, List.set_cons_zero, List.set_cons_succ])
  show Code.wp _ _ _ _ _
  refine wp_seq ?_
  refine wp_dag (pre := [_, _, _, _, _, _]) (sps := [.is (.agg #[.bool (b1), .slice A1 n1 c1, .bool (b2), .slice A2 n2 c2]), .is (.agg #[.bool (b1), .slice A1 n1 c1, .bool (b2), .slice A2 n2 c2]), spI w (nearZ ((z1)) ((z2))), spQ w ((nearZ ((z1)) ((z2)))) (1), spQ w (qn (((z1) * (1)) - (((nearZ ((z1)) ((z2)))) * (z2))) ((z2) * (1))) (qd (((z1) * (1)) - (((nearZ ((z1)) ((z2)))) * (z2))) ((z2) * (1))), spQ w (qn (((qn (((z1) * (1)) - (((nearZ ((z1)) ((z2)))) * (z2))) ((z2) * (1)))).natAbs : Nat) (qd (((z1) * (1)) - (((nearZ ((z1)) ((z2)))) * (z2))) ((z2) * (1)))) (qd (((qn (((z1) * (1)) - (((nearZ ((z1)) ((z2)))) * (z2))) ((z2) * (1)))).natAbs : Nat) (qd (((z1) * (1)) - (((nearZ ((z1)) ((z2)))) * (z2))) ((z2) * (1))))]) Z (by kernel_rfl) _ rfl (by kernel_rfl) (by kernel_rfl) rfl ⟨?_, ?_, ?_, ?_, ?_, ?_, trivial⟩ ?_
  · intro a e3 W Q Z; exact step_is (fun _ h => op_plain rfl rfl h) (run_load4 rfl (ev e3) (Z.bx 1 rfl))
  · intro a e5 W Q Z; exact step_is (fun _ h => op_plain rfl rfl h) (run_load4 rfl (ev e5) (Z.bx 1 rfl))
  · intro a x7 e8 W Q Z; exact step_call (fun _ h => op_plain rfl rfl h) rfl Try.func37 rfl rfl (args1 (ev e8)) (Z.callI (trammelref03_Near.sem (Z.num 0 rfl) (Z.num 1 rfl) (Bd.mono hb1 (by decide)) (Bd.mono hb2 (by decide)) h2))
  · intro a x10 e11 W Q Z; exact step_call (fun _ h => op_plain rfl rfl h) rfl Try.func19 rfl rfl (args1 (ev e11)) (Z.callQ (trammelref03_Of.sem (Z.own 0 rfl (Bd.fm (Bd.abs (Bd.near hb1 hb2)) (by decide))) ))
  · intro a x13 e14 x15 e16 W Q Z; exact step_call (fun _ h => op_plain rfl rfl h) rfl Try.func26 rfl rfl (args2 (ev e14) (ev e16)) (Z.callQ (trammelref03_Sub.sem (Z.num 2 rfl) (Z.num 3 rfl) (Z.own 0 rfl (Bd.fm (Bd.abs (Bd.near hb1 hb2)) (by decide))) (Z.own 1 rfl (Bd.fm (Bd.abs (Bd.lit (k := 64) (z := 1) (by decide))) (by decide))) (Bd.mono hb1 (by decide)) (Bd.mono hb2 (by decide)) (Bd.mono (Bd.near hb1 hb2) (by decide)) (Bd.mono (Bd.lit (k := 64) (z := 1) (by decide)) (by decide)) (pos_ne h2) (pos_ne (by decide))))
  · intro a x18 e19 W Q Z; exact step_call (fun _ h => op_plain rfl rfl h) rfl Try.func70 rfl rfl (args1 (ev e19)) (Z.callQ (trammelref03_Abs.sem (Z.own 0 rfl (Bd.fm (Bd.abs (Bd.qn (Bd.sub (Bd.mul hb1 (Bd.lit (k := 64) (z := 1) (by decide))) (Bd.mul (Bd.near hb1 hb2) hb2)))) (by decide))) (Z.own 1 rfl (Bd.fm (Bd.abs (Bd.qd (Bd.mul hb2 (Bd.lit (k := 64) (z := 1) (by decide))))) (by decide))) (Bd.mono (Bd.qn (Bd.sub (Bd.mul hb1 (Bd.lit (k := 64) (z := 1) (by decide))) (Bd.mul (Bd.near hb1 hb2) hb2))) (by decide)) (Bd.mono (Bd.qd (Bd.mul hb2 (Bd.lit (k := 64) (z := 1) (by decide)))) (by decide)) (qd_pos (pos_ne (Int.mul_pos h2 (by decide))))))
  clear Z; intro x4 x6 x9 x12 x17 x20 W Z
  (try simp only [Act.put, List.setIfInBounds_toArray, List.set_cons_zero, List.set_cons_succ])
  refine seq_store4 Z 0 rfl rfl rfl rfl rfl ?_; clear Z; intro W Z
  (try simp only [Act.put, List.setIfInBounds_toArray, List.set_cons_zero, List.set_cons_succ])
  show Code.wp _ _ _ _ _
  refine wp_ret ?_
  exact Z.endsQ' 0 0 1 rfl rfl rfl rfl rfl rfl (by rw [(dist_q (Int.mul_pos h2 (by decide))).1]) (by rw [(dist_q (Int.mul_pos h2 (by decide))).1]) (by rw [(dist_q (Int.mul_pos h2 (by decide))).2]) (by rw [(dist_q (Int.mul_pos h2 (by decide))).2])
end Go.Proofs.Ytndopanohhdfgaa.PA

