/- Small functions of layer 3; awake. -/
import Derived.Outline
import Derived.Test.YtndopanohhdfgaaZQK
import Derived.Test.YtndopanohhdfgaaZwholeK
import Derived.Test.YtndopanohhdfgaaZEK
import Derived.Test.YtndopanohhdfgaaPAx0K
namespace Go.Proofs.Ytndopanohhdfgaa.PA
open Go Go.Proofs.Ytndopanohhdfgaa.Nums Go.RowKit Go.Proofs.YtndopanohhdfgaaW.PrintWords Go.Proofs.YtndopanohhdfgaaW.PrintLast Go.Proofs.YtndopanohhdfgaaW.PrintMore
set_option linter.unusedVariables false
set_option linter.unusedSimpArgs false
def okB1 (d : Int) : Bool := decide (0 < d)
theorem sign_pos {z : Int} : decide (0 < z.sign) = okB1 z := by
  refine decide_eq_decide.mpr ⟨fun h => ?_, fun h => by rw [Int.sign_eq_one_of_pos h]; decide⟩
  rcases Int.lt_trichotomy 0 z with h1 | h1 | h1
  · exact h1
  · subst h1; exact absurd h (by decide)
  · rw [Int.sign_eq_neg_one_of_neg h1] at h; exact absurd h (by decide)
theorem cmp_0 {x y : Int} (h : decide (cmp x y = 0) = true) : x = y := by
  have h := of_decide_eq_true h
  unfold cmp at h
  split at h
  · omega
  · split at h
    · assumption
    · omega
theorem cmp_n {x y : Int} (h : decide (cmp x y = 0) = false) : x ≠ y := by
  rintro rfl
  refine of_decide_eq_false h ?_
  unfold cmp
  rw [if_neg (by omega), if_pos rfl]
/-- a rational's text -/
def textQ (x y : Int) : ByteArray := if qd x y = 1 then textZ (qn x y) else textZ (qn x y) ++ ⟨#[47]⟩ ++ textZ (qd x y)
theorem text_sz {z : Int} (h : Fm ((z.natAbs : Nat) : Int)) : (textZ z).size ≤ 100000002 := by
  have h2 := val_lt (lm_ok ((z.natAbs : Nat) : Int))
  rw [lm_val (by omega)] at h2
  have h3 := textOf_size (x := ((z.natAbs : Nat) : Int)) (by omega) (Int.lt_of_lt_of_le h2 (Bp_le h))
  unfold textZ
  split
  · rw [ByteArray.size_append]
    show 1 + _ ≤ _
    omega
  · omega
theorem text_s1 {z : Int} (h : Fm ((z.natAbs : Nat) : Int)) : (textZ z).size + (⟨#[47]⟩ : ByteArray).size ≤ 9223372036854775807 := by
  have := text_sz h
  show _ + 1 ≤ _
  omega
theorem text_s2 {z y : Int} (h : Fm ((z.natAbs : Nat) : Int)) (h2 : Fm ((y.natAbs : Nat) : Int)) : (textZ z ++ ⟨#[47]⟩).size + (textZ y).size ≤ 9223372036854775807 := by
  have := text_sz h
  have := text_sz h2
  rw [ByteArray.size_append]
  show _ + 1 + _ ≤ _
  omega
theorem text_22 : textQ 2 2 = ⟨#[49]⟩ := by kernel_rfl
theorem near_32 : nearZ (-3) 2 = -1 := by decide
theorem wholeI {w : World} {v1 v2 : Value} {z1 z2 : Int} (m1 : Rd w v1 (mg z1)) (m2 : Rd w v2 (mg z2)) (hf : Fm ((z1.natAbs : Nat))) (hz : z1 = z2) : Calls Try.prog 35 #[.agg #[.bool (decide (z1 < 0)), v1], .agg #[.bool (decide (z2 < 0)), v2]] w (RetV w (.bool true)) := by
  subst hz
  have h := trammellaw03_whole.sem (b1 := decide (z1 < 0)) (b2 := decide (z1 < 0)) m1 m2 (by have : (mg z1).length ≤ 10000000 := hf; omega)
  simpa using h
set_option maxHeartbeats 4000000 in
set_option maxRecDepth 100000 in
theorem trammellaw03_half.sem {w : World} {n : Int} (hn : -9223372036854775808 ≤ n ∧ n ≤ 9223372036854775807) : Calls Try.prog 33 #[.int .i64 n] w (ResQ w n 2) := by
  have Z := Zt.start w (Has.nil w w)
  go_enter Try.func33, Try.ntmps33
  refine wp_seq ?_
  refine wp_region_list ?_
  refine seq_alloc4 Z rfl rfl ?_; clear Z; intro g1 W Z
  (try simp only [Act.put, List.setIfInBounds_toArray, List.set_cons_zero, List.set_cons_succ])
  show Code.wp _ _ _ _ _
  refine wp_seq ?_
  refine wp_region_list ?_
  refine seq_is (v := .int .i64 n) rfl (run_move rfl rfl) ?_
  (try simp only [Act.put, List.setIfInBounds_toArray, List.set_cons_zero, List.set_cons_succ])
  refine seq_call Z rfl rfl Try.func46 rfl rfl (args1 rfl) (Z.callI (trammelref02_Of.sem (by omega) (by omega))) ?_; clear Z; intro x2 W Z
  (try simp only [Act.put, List.setIfInBounds_toArray, List.set_cons_zero, List.set_cons_succ])
  refine seq_call Z rfl rfl Try.func46 rfl rfl (args1 rfl) (Z.callI (trammelref02_Of.sem (by decide) (by decide))) ?_; clear Z; intro x3 W Z
  (try simp only [Act.put, List.setIfInBounds_toArray, List.set_cons_zero, List.set_cons_succ])
  refine seq_is (v := .agg #[.bool (decide (n < 0)), x2.v, .bool (decide ((2 : Int) < 0)), x3.v]) rfl (run_buildR rfl rfl rfl) ?_
  (try simp only [Act.put, List.setIfInBounds_toArray, List.set_cons_zero, List.set_cons_succ])
  refine seq_store4 Z 0 rfl rfl rfl rfl rfl ?_; clear Z; intro W Z
  (try simp only [Act.put, List.setIfInBounds_toArray, List.set_cons_zero, List.set_cons_succ])
  show Code.wp _ _ _ _ _
  refine wp_ret ?_
  exact Z.endsQ' 0 1 0 rfl rfl rfl rfl rfl rfl (by rfl) (by rfl) (by rfl) (by rfl)
set_option maxHeartbeats 4000000 in
set_option maxRecDepth 100000 in
theorem trammelref03_Valid.sem {w : World} {b1 : Bool} {v1 : Value} {z1 : Int} {b2 : Bool} {v2 : Value} {z2 : Int} (m1 : NumV w b1 v1 z1) (m2 : NumV w b2 v2 z2) (hb2 : Bd 150000000 z2) : Calls Try.prog 65 #[.agg #[.bool b1, v1, .bool b2, v2]] w (RetV w (.bool (okB1 z2))) := by
  obtain ⟨A1, n1, c1, rfl⟩ := m1.form
  obtain ⟨A2, n2, c2, rfl⟩ := m2.form
  have Z := Zt.start w (m1.has.append m2.has)
  go_enter Try.func65, Try.ntmps65
  refine wp_seq ?_
  refine wp_region_list ?_
  refine seq_box4 Z rfl rfl rfl ?_; clear Z; intro g1 W Z
  (try simp only [Act.put, List.setIfInBounds_toArray, List.set_cons_zero, List.set_cons_succ])
  refine seq_is (v := .bool (false)) rfl (run_assign rfl rfl) ?_
  (try simp only [Act.put, List.setIfInBounds_toArray, List.set_cons_zero, List.set_cons_succ])
  show Code.wp _ _ _ _ _
  refine wp_seq ?_
  refine wp_region_list ?_
  refine seq_is (v := .pointer (some ⟨g1, 2, none⟩)) rfl (run_fieldR1 rfl rfl) ?_
  (try simp only [Act.put, List.setIfInBounds_toArray, List.set_cons_zero, List.set_cons_succ])
  refine seq_is (v := .agg #[.bool (b2), .slice A2 n2 c2]) rfl (run_loadDen rfl rfl (Z.bx 0 rfl)) ?_
  (try simp only [Act.put, List.setIfInBounds_toArray, List.set_cons_zero, List.set_cons_succ])
  refine seq_call Z rfl rfl Try.func14 rfl rfl (args1 rfl) (Z.callV (trammelref02_Sign.sem (Z.num 1 rfl) (Bd.fm (Bd.abs hb2) (by decide)) )) ?_; clear Z; intro x2 W Z
  (try simp only [Act.put, List.setIfInBounds_toArray, List.set_cons_zero, List.set_cons_succ])
  refine seq_is (v := .bool (decide ((0) < ((z2).sign)))) rfl (run_gtr rfl rfl rfl) ?_
  (try simp only [Act.put, List.setIfInBounds_toArray, List.set_cons_zero, List.set_cons_succ])
  refine seq_is (v := .bool (decide ((0) < ((z2).sign)))) rfl (run_assign rfl rfl) ?_
  (try simp only [Act.put, List.setIfInBounds_toArray, List.set_cons_zero, List.set_cons_succ])
  show Code.wp _ _ _ _ _
  refine wp_ret ?_
  exact Z.endsV (u := .bool (decide ((0) < ((z2).sign)))) rfl rfl rfl (by rw [sign_pos])
set_option maxHeartbeats 4000000 in
set_option maxRecDepth 100000 in
theorem trammellaw03_ok.sem {w : World} {b1 : Bool} {v1 : Value} {z1 : Int} {b2 : Bool} {v2 : Value} {z2 : Int} (m1 : NumV w b1 v1 z1) (m2 : NumV w b2 v2 z2) (hb2 : Bd 150000000 z2) : Calls Try.prog 31 #[.agg #[.bool b1, v1, .bool b2, v2]] w (RetV w (.bool (okB1 z2))) := by
  obtain ⟨A1, n1, c1, rfl⟩ := m1.form
  obtain ⟨A2, n2, c2, rfl⟩ := m2.form
  have Z := Zt.start w (m1.has.append m2.has)
  go_enter Try.func31, Try.ntmps31
  refine wp_seq ?_
  refine wp_region_list ?_
  refine seq_box4 Z rfl rfl rfl ?_; clear Z; intro g1 W Z
  (try simp only [Act.put, List.setIfInBounds_toArray, List.set_cons_zero, List.set_cons_succ])
  refine seq_is (v := .bool (false)) rfl (run_assign rfl rfl) ?_
  (try simp only [Act.put, List.setIfInBounds_toArray, List.set_cons_zero, List.set_cons_succ])
  show Code.wp _ _ _ _ _
  refine wp_seq ?_
  refine wp_region_list ?_
  refine seq_is (v := .agg #[.bool (b1), .slice A1 n1 c1, .bool (b2), .slice A2 n2 c2]) rfl (run_load4 rfl rfl (Z.bx 0 rfl)) ?_
  (try simp only [Act.put, List.setIfInBounds_toArray, List.set_cons_zero, List.set_cons_succ])
  refine seq_call Z rfl rfl Try.func65 rfl rfl (args1 rfl) (Z.callV (trammelref03_Valid.sem (Z.num 0 rfl) (Z.num 1 rfl) (Bd.mono hb2 (by decide)))) ?_; clear Z; intro x2 W Z
  (try simp only [Act.put, List.setIfInBounds_toArray, List.set_cons_zero, List.set_cons_succ])
  refine seq_is (v := .bool (okB1 (z2))) rfl (run_assign rfl rfl) ?_
  (try simp only [Act.put, List.setIfInBounds_toArray, List.set_cons_zero, List.set_cons_succ])
  show Code.wp _ _ _ _ _
  refine wp_ret ?_
  exact Z.endsV (u := .bool (okB1 (z2))) rfl rfl rfl (by rfl)
set_option maxHeartbeats 4000000 in
set_option maxRecDepth 100000 in
theorem rat_Near.sem {w : World} {b1 : Bool} {v1 : Value} {z1 : Int} {b2 : Bool} {v2 : Value} {z2 : Int} (m1 : NumV w b1 v1 z1) (m2 : NumV w b2 v2 z2) (hb1 : Bd 140000000 z1) (hb2 : Bd 140000000 z2) (h2 : 0 < z2) : Calls Try.prog 32 #[.agg #[.bool b1, v1, .bool b2, v2]] w (ResIi w (nearZ z1 z2) (.int .i64 0)) := by
  obtain ⟨A1, n1, c1, rfl⟩ := m1.form
  obtain ⟨A2, n2, c2, rfl⟩ := m2.form
  have Z := Zt.start w (m1.has.append m2.has)
  go_enter Try.func32, Try.ntmps32
  refine wp_seq ?_
  refine wp_region_list ?_
  refine seq_box4 Z rfl rfl rfl ?_; clear Z; intro g1 W Z
  (try simp only [Act.put, List.setIfInBounds_toArray, List.set_cons_zero, List.set_cons_succ])
  refine seq_alloc Z rfl rfl ?_; clear Z; intro g2 W Z
  (try simp only [Act.put, List.setIfInBounds_toArray, List.set_cons_zero, List.set_cons_succ])
  refine seq_is (v := .int .i64 (0)) rfl (run_assign rfl rfl) ?_
  (try simp only [Act.put, List.setIfInBounds_toArray, List.set_cons_zero, List.set_cons_succ])
  show Code.wp _ _ _ _ _
  refine wp_seq ?_
  refine wp_seq ?_
  refine wp_region_list ?_
  refine seq_is (v := .agg #[.bool (b1), .slice A1 n1 c1, .bool (b2), .slice A2 n2 c2]) rfl (run_load4 rfl rfl (Z.bx 1 rfl)) ?_
  (try simp only [Act.put, List.setIfInBounds_toArray, List.set_cons_zero, List.set_cons_succ])
  refine seq_rowR1 Z rfl rfl rfl ?_; clear Z; intro g3 W Z
  (try simp only [Act.put, List.setIfInBounds_toArray, List.set_cons_zero, List.set_cons_succ])
  refine seq_call Z rfl rfl Try.func41 rfl rfl (args1 rfl) (Z.callV (rat_valid.sem1 (Z.num 0 rfl) (Z.num 1 rfl) (Z.bx 0 rfl).2.2)) ?_; clear Z; intro x4 W Z
  (try simp only [Act.put, List.setIfInBounds_toArray, List.set_cons_zero, List.set_cons_succ])
  refine seq_is (v := .int .i64 (okE1 (z2))) rfl (run_assign rfl rfl) ?_
  (try simp only [Act.put, List.setIfInBounds_toArray, List.set_cons_zero, List.set_cons_succ])
  show Code.wp _ _ _ _ _
  refine wp_seq ?_
  refine wp_region_list ?_
  refine seq_is (v := .int .i64 (okE1 (z2))) rfl (run_move rfl rfl) ?_
  (try simp only [Act.put, List.setIfInBounds_toArray, List.set_cons_zero, List.set_cons_succ])
  refine seq_is (v := .bool (decide ((okE1 (z2)) ≠ (0)))) rfl (run_neqE rfl rfl rfl) ?_
  (try simp only [Act.put, List.setIfInBounds_toArray, List.set_cons_zero, List.set_cons_succ])
  show Code.wp _ _ _ _ _
  refine wp_cond_false ((show _ = Value.bool (decide ((okE1 (z2)) ≠ (0))) from rfl).trans (congrArg Value.bool (okE1_t h2))) ?_
  refine wp_skip ?_
  show Code.wp _ _ _ _ _
  refine wp_seq ?_
  refine wp_region_list ?_
  refine seq_is (v := .pointer (some ⟨g1, 0, none⟩)) rfl (run_fieldR0 rfl rfl) ?_
  (try simp only [Act.put, List.setIfInBounds_toArray, List.set_cons_zero, List.set_cons_succ])
  refine seq_is (v := .agg #[.bool (b1), .slice A1 n1 c1]) rfl (run_loadNum rfl rfl (Z.bx 2 rfl)) ?_
  (try simp only [Act.put, List.setIfInBounds_toArray, List.set_cons_zero, List.set_cons_succ])
  refine seq_is (v := .pointer (some ⟨g1, 2, none⟩)) rfl (run_fieldR1 rfl rfl) ?_
  (try simp only [Act.put, List.setIfInBounds_toArray, List.set_cons_zero, List.set_cons_succ])
  refine seq_is (v := .agg #[.bool (b2), .slice A2 n2 c2]) rfl (run_loadDen rfl rfl (Z.bx 2 rfl)) ?_
  (try simp only [Act.put, List.setIfInBounds_toArray, List.set_cons_zero, List.set_cons_succ])
  refine seq_call Z rfl rfl Try.func66 rfl rfl (args2 rfl rfl) (Z.callIi (zint_Near.sem (Z.num 0 rfl) (Z.num 1 rfl)  (Bd.mono hb1 (by decide)) (Bd.mono hb2 (by decide)) (pos_ne h2))) ?_; clear Z; intro x5 W Z
  (try simp only [Act.put, List.setIfInBounds_toArray, List.set_cons_zero, List.set_cons_succ])
  refine seq_is (v := .tuple #[.agg #[.bool (decide (nearZ (z1) (z2) < 0)), x5.v], .int .i64 (0)]) rfl (run_move rfl rfl) ?_
  (try simp only [Act.put, List.setIfInBounds_toArray, List.set_cons_zero, List.set_cons_succ])
  refine seq_is (v := .agg #[.bool (decide (nearZ (z1) (z2) < 0)), x5.v]) rfl (run_extract rfl rfl rfl) ?_
  (try simp only [Act.put, List.setIfInBounds_toArray, List.set_cons_zero, List.set_cons_succ])
  refine seq_is (v := .int .i64 (0)) rfl (run_extract rfl rfl rfl) ?_
  (try simp only [Act.put, List.setIfInBounds_toArray, List.set_cons_zero, List.set_cons_succ])
  refine seq_alloc Z rfl rfl ?_; clear Z; intro g6 W Z
  (try simp only [Act.put, List.setIfInBounds_toArray, List.set_cons_zero, List.set_cons_succ])
  refine seq_store Z 0 rfl rfl rfl rfl rfl ?_; clear Z; intro W Z
  (try simp only [Act.put, List.setIfInBounds_toArray, List.set_cons_zero, List.set_cons_succ])
  refine seq_is (v := .int .i64 (0)) rfl (run_assign rfl rfl) ?_
  (try simp only [Act.put, List.setIfInBounds_toArray, List.set_cons_zero, List.set_cons_succ])
  show Code.wp _ _ _ _ _
  refine wp_seq ?_
  refine wp_region_list ?_
  refine seq_is (v := .agg #[.bool (decide (nearZ (z1) (z2) < 0)), x5.v]) rfl (run_load2 rfl rfl (Z.bx 0 rfl)) ?_
  (try simp only [Act.put, List.setIfInBounds_toArray, List.set_cons_zero, List.set_cons_succ])
  refine seq_store Z 2 rfl rfl rfl rfl rfl ?_; clear Z; intro W Z
  (try simp only [Act.put, List.setIfInBounds_toArray, List.set_cons_zero, List.set_cons_succ])
  refine seq_is (v := .int .i64 (0)) rfl (run_assign rfl rfl) ?_
  (try simp only [Act.put, List.setIfInBounds_toArray, List.set_cons_zero, List.set_cons_succ])
  show Code.wp _ _ _ _ _
  refine wp_ret ?_
  exact Z.endsIi (u := .int .i64 (0)) (y' := 0) (x' := 0) 2 0 rfl rfl rfl rfl rfl rfl (by rfl) (by rfl)
set_option maxHeartbeats 4000000 in
set_option maxRecDepth 100000 in
theorem rat_Text.sem {w : World} {b1 : Bool} {v1 : Value} {z1 : Int} {b2 : Bool} {v2 : Value} {z2 : Int} (m1 : NumV w b1 v1 z1) (m2 : NumV w b2 v2 z2) (hb1 : Bd 150000000 z1) (hb2 : Bd 150000000 z2) (h2 : 0 < z2) : Calls Try.prog 39 #[.agg #[.bool b1, v1, .bool b2, v2]] w (RetV w (.tuple #[.string (textQ z1 z2), .int .i64 0])) := by
  obtain ⟨A1, n1, c1, rfl⟩ := m1.form
  obtain ⟨A2, n2, c2, rfl⟩ := m2.form
  have Z := Zt.start w (m1.has.append m2.has)
  have hq : Fm (((qn z1 z2).natAbs : Nat) : Int) := (Bd.abs (Bd.qn hb1)).fm (by decide)
  have hd : Fm (((qd z1 z2).natAbs : Nat) : Int) := (Bd.abs (Bd.qd hb2)).fm (by decide)
  go_enter Try.func39, Try.ntmps39
  refine wp_seq ?_
  refine wp_region_list ?_
  refine seq_box4 Z rfl rfl rfl ?_; clear Z; intro g1 W Z
  (try simp only [Act.put, List.setIfInBounds_toArray, List.set_cons_zero, List.set_cons_succ])
  refine seq_is (v := .string (⟨#[]⟩ : ByteArray)) rfl (run_assign rfl rfl) ?_
  (try simp only [Act.put, List.setIfInBounds_toArray, List.set_cons_zero, List.set_cons_succ])
  refine seq_is (v := .int .i64 (0)) rfl (run_assign rfl rfl) ?_
  (try simp only [Act.put, List.setIfInBounds_toArray, List.set_cons_zero, List.set_cons_succ])
  show Code.wp _ _ _ _ _
  refine wp_seq ?_
  refine wp_seq ?_
  refine wp_region_list ?_
  refine seq_is (v := .agg #[.bool (b1), .slice A1 n1 c1, .bool (b2), .slice A2 n2 c2]) rfl (run_load4 rfl rfl (Z.bx 0 rfl)) ?_
  (try simp only [Act.put, List.setIfInBounds_toArray, List.set_cons_zero, List.set_cons_succ])
  refine seq_rowR1 Z rfl rfl rfl ?_; clear Z; intro g2 W Z
  (try simp only [Act.put, List.setIfInBounds_toArray, List.set_cons_zero, List.set_cons_succ])
  refine seq_call Z rfl rfl Try.func41 rfl rfl (args1 rfl) (Z.callV (rat_valid.sem1 (Z.num 0 rfl) (Z.num 1 rfl) (Z.bx 0 rfl).2.2)) ?_; clear Z; intro x3 W Z
  (try simp only [Act.put, List.setIfInBounds_toArray, List.set_cons_zero, List.set_cons_succ])
  refine seq_is (v := .int .i64 (okE1 (z2))) rfl (run_assign rfl rfl) ?_
  (try simp only [Act.put, List.setIfInBounds_toArray, List.set_cons_zero, List.set_cons_succ])
  show Code.wp _ _ _ _ _
  refine wp_seq ?_
  refine wp_region_list ?_
  refine seq_is (v := .int .i64 (okE1 (z2))) rfl (run_move rfl rfl) ?_
  (try simp only [Act.put, List.setIfInBounds_toArray, List.set_cons_zero, List.set_cons_succ])
  refine seq_is (v := .bool (decide ((okE1 (z2)) ≠ (0)))) rfl (run_neqE rfl rfl rfl) ?_
  (try simp only [Act.put, List.setIfInBounds_toArray, List.set_cons_zero, List.set_cons_succ])
  show Code.wp _ _ _ _ _
  refine wp_cond_false ((show _ = Value.bool (decide ((okE1 (z2)) ≠ (0))) from rfl).trans (congrArg Value.bool (okE1_t h2))) ?_
  refine wp_skip ?_
  show Code.wp _ _ _ _ _
  refine wp_seq ?_
  refine wp_region_list ?_
  refine seq_is (v := .pointer (some ⟨g1, 0, none⟩)) rfl (run_fieldR0 rfl rfl) ?_
  (try simp only [Act.put, List.setIfInBounds_toArray, List.set_cons_zero, List.set_cons_succ])
  refine seq_is (v := .agg #[.bool (b1), .slice A1 n1 c1]) rfl (run_loadNum rfl rfl (Z.bx 1 rfl)) ?_
  (try simp only [Act.put, List.setIfInBounds_toArray, List.set_cons_zero, List.set_cons_succ])
  refine seq_is (v := .pointer (some ⟨g1, 2, none⟩)) rfl (run_fieldR1 rfl rfl) ?_
  (try simp only [Act.put, List.setIfInBounds_toArray, List.set_cons_zero, List.set_cons_succ])
  refine seq_is (v := .agg #[.bool (b2), .slice A2 n2 c2]) rfl (run_loadDen rfl rfl (Z.bx 1 rfl)) ?_
  (try simp only [Act.put, List.setIfInBounds_toArray, List.set_cons_zero, List.set_cons_succ])
  refine seq_call Z rfl rfl Try.func44 rfl rfl (args2 rfl rfl) (Z.callQ (rat_made.semq (Z.num 0 rfl) (Z.num 1 rfl) (Bd.mono hb1 (by decide)) (Bd.mono hb2 (by decide)) (pos_ne h2))) ?_; clear Z; intro x4 W Z
  (try simp only [Act.put, List.setIfInBounds_toArray, List.set_cons_zero, List.set_cons_succ])
  refine seq_alloc4 Z rfl rfl ?_; clear Z; intro g5 W Z
  (try simp only [Act.put, List.setIfInBounds_toArray, List.set_cons_zero, List.set_cons_succ])
  refine seq_store4 Z 0 rfl rfl rfl rfl rfl ?_; clear Z; intro W Z
  (try simp only [Act.put, List.setIfInBounds_toArray, List.set_cons_zero, List.set_cons_succ])
  show Code.wp _ _ _ _ _
  refine wp_seq ?_
  refine wp_seq ?_
  refine wp_dag (pre := [_, _, _, _, _]) (sps := [.is (.pointer (some ⟨g5, 2, none⟩)), .is (.agg #[.bool (decide (qd (z1) (z2) < 0)), x4.2.v]), spI w ((1 : Int)), .is (.int .i64 (cmp (qd (z1) (z2)) ((1 : Int)))), .is (.bool (decide ((cmp (qd (z1) (z2)) ((1 : Int))) = (0))))]) Z (by kernel_rfl) _ rfl (by kernel_rfl) (by kernel_rfl) rfl ⟨?_, ?_, ?_, ?_, ?_, trivial⟩ ?_
  · intro a e6 W Q Z; exact step_is (fun _ h => op_plain rfl rfl h) (run_fieldR1 rfl (ev e6))
  · intro a x8 e9 W Q Z; exact step_is (fun _ h => op_plain rfl rfl h) (run_loadDen rfl (ev e9) (Z.bx 0 rfl))
  · intro a W Q Z; exact step_call (fun _ h => op_plain rfl rfl h) rfl Try.func52 rfl rfl (args1 rfl) (Z.callI (zint_Of.sem (by omega) (by omega)))
  · intro a x12 e13 x14 e15 W Q Z; exact step_call (fun _ h => op_plain rfl rfl h) rfl Try.func54 rfl rfl (args2 (ev e13) (ev e15)) (Z.callV (zint_Compare.sem (Z.own 2 rfl (Bd.fm (Bd.abs (Bd.qd hb2)) (by decide))) (Z.own 0 rfl (Bd.fm (Bd.abs (Bd.lit (k := 64) (z := 1) (by decide))) (by decide)))  ))
  · intro a x17 e18 W Q Z; exact step_is (fun _ h => op_plain rfl rfl h) (run_eql rfl (ev e18) rfl)
  clear Z; intro x7 x10 x11 x16 x19 W Z
  (try simp only [Act.put, List.setIfInBounds_toArray, List.set_cons_zero, List.set_cons_succ])
  show Code.wp _ _ _ _ _
  refine wp_cond_split (t := decide ((cmp (qd (z1) (z2)) ((1 : Int))) = (0))) rfl ?_ ?_
  · intro hc20
    refine wp_seq ?_
    refine wp_region_list ?_
    refine seq_is (v := .pointer (some ⟨g5, 0, none⟩)) rfl (run_fieldR0 rfl rfl) ?_
    (try simp only [Act.put, List.setIfInBounds_toArray, List.set_cons_zero, List.set_cons_succ])
    refine seq_is (v := .agg #[.bool (decide (qn (z1) (z2) < 0)), x4.1.v]) rfl (run_loadNum rfl rfl (Z.bx 0 rfl)) ?_
    (try simp only [Act.put, List.setIfInBounds_toArray, List.set_cons_zero, List.set_cons_succ])
    refine seq_call Z rfl rfl Try.func71 rfl rfl (args1 rfl) (Z.callV (zint_Text.sem (Z.own 1 rfl (Bd.fm (Bd.abs (Bd.qn hb1)) (by decide)))  )) ?_; clear Z; intro x21 W Z
    (try simp only [Act.put, List.setIfInBounds_toArray, List.set_cons_zero, List.set_cons_succ])
    refine seq_is (v := .string (textZ (qn (z1) (z2)))) rfl (run_assign rfl rfl) ?_
    (try simp only [Act.put, List.setIfInBounds_toArray, List.set_cons_zero, List.set_cons_succ])
    refine seq_is (v := .int .i64 (0)) rfl (run_assign rfl rfl) ?_
    (try simp only [Act.put, List.setIfInBounds_toArray, List.set_cons_zero, List.set_cons_succ])
    show Code.wp _ _ _ _ _
    refine wp_ret ?_
    exact Z.endsV2 (u := .string (textZ (qn (z1) (z2)))) (v := .int .i64 (0)) rfl rfl rfl rfl (by unfold textQ; rw [if_pos (cmp_0 hc20)])
  · intro hc20
    refine wp_skip ?_
    show Code.wp _ _ _ _ _
    refine wp_seq ?_
    refine wp_dag (pre := [_, _, _, _, _, _, _, _, _, _]) (sps := [.is (.pointer (some ⟨g5, 0, none⟩)), .is (.agg #[.bool (decide (qn (z1) (z2) < 0)), x4.1.v]), .is (.string (textZ (qn (z1) (z2)))), .is (.string ((textZ (qn (z1) (z2))) ++ (⟨#[47]⟩ : ByteArray))), .is (.pointer (some ⟨g5, 2, none⟩)), .is (.agg #[.bool (decide (qd (z1) (z2) < 0)), x4.2.v]), .is (.string (textZ (qd (z1) (z2)))), .is (.string (((textZ (qn (z1) (z2))) ++ (⟨#[47]⟩ : ByteArray)) ++ (textZ (qd (z1) (z2))))), .is (.string (((textZ (qn (z1) (z2))) ++ (⟨#[47]⟩ : ByteArray)) ++ (textZ (qd (z1) (z2))))), .is (.int .i64 (0))]) Z (by kernel_rfl) _ rfl (by kernel_rfl) (by kernel_rfl) rfl ⟨?_, ?_, ?_, ?_, ?_, ?_, ?_, ?_, ?_, ?_, trivial⟩ ?_
    · intro a e22 W Q Z; exact step_is (fun _ h => op_plain rfl rfl h) (run_fieldR0 rfl (ev e22))
    · intro a x24 e25 W Q Z; exact step_is (fun _ h => op_plain rfl rfl h) (run_loadNum rfl (ev e25) (Z.bx 0 rfl))
    · intro a x27 e28 W Q Z; exact step_call (fun _ h => op_plain rfl rfl h) rfl Try.func71 rfl rfl (args1 (ev e28)) (Z.callV (zint_Text.sem (Z.own 1 rfl (Bd.fm (Bd.abs (Bd.qn hb1)) (by decide)))  ))
    · intro a x30 e31 W Q Z; exact step_is (fun _ h => op_plain rfl rfl h) (run_addS (text_s1 hq) rfl (ev e31) rfl)
    · intro a e33 W Q Z; exact step_is (fun _ h => op_plain rfl rfl h) (run_fieldR1 rfl (ev e33))
    · intro a x35 e36 W Q Z; exact step_is (fun _ h => op_plain rfl rfl h) (run_loadDen rfl (ev e36) (Z.bx 0 rfl))
    · intro a x38 e39 W Q Z; exact step_call (fun _ h => op_plain rfl rfl h) rfl Try.func71 rfl rfl (args1 (ev e39)) (Z.callV (zint_Text.sem (Z.own 2 rfl (Bd.fm (Bd.abs (Bd.qd hb2)) (by decide)))  ))
    · intro a x41 e42 x43 e44 W Q Z; exact step_is (fun _ h => op_plain rfl rfl h) (run_addS (text_s2 hq hd) rfl (ev e42) (ev e44))
    · intro a x46 e47 W Q Z; exact step_is (fun _ h => op_plain rfl rfl h) (run_assign rfl (ev e47))
    · intro a W Q Z; exact step_is (fun _ h => op_plain rfl rfl h) (run_assign rfl rfl)
    clear Z; intro x23 x26 x29 x32 x34 x37 x40 x45 x48 x49 W Z
    (try simp only [Act.put, List.setIfInBounds_toArray, List.set_cons_zero, List.set_cons_succ])
    show Code.wp _ _ _ _ _
    refine wp_ret ?_
    exact Z.endsV2 (u := .string (((textZ (qn (z1) (z2))) ++ (⟨#[47]⟩ : ByteArray)) ++ (textZ (qd (z1) (z2))))) (v := .int .i64 (0)) rfl rfl rfl rfl (by unfold textQ; rw [if_neg (cmp_n hc20)])
set_option maxHeartbeats 4000000 in
set_option maxRecDepth 100000 in
theorem trammellaw03_awake.sem (w : World) : Calls Try.prog 16 #[] w (RetV w (.bool true)) := by
  have Z := Zt.start w (Has.nil w w)
  obtain ⟨tt, htt⟩ : ∃ b : Bool, b = true := ⟨true, rfl⟩
  obtain ⟨ff, hff⟩ : ∃ b : Bool, b = false := ⟨false, rfl⟩
  go_enter Try.func16, Try.ntmps16
  refine wp_seq ?_
  refine wp_region_list ?_
  refine seq_is (v := .bool (false)) rfl (run_assign rfl rfl) ?_
  (try simp only [Act.put, List.setIfInBounds_toArray, List.set_cons_zero, List.set_cons_succ])
  show Code.wp _ _ _ _ _
  refine wp_seq ?_
  refine wp_region_list ?_
  refine seq_call Z rfl rfl Try.func33 rfl rfl (args1 rfl) (Z.callQ (trammellaw03_half.sem (by decide))) ?_; clear Z; intro x1 W Z
  (try simp only [Act.put, List.setIfInBounds_toArray, List.set_cons_zero, List.set_cons_succ])
  refine seq_call Z rfl rfl Try.func32 rfl rfl (args1 rfl) (Z.callIi (rat_Near.sem (Z.own 0 rfl (Bd.fm (Bd.abs (Bd.lit (k := 64) (z := -3) (by decide))) (by decide))) (Z.own 1 rfl (Bd.fm (Bd.abs (Bd.lit (k := 64) (z := 2) (by decide))) (by decide))) (Bd.mono (Bd.lit (k := 64) (z := -3) (by decide)) (by decide)) (Bd.mono (Bd.lit (k := 64) (z := 2) (by decide)) (by decide)) (by decide))) ?_; clear Z; intro x2 W Z
  (try simp only [Act.put, List.setIfInBounds_toArray, List.set_cons_zero, List.set_cons_succ])
  refine seq_is (v := .tuple #[.agg #[.bool (decide (nearZ ((-3 : Int)) ((2 : Int)) < 0)), x2.v], .int .i64 (0)]) rfl (run_move rfl rfl) ?_
  (try simp only [Act.put, List.setIfInBounds_toArray, List.set_cons_zero, List.set_cons_succ])
  refine seq_is (v := .agg #[.bool (decide (nearZ ((-3 : Int)) ((2 : Int)) < 0)), x2.v]) rfl (run_extract rfl rfl rfl) ?_
  (try simp only [Act.put, List.setIfInBounds_toArray, List.set_cons_zero, List.set_cons_succ])
  refine seq_is (v := .int .i64 (0)) rfl (run_extract rfl rfl rfl) ?_
  (try simp only [Act.put, List.setIfInBounds_toArray, List.set_cons_zero, List.set_cons_succ])
  refine seq_alloc Z rfl rfl ?_; clear Z; intro g3 W Z
  (try simp only [Act.put, List.setIfInBounds_toArray, List.set_cons_zero, List.set_cons_succ])
  refine seq_store Z 0 rfl rfl rfl rfl rfl ?_; clear Z; intro W Z
  (try simp only [Act.put, List.setIfInBounds_toArray, List.set_cons_zero, List.set_cons_succ])
  refine seq_is (v := .int .i64 (0)) rfl (run_assign rfl rfl) ?_
  (try simp only [Act.put, List.setIfInBounds_toArray, List.set_cons_zero, List.set_cons_succ])
  show Code.wp _ _ _ _ _
  refine wp_seq ?_
  refine wp_region_list ?_
  refine seq_call Z rfl rfl Try.func33 rfl rfl (args1 rfl) (Z.callQ (trammellaw03_half.sem (by decide))) ?_; clear Z; intro x4 W Z
  (try simp only [Act.put, List.setIfInBounds_toArray, List.set_cons_zero, List.set_cons_succ])
  refine seq_call Z rfl rfl Try.func39 rfl rfl (args1 rfl) (Z.callV (rat_Text.sem (Z.own 0 rfl (Bd.fm (Bd.abs (Bd.lit (k := 64) (z := 2) (by decide))) (by decide))) (Z.own 1 rfl (Bd.fm (Bd.abs (Bd.lit (k := 64) (z := 2) (by decide))) (by decide))) (Bd.mono (Bd.lit (k := 64) (z := 2) (by decide)) (by decide)) (Bd.mono (Bd.lit (k := 64) (z := 2) (by decide)) (by decide)) (by decide))) ?_; clear Z; intro x5 W Z
  (try simp only [Act.put, List.setIfInBounds_toArray, List.set_cons_zero, List.set_cons_succ])
  refine seq_is (v := .tuple #[.string (textQ ((2 : Int)) ((2 : Int))), .int .i64 (0)]) rfl (run_move rfl rfl) ?_
  (try simp only [Act.put, List.setIfInBounds_toArray, List.set_cons_zero, List.set_cons_succ])
  refine seq_is (v := .string (textQ ((2 : Int)) ((2 : Int)))) rfl (run_extract rfl rfl rfl) ?_
  (try simp only [Act.put, List.setIfInBounds_toArray, List.set_cons_zero, List.set_cons_succ])
  refine seq_is (v := .int .i64 (0)) rfl (run_extract rfl rfl rfl) ?_
  (try simp only [Act.put, List.setIfInBounds_toArray, List.set_cons_zero, List.set_cons_succ])
  refine seq_is (v := .string (textQ ((2 : Int)) ((2 : Int)))) rfl (run_assign rfl rfl) ?_
  (try simp only [Act.put, List.setIfInBounds_toArray, List.set_cons_zero, List.set_cons_succ])
  refine seq_is (v := .int .i64 (0)) rfl (run_assign rfl rfl) ?_
  (try simp only [Act.put, List.setIfInBounds_toArray, List.set_cons_zero, List.set_cons_succ])
  show Code.wp _ _ _ _ _
  refine wp_seq ?_
  refine wp_dag (pre := [_, _, _, _, _, _, _, _, _, _, _, _, _, _, _, _]) (sps := [.is (.int .i64 (0)), .is (.bool (decide ((0 : Int) = (0)))), .is (.bool (decide ((0 : Int) = (0)))), .is (.agg #[.bool (decide (nearZ ((-3 : Int)) ((2 : Int)) < 0)), x2.v]), spI w ((-1 : Int)), .is (.bool (true)), .is (.bool (tt)), .is (.bool (tt)), .is (.int .i64 (0)), .is (.bool (decide ((0 : Int) = (0)))), .is (.bool (decide ((0 : Int) = (0)))), .is (.bool (decide ((0 : Int) = (0)))), .is (.string (textQ ((2 : Int)) ((2 : Int)))), .is (.bool (true)), .is (.bool (tt)), .is (.bool (tt))]) Z (by kernel_rfl) _ rfl (by kernel_rfl) (by kernel_rfl) rfl ⟨?_, ?_, ?_, ?_, ?_, ?_, ?_, ?_, ?_, ?_, ?_, ?_, ?_, ?_, ?_, ?_, trivial⟩ ?_
  · intro a e6 W Q Z; exact step_is (fun _ h => op_plain rfl rfl h) (run_move rfl (ev e6))
  · intro a x8 e9 W Q Z; exact step_is (fun _ h => op_plain rfl rfl h) (run_eqlE rfl (ev e9) rfl)
  · intro a x11 e12 W Q Z; exact step_is (fun _ h => op_plain rfl rfl h) (run_move rfl (ev e12))
  · intro a x14 e15 e16 W Q Z; exact step_is (fun _ h => op_want rfl rfl rfl e15 h) (run_load2 rfl (ev e16) (Z.bx 0 rfl))
  · intro a x18 e19 W Q Z; exact step_call (fun _ h => op_want rfl rfl rfl e19 h) rfl Try.func46 rfl rfl (args1 rfl) (Z.callI (trammelref02_Of.sem (by omega) (by omega)))
  · intro a x21 e22 x23 e24 x25 e26 W Q Z; exact step_call (fun _ h => op_want rfl rfl rfl e22 h) rfl Try.func35 rfl rfl (args2 (ev e24) (ev e26)) (Z.callV (wholeI (z1 := nearZ ((-3 : Int)) ((2 : Int))) (z2 := (-1 : Int)) (Z.rdO 3 rfl) (Z.rdO 0 rfl) (Bd.fm (Bd.abs (Bd.near (Bd.lit (k := 64) (z := -3) (by decide)) (Bd.lit (k := 64) (z := 2) (by decide)))) (by decide)) near_32))
  · intro a x28 e29 x30 e31 W Q Z; exact step_is (fun _ h => op_plain rfl rfl h) (run_castR (run_pickT rfl (ev e29) (ev e31)) htt.symm)
  · intro a x33 e34 W Q Z; exact step_is (fun _ h => op_plain rfl rfl h) (run_move rfl (ev e34))
  · intro a x36 e37 e38 W Q Z; exact step_is (fun _ h => op_want rfl rfl rfl (e37.trans (congrArg some (congrArg Value.bool htt))) h) (run_move rfl (ev e38))
  · intro a x40 e41 x42 e43 W Q Z; exact step_is (fun _ h => op_want rfl rfl rfl (e41.trans (congrArg some (congrArg Value.bool htt))) h) (run_eqlE rfl (ev e43) rfl)
  · intro a x45 e46 x47 e48 W Q Z; exact step_is (fun _ h => op_plain rfl rfl h) (run_pickT rfl ((show _ = Value.bool (tt) from (ev e46)).trans (congrArg Value.bool htt)) (ev e48))
  · intro a x50 e51 W Q Z; exact step_is (fun _ h => op_plain rfl rfl h) (run_move rfl (ev e51))
  · intro a x53 e54 e55 W Q Z; exact step_is (fun _ h => op_want rfl rfl rfl e54 h) (run_move rfl (ev e55))
  · intro a x57 e58 x59 e60 W Q Z; exact step_is (fun _ h => op_want rfl rfl rfl e58 h) (run_eqlS text_22 rfl (ev e60) rfl)
  · intro a x62 e63 x64 e65 W Q Z; exact step_is (fun _ h => op_plain rfl rfl h) (run_castR (run_pickT rfl (ev e63) (ev e65)) htt.symm)
  · intro a x67 e68 W Q Z; exact step_is (fun _ h => op_plain rfl rfl h) (run_assign rfl (ev e68))
  clear Z; intro x7 x10 x13 x17 x20 x27 x32 x35 x39 x44 x49 x52 x56 x61 x66 x69 W Z
  (try simp only [Act.put, List.setIfInBounds_toArray, List.set_cons_zero, List.set_cons_succ])
  show Code.wp _ _ _ _ _
  refine wp_ret ?_
  exact Z.endsV rfl rfl rfl (congrArg Value.bool htt)
theorem whole_self {w : World} {b : Bool} {v1 v2 : Value} {l : List Int} (m1 : Rd w v1 l) (m2 : Rd w v2 l) (hl : l.length ≤ 10000000) : Calls Try.prog 35 #[.agg #[.bool b, v1], .agg #[.bool b, v2]] w (RetV w (.bool true)) := by
  have h := trammellaw03_whole.sem (b1 := b) (b2 := b) m1 m2 (by omega)
  simpa using h
set_option maxHeartbeats 4000000 in
set_option maxRecDepth 100000 in
theorem same_self {w : World} {b1 b2 : Bool} {v1 v2 v3 v4 : Value} {l1 l2 : List Int} (m1 : Rd w v1 l1) (m2 : Rd w v2 l2) (m3 : Rd w v3 l1) (m4 : Rd w v4 l2) (hl1 : l1.length ≤ 10000000) (hl2 : l2.length ≤ 10000000) : Calls Try.prog 15 #[.agg #[.bool b1, v1, .bool b2, v2], .agg #[.bool b1, v3, .bool b2, v4]] w (RetV w (.bool true)) := by
  obtain ⟨A1, c1, rfl, hc1, hC1⟩ := id m1
  obtain ⟨A2, c2, rfl, hc2, hC2⟩ := id m2
  obtain ⟨A3, c3, rfl, hc3, hC3⟩ := id m3
  obtain ⟨A4, c4, rfl, hc4, hC4⟩ := id m4
  have Z := Zt.start w (m1.has.append (m2.has.append (m3.has.append m4.has)))
  clear hC1 hC2 hC3 hC4
  obtain ⟨tt, htt⟩ : ∃ b : Bool, b = true := ⟨true, rfl⟩
  obtain ⟨ff, hff⟩ : ∃ b : Bool, b = false := ⟨false, rfl⟩
  go_enter Try.func15, Try.ntmps15
  refine wp_seq ?_
  refine wp_region_list ?_
  refine seq_box4 Z rfl rfl rfl ?_; clear Z; intro g1 W Z
  (try simp only [Act.put, List.setIfInBounds_toArray, List.set_cons_zero, List.set_cons_succ])
  refine seq_box4 Z rfl rfl rfl ?_; clear Z; intro g2 W Z
  (try simp only [Act.put, List.setIfInBounds_toArray, List.set_cons_zero, List.set_cons_succ])
  refine seq_is (v := .bool (false)) rfl (run_assign rfl rfl) ?_
  (try simp only [Act.put, List.setIfInBounds_toArray, List.set_cons_zero, List.set_cons_succ])
  show Code.wp _ _ _ _ _
  refine wp_seq ?_
  refine wp_region_list ?_
  refine seq_is (v := .pointer (some ⟨g1, 0, none⟩)) rfl (run_fieldR0 rfl rfl) ?_
  (try simp only [Act.put, List.setIfInBounds_toArray, List.set_cons_zero, List.set_cons_succ])
  refine seq_is (v := .agg #[.bool (b1), .slice A1 l1.length c1]) rfl (run_loadNum rfl rfl (Z.bx 1 rfl)) ?_
  (try simp only [Act.put, List.setIfInBounds_toArray, List.set_cons_zero, List.set_cons_succ])
  refine seq_is (v := .pointer (some ⟨g2, 0, none⟩)) rfl (run_fieldR0 rfl rfl) ?_
  (try simp only [Act.put, List.setIfInBounds_toArray, List.set_cons_zero, List.set_cons_succ])
  refine seq_is (v := .agg #[.bool (b1), .slice A3 l1.length c3]) rfl (run_loadNum rfl rfl (Z.bx 0 rfl)) ?_
  (try simp only [Act.put, List.setIfInBounds_toArray, List.set_cons_zero, List.set_cons_succ])
  refine seq_call Z rfl rfl Try.func35 rfl rfl (args2 rfl rfl) (Z.callV (whole_self (Z.rd 0 rfl) (Z.rd 2 rfl) hl1)) ?_; clear Z; intro x3 W Z
  (try simp only [Act.put, List.setIfInBounds_toArray, List.set_cons_zero, List.set_cons_succ])
  refine seq_is (v := .bool (true)) rfl (run_move rfl rfl) ?_
  (try simp only [Act.put, List.setIfInBounds_toArray, List.set_cons_zero, List.set_cons_succ])
  refine list_want rfl rfl (congrArg some (congrArg Value.bool (Eq.refl true))) (wp_run (v := .pointer (some ⟨g1, 2, none⟩)) (run_fieldR1 rfl rfl) ?_)
  (try simp only [Act.put, List.setIfInBounds_toArray, List.set_cons_zero, List.set_cons_succ])
  refine list_want rfl rfl (congrArg some (congrArg Value.bool (Eq.refl true))) (wp_run (v := .agg #[.bool (b2), .slice A2 l2.length c2]) (run_loadDen rfl rfl (Z.bx 1 rfl)) ?_)
  (try simp only [Act.put, List.setIfInBounds_toArray, List.set_cons_zero, List.set_cons_succ])
  refine list_want rfl rfl (congrArg some (congrArg Value.bool (Eq.refl true))) (wp_run (v := .pointer (some ⟨g2, 2, none⟩)) (run_fieldR1 rfl rfl) ?_)
  (try simp only [Act.put, List.setIfInBounds_toArray, List.set_cons_zero, List.set_cons_succ])
  refine list_want rfl rfl (congrArg some (congrArg Value.bool (Eq.refl true))) (wp_run (v := .agg #[.bool (b2), .slice A4 l2.length c4]) (run_loadDen rfl rfl (Z.bx 0 rfl)) ?_)
  (try simp only [Act.put, List.setIfInBounds_toArray, List.set_cons_zero, List.set_cons_succ])
  refine seq_callw Z (fun h => list_want rfl rfl (congrArg some (congrArg Value.bool (Eq.refl true))) h) rfl Try.func35 rfl rfl (args2 rfl rfl) (Z.callV (whole_self (Z.rd 1 rfl) (Z.rd 3 rfl) hl2)) ?_; clear Z; intro x4 W Z
  (try simp only [Act.put, List.setIfInBounds_toArray, List.set_cons_zero, List.set_cons_succ])
  refine seq_is (v := .bool (tt)) rfl (run_castR (run_pickT rfl rfl rfl) htt.symm) ?_
  (try simp only [Act.put, List.setIfInBounds_toArray, List.set_cons_zero, List.set_cons_succ])
  refine seq_is (v := .bool (tt)) rfl (run_assign rfl rfl) ?_
  (try simp only [Act.put, List.setIfInBounds_toArray, List.set_cons_zero, List.set_cons_succ])
  show Code.wp _ _ _ _ _
  refine wp_ret ?_
  exact Z.endsV rfl rfl rfl (congrArg Value.bool htt)
theorem sameQ {w : World} {v1 v2 v3 v4 : Value} {z1 z2 y1 y2 : Int} (m1 : Rd w v1 (mg z1)) (m2 : Rd w v2 (mg y1)) (m3 : Rd w v3 (mg z2)) (m4 : Rd w v4 (mg y2)) (f1 : Fm ((z1.natAbs : Nat))) (f2 : Fm ((y1.natAbs : Nat))) (e : z1 = z2) (e2 : y1 = y2) : Calls Try.prog 15 #[.agg #[.bool (decide (z1 < 0)), v1, .bool (decide (y1 < 0)), v2], .agg #[.bool (decide (z2 < 0)), v3, .bool (decide (y2 < 0)), v4]] w (RetV w (.bool true)) := by
  subst e e2
  exact same_self m1 m2 m3 m4 f1 f2
end Go.Proofs.Ytndopanohhdfgaa.PA


/- Add, Sub, Mul, Div of layer 3 and of the document. -/
namespace Go.Proofs.Ytndopanohhdfgaa.PA
open Go Go.Proofs.Ytndopanohhdfgaa.Nums Go.RowKit Go.Proofs.YtndopanohhdfgaaW.PrintWords Go.Proofs.YtndopanohhdfgaaW.PrintLast Go.Proofs.YtndopanohhdfgaaW.PrintMore
set_option linter.unusedVariables false
set_option linter.unusedSimpArgs false
end Go.Proofs.Ytndopanohhdfgaa.PA


/- Floor, Near, Dist of layer 3 and of the document. -/
namespace Go.Proofs.Ytndopanohhdfgaa.PA
open Go Go.Proofs.Ytndopanohhdfgaa.Nums Go.RowKit Go.Proofs.YtndopanohhdfgaaW.PrintWords Go.Proofs.YtndopanohhdfgaaW.PrintLast Go.Proofs.YtndopanohhdfgaaW.PrintMore
set_option linter.unusedVariables false
set_option linter.unusedSimpArgs false
theorem qn_idem {x y : Int} (h : 0 < y) : qn (qn x y) (qd x y) = qn x y ∧ qd (qn x y) (qd x y) = qd x y := q_eq (pos_ne (qd_pos (pos_ne h))) (pos_ne h) (q_cross (pos_ne h))
set_option maxHeartbeats 4000000 in
set_option maxRecDepth 100000 in
theorem rat_Text.semF {w : World} {b1 : Bool} {v1 : Value} {z1 : Int} {b2 : Bool} {v2 : Value} {z2 : Int} (m1 : NumV w b1 v1 z1) (m2 : NumV w b2 v2 z2) (hn : ¬ 0 < z2) : Calls Try.prog 39 #[.agg #[.bool b1, v1, .bool b2, v2]] w (RetV w (.tuple #[.string ⟨#[]⟩, .int .i64 30])) := by
  obtain ⟨A1, n1, c1, rfl⟩ := m1.form
  obtain ⟨A2, n2, c2, rfl⟩ := m2.form
  have Z := Zt.start w (m1.has.append m2.has)
  go_enter Try.func39, Try.ntmps39
  refine wp_seq ?_
  refine wp_region_list ?_
  refine seq_box4 Z rfl rfl rfl ?_; clear Z; intro g1 W Z
  (try simp only [Act.put, List.setIfInBounds_toArray, List.set_cons_zero, List.set_cons_succ])
  refine seq_is (v := .string (⟨#[]⟩ : ByteArray)) rfl (run_assign rfl rfl) ?_
  (try simp only [Act.put, List.setIfInBounds_toArray, List.set_cons_zero, List.set_cons_succ])
  refine seq_is (v := .int .i64 (0)) rfl (run_assign rfl rfl) ?_
  (try simp only [Act.put, List.setIfInBounds_toArray, List.set_cons_zero, List.set_cons_succ])
  show Code.wp _ _ _ _ _
  refine wp_seq ?_
  refine wp_seq ?_
  refine wp_region_list ?_
  refine seq_is (v := .agg #[.bool (b1), .slice A1 n1 c1, .bool (b2), .slice A2 n2 c2]) rfl (run_load4 rfl rfl (Z.bx 0 rfl)) ?_
  (try simp only [Act.put, List.setIfInBounds_toArray, List.set_cons_zero, List.set_cons_succ])
  refine seq_rowR1 Z rfl rfl rfl ?_; clear Z; intro g2 W Z
  (try simp only [Act.put, List.setIfInBounds_toArray, List.set_cons_zero, List.set_cons_succ])
  refine seq_call Z rfl rfl Try.func41 rfl rfl (args1 rfl) (Z.callV (rat_valid.sem1 (Z.num 0 rfl) (Z.num 1 rfl) (Z.bx 0 rfl).2.2)) ?_; clear Z; intro x3 W Z
  (try simp only [Act.put, List.setIfInBounds_toArray, List.set_cons_zero, List.set_cons_succ])
  refine seq_is (v := .int .i64 (okE1 (z2))) rfl (run_assign rfl rfl) ?_
  (try simp only [Act.put, List.setIfInBounds_toArray, List.set_cons_zero, List.set_cons_succ])
  show Code.wp _ _ _ _ _
  refine wp_seq ?_
  refine wp_region_list ?_
  refine seq_is (v := .int .i64 (okE1 (z2))) rfl (run_move rfl rfl) ?_
  (try simp only [Act.put, List.setIfInBounds_toArray, List.set_cons_zero, List.set_cons_succ])
  refine seq_is (v := .bool (decide ((okE1 (z2)) ≠ (0)))) rfl (run_neqE rfl rfl rfl) ?_
  (try simp only [Act.put, List.setIfInBounds_toArray, List.set_cons_zero, List.set_cons_succ])
  show Code.wp _ _ _ _ _
  refine wp_cond_true ((show _ = Value.bool (decide ((okE1 (z2)) ≠ (0))) from rfl).trans (congrArg Value.bool (okE1_f hn))) ?_
  refine wp_seq ?_
  refine wp_region_list ?_
  refine seq_is (v := .int .i64 (okE1 (z2))) rfl (run_move rfl rfl) ?_
  (try simp only [Act.put, List.setIfInBounds_toArray, List.set_cons_zero, List.set_cons_succ])
  refine seq_is (v := .string (⟨#[]⟩ : ByteArray)) rfl (run_assign rfl rfl) ?_
  (try simp only [Act.put, List.setIfInBounds_toArray, List.set_cons_zero, List.set_cons_succ])
  refine seq_is (v := .int .i64 (okE1 (z2))) rfl (run_assign rfl rfl) ?_
  (try simp only [Act.put, List.setIfInBounds_toArray, List.set_cons_zero, List.set_cons_succ])
  show Code.wp _ _ _ _ _
  refine wp_ret ?_
  exact Z.endsV2 (u := .string (⟨#[]⟩ : ByteArray)) (v := .int .i64 (okE1 (z2))) rfl rfl rfl rfl (by rw [okE1_30 hn])
end Go.Proofs.Ytndopanohhdfgaa.PA

