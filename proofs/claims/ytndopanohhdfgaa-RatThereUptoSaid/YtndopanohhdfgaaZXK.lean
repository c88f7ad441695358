/- Texts of rationals: single operations on texts; digits that lie in a text; plain. -/
import Derived.Outline
import Derived.Test.YtndopanohhdfgaaZOK
import Derived.Test.YtndopanohhdfgaaZYK
import Derived.Test.YtndopanohhdfgaaPAx0K
import Derived.Test.YtndopanohhdfgaaZWK
namespace Go.Proofs.Ytndopanohhdfgaa.PA
open Go Go.Proofs.Ytndopanohhdfgaa.Nums Go.RowKit Go.Proofs.YtndopanohhdfgaaW.PrintWords Go.Proofs.YtndopanohhdfgaaW.PrintLast Go.Proofs.YtndopanohhdfgaaW.PrintMore
set_option linter.unusedVariables false
set_option linter.unusedSimpArgs false
section
variable {a : Act} {o : Oper} {W : World} {p q r : Operand}
theorem run_cutT {s : ByteArray} {j : Nat} (hj : j ≤ s.size) (ho : o.op = .slice 9 p none (some q) none) (he : a.eval p = .string s) (he2 : a.eval q = .int .i64 (j : Int)) : (execOp a.eval o).run Try.prog W = .ok (.value (.string (s.extract 0 j))) W := by
  unfold execOp
  simp only [ho, he, Option.map_some, he2]
  go_simp
  try omega
theorem run_cutM {s : ByteArray} {i j : Nat} (hi : i ≤ j) (hj : j ≤ s.size) (ho : o.op = .slice 9 p (some q) (some r) none) (he : a.eval p = .string s) (he2 : a.eval q = .int .i64 (i : Int)) (he3 : a.eval r = .int .i64 (j : Int)) : (execOp a.eval o).run Try.prog W = .ok (.value (.string (s.extract i j))) W := by
  unfold execOp
  simp only [ho, he, Option.map_some, he2, he3]
  go_simp
  try omega
theorem run_leqY {x y : Int} (ho : o.op = .binOp .leq 5 p q 5) (he : a.eval p = .int .u8 x) (he2 : a.eval q = .int .u8 y) : (execOp a.eval o).run Try.prog W = .ok (.value (.bool (decide (x ≤ y)))) W := by
  unfold execOp
  simp only [ho, he, he2]
  go_simp
theorem run_neqY {x y : Int} (ho : o.op = .binOp .neq 5 p q 5) (he : a.eval p = .int .u8 x) (he2 : a.eval q = .int .u8 y) : (execOp a.eval o).run Try.prog W = .ok (.value (.bool (decide (x ≠ y)))) W := by
  unfold execOp
  simp only [ho, he, he2]
  go_simp
  try (first | rfl | (by_cases h : x = y <;> simp [h]))
theorem run_conv8 {x y : Int} (h : IntKind.i64.wrap x = y) (ho : o.op = .convert 5 2 p) (he : a.eval p = .int .u8 x) : (execOp a.eval o).run Try.prog W = .ok (.value (.int .i64 y)) W := by
  subst h
  unfold execOp
  simp only [ho, he]
  go_simp
theorem run_eqlS_f {x y : ByteArray} (h : x ≠ y) (ho : o.op = .binOp .eql 9 p q 9) (he : a.eval p = .string x) (he2 : a.eval q = .string y) : (execOp a.eval o).run Try.prog W = .ok (.value (.bool false)) W := by
  unfold execOp
  simp only [ho, he, he2]
  go_simp
  intro e
  rw [ByteArray.toList_eq, ByteArray.toList_eq] at e
  exact h (ByteArray.ext (Array.toList_inj.mp e))
theorem run_subN {x y z : Nat} (h : x = y + z) (hx : x < 4611686018427387904) (ho : o.op = .binOp .sub 3 p q 3) (he : a.eval p = .int .i64 (x : Int)) (he2 : a.eval q = .int .i64 (y : Int)) : (execOp a.eval o).run Try.prog W = .ok (.value (.int .i64 (z : Int))) W := by
  have e := run_sub (W := W) ho he he2
  rw [w64 (by omega) (by omega)] at e
  rw [e, show (x : Int) - (y : Int) = (z : Int) by omega]
theorem run_incN {i j : Nat} (h : j = i + 1) (hi : i < 4611686018427387904) (ho : o.op = .binOp .add 3 p q 3) (he : a.eval p = .int .i64 (i : Int)) (he2 : a.eval q = .int .i64 1) : (execOp a.eval o).run Try.prog W = .ok (.value (.int .i64 (j : Int))) W := by
  have e := run_add (W := W) ho he he2
  rw [w64 (by omega) (by omega)] at e
  rw [e, show (i : Int) + 1 = (j : Int) by omega]
end
theorem bt_ex {s : ByteArray} {i j k : Nat} (hk : k < j - i) (hj : j ≤ s.size) : bt (s.extract i j) (k : Int) = bt s ((i + k : Nat) : Int) := by
  have hs : (s.extract i j).size = j - i := by simp; omega
  unfold bt
  rw [show ((k : Int)).toNat = k by omega, show (((i + k : Nat) : Int)).toNat = i + k by omega]
  rw [dif_pos (by omega), dif_pos (show i + k < s.size by omega)]
  congr 2
  rw [ByteArray.getElem_extract]
theorem ex_size {s : ByteArray} {i j : Nat} (hj : j ≤ s.size) : (s.extract i j).size = j - i := by simp; omega
theorem bt_l {s t : ByteArray} {k : Nat} (h : k < s.size) : bt (s ++ t) (k : Int) = bt s (k : Int) := by
  unfold bt
  rw [show ((k : Int)).toNat = k by omega, dif_pos (by rw [ByteArray.size_append]; omega), dif_pos h]
  rw [ByteArray.getElem_append_left h]
theorem bt_r {s t : ByteArray} {k : Nat} (h : k < t.size) : bt (s ++ t) ((s.size + k : Nat) : Int) = bt t (k : Int) := by
  unfold bt
  rw [show ((k : Int)).toNat = k by omega, show (((s.size + k : Nat) : Int)).toNat = s.size + k by omega, dif_pos (by rw [ByteArray.size_append]; omega), dif_pos h]
  rw [ByteArray.getElem_append_right (by omega)]
  congr 2
  simp
/-- the digits of x lie in s from a place on -/
structure Dg (s : ByteArray) (at_ L : Nat) (x : Int) : Prop where
  fit : at_ + L ≤ s.size
  pos : 0 < L
  nn : 0 ≤ x
  lt : x < 10 ^ L
  big : L = 1 ∨ 10 ^ (L - 1) ≤ x
  dig : ∀ i, i < L → bt s ((at_ + i : Nat) : Int) = 48 + x / 10 ^ (L - 1 - i) % 10
theorem Dg.rng {s : ByteArray} {k L : Nat} {x : Int} (h : Dg s k L x) {i : Nat} (hi : i < L) : 48 ≤ bt s ((k + i : Nat) : Int) ∧ bt s ((k + i : Nat) : Int) ≤ 57 := by
  rw [h.dig i hi]
  have h1 := Int.emod_nonneg (x / 10 ^ (L - 1 - i)) (show (10 : Int) ≠ 0 by decide)
  have h2 := Int.emod_lt_of_pos (x / 10 ^ (L - 1 - i)) (show (0 : Int) < 10 by decide)
  omega
theorem Dg.first {s : ByteArray} {k L : Nat} {x : Int} (h : Dg s k L x) (hx : 1 < L ∨ 0 < x) : bt s (k : Int) ≠ 48 := by
  have e := h.dig 0 h.pos
  rw [Nat.add_zero, Nat.sub_zero] at e
  rw [e]
  have hb : (10 : Int) ^ (L - 1) ≤ x := by
    rcases h.big with h1 | h1
    · rw [h1]
      show (10 : Int) ^ 0 ≤ x
      rw [Int.pow_zero]
      omega
    · exact h1
  have hp : (0 : Int) < 10 ^ (L - 1) := Int.pow_pos (by decide)
  have hl : x < 10 * 10 ^ (L - 1) := by
    have h2 := h.lt
    rw [show L = (L - 1) + 1 by have := h.pos; omega, Int.pow_succ, Int.mul_comm] at h2
    exact h2
  have d1 : 1 ≤ x / 10 ^ (L - 1) := (Int.le_ediv_iff_mul_le hp).mpr (by omega)
  have d2 : x / 10 ^ (L - 1) < 10 := Int.ediv_lt_of_lt_mul hp hl
  omega
theorem Dg.left {s t : ByteArray} {k L : Nat} {x : Int} (h : Dg s k L x) : Dg (s ++ t) k L x :=
  ⟨by rw [ByteArray.size_append]; have := h.fit; omega, h.pos, h.nn, h.lt, h.big, fun i hi => by rw [bt_l (by have := h.fit; omega)]; exact h.dig i hi⟩
theorem Dg.right {s t : ByteArray} {k L : Nat} {x : Int} (h : Dg t k L x) : Dg (s ++ t) (s.size + k) L x :=
  ⟨by rw [ByteArray.size_append]; have := h.fit; omega, h.pos, h.nn, h.lt, h.big, fun i hi => by rw [Nat.add_assoc, bt_r (by have := h.fit; omega)]; exact h.dig i hi⟩
theorem text_dg {x : Int} (h0 : 0 ≤ x) : Dg (textOf x) 0 (textOf x).size x := by
  by_cases hx : x = 0
  · subst hx
    have hs : (textOf 0).size = 1 := rfl
    rw [hs]
    refine ⟨by rw [hs]; omega, by omega, by omega, by decide, .inl rfl, fun i hi => ?_⟩
    have : i = 0 := by omega
    subst this
    decide
  · obtain ⟨n, hn⟩ : ∃ n : Nat, x = (n : Int) := ⟨x.toNat, by omega⟩
    have ht : textOf x = strOfNums (digs n).reverse := by
      unfold textOf
      rw [if_neg hx, hn]
      rfl
    have hs : (textOf x).size = (digs n).length := by rw [ht, str_size, List.length_reverse]
    have d1 := digs_lt n
    have d2 := digs_ge (n := n) (by omega)
    have hl : 0 < (digs n).length := by
      rw [digs_pos (by omega)]
      simp
    have c1 : ∀ k : Nat, (10 : Int) ^ k = ((10 ^ k : Nat) : Int) := fun k => by rw [Int.natCast_pow]; rfl
    rw [hs]
    refine ⟨by rw [hs]; omega, hl, h0, by rw [c1, hn]; exact Int.ofNat_lt.mpr d1, .inr (by rw [c1, hn]; exact Int.ofNat_le.mpr d2), fun i hi => ?_⟩
    rw [ht, Nat.zero_add, text_at hi, c1, hn]
    rw [Int.natCast_add, Int.natCast_emod, Int.natCast_ediv]
    rfl
theorem Dg.uniq {s t : ByteArray} {k k2 L M : Nat} {x : Int} (h : Dg s k L x) (h2 : Dg t k2 M x) : L = M := by
  have key : ∀ {a b : Nat}, (a = 1 ∨ (10 : Int) ^ (a - 1) ≤ x) → 0 < b → x < 10 ^ b → a ≤ b := by
    intro a b ha hb hx
    rcases ha with ha | ha
    · omega
    · rcases Nat.lt_or_ge b a with h3 | h3
      · have h4 : (10 : Int) ^ b ≤ 10 ^ (a - 1) := by
          have c1 : ∀ k : Nat, (10 : Int) ^ k = ((10 ^ k : Nat) : Int) := fun k => by rw [Int.natCast_pow]; rfl
          rw [c1, c1]
          exact Int.ofNat_le.mpr (Nat.pow_le_pow_right (by decide) (by omega))
        omega
      · exact h3
  exact Nat.le_antisymm (key h.big h2.pos h2.lt) (key h2.big h.pos h.lt)
theorem Dg.cut {s : ByteArray} {k L : Nat} {x : Int} (h : Dg s k L x) : s.extract k (k + L) = textOf x := by
  have ht := text_dg h.nn
  have hu := h.uniq ht
  refine bytes_ext (by rw [ex_size h.fit]; omega) (fun i hi => ?_)
  rw [ex_size h.fit] at hi
  rw [bt_ex (by omega) h.fit, h.dig i (by omega)]
  have := ht.dig i (by omega)
  rw [Nat.zero_add] at this
  rw [this, ← hu]
/-- the first K digits -/
theorem Dg.pre {s : ByteArray} {k L K D : Nat} {x : Int} (h : Dg s k L x) (hK : 0 < K) (hD : K + D = L) : Dg s k K (x / 10 ^ D) := by
  have hp : ∀ n : Nat, (0 : Int) < 10 ^ n := fun n => Int.pow_pos (by decide)
  have hf := h.fit
  refine ⟨by omega, hK, Int.ediv_nonneg h.nn (Int.le_of_lt (hp D)), ?_, ?_, fun i hi => ?_⟩
  · refine Int.ediv_lt_of_lt_mul (hp D) ?_
    rw [← Int.pow_add, hD]
    exact h.lt
  · rcases h.big with h1 | h1
    · exact .inl (by omega)
    · refine .inr ((Int.le_ediv_iff_mul_le (hp D)).mpr ?_)
      rw [← Int.pow_add, show K - 1 + D = L - 1 by omega]
      exact h1
  · rw [h.dig i (by omega), Int.ediv_ediv_of_nonneg (Int.le_of_lt (hp D)), ← Int.pow_add, show D + (K - 1 - i) = L - 1 - i by omega]
theorem Dg.step {s : ByteArray} {L : Nat} {x : Int} (h : Dg s 0 L x) {i : Nat} (hi : i < L) : x / 10 ^ (L - (i + 1)) = x / 10 ^ (L - i) * 10 + (bt s (i : Int) - 48) := by
  have e := h.dig i hi
  rw [Nat.zero_add] at e
  rw [e, show L - i = L - (i + 1) + 1 by omega, Int.pow_succ, ← Int.ediv_ediv_of_nonneg (Int.le_of_lt (Int.pow_pos (by decide))), show L - 1 - i = L - (i + 1) by omega]
  omega
end Go.Proofs.Ytndopanohhdfgaa.PA


/- HasPrefix, digits and number of layer 3. -/
namespace Go.Proofs.Ytndopanohhdfgaa.PA
open Go Go.Proofs.Ytndopanohhdfgaa.Nums Go.RowKit Go.Proofs.YtndopanohhdfgaaW.PrintWords Go.Proofs.YtndopanohhdfgaaW.PrintLast Go.Proofs.YtndopanohhdfgaaW.PrintMore
set_option linter.unusedVariables false
set_option linter.unusedSimpArgs false
theorem run_lenK {a : Act} {o : Oper} {W : World} {p : Operand} {s : ByteArray} {z : Int} (h : ((s.size : Nat) : Int) = z) (ho : o.op = .call { callee := .builtin .len, args := #[p], argTypes := #[9] }) (he : a.eval p = .string s) : (execOp a.eval o).run Try.prog W = .ok (.value (.int .i64 z)) W := by
  subst h
  exact run_lenS ho he
theorem u8_w {x : Int} (h0 : 0 ≤ x) (h1 : x < 256) : IntKind.u8.wrap x = x := by
  unfold IntKind.wrap
  first | (simp [IntKind.signed, IntKind.bits]; omega) | (simp; omega)
theorem i64_s {x : Int} (h0 : -9223372036854775808 ≤ x) (h1 : x ≤ 9223372036854775807) : IntKind.i64.wrap x = x := (i64_w x).trans (w64 (by omega) (by omega))
theorem ex_minus {s : ByteArray} (h0 : 0 < s.size) (h : bt s ((0 : Nat) : Int) = 45) : s.extract 0 1 = (⟨#[45]⟩ : ByteArray) := by
  refine bytes_ext (by rw [ex_size (by omega)]; rfl) (fun i hi => ?_)
  rw [ex_size (by omega)] at hi
  have e : i = 0 := by omega
  subst e
  rw [bt_ex (by omega) (by omega), Nat.zero_add, h]
  decide
theorem ex_minus' {s : ByteArray} (h0 : 0 < s.size) (h : bt s ((0 : Nat) : Int) ≠ 45) : s.extract 0 1 ≠ (⟨#[45]⟩ : ByteArray) := by
  intro e
  have h1 := bt_ex (s := s) (i := 0) (j := 1) (k := 0) (by omega) (by omega)
  rw [e, Nat.zero_add] at h1
  exact h (h1.symm.trans (by decide))
/-- digits at a place of a text: they end there or a slash follows -/
structure Dz (s : ByteArray) (at_ L : Nat) : Prop where
  fit : at_ + L ≤ s.size
  pos : 0 < L
  rng : ∀ i, i < L → 48 ≤ bt s ((at_ + i : Nat) : Int) ∧ bt s ((at_ + i : Nat) : Int) ≤ 57
  first : 1 < L → bt s ((at_ : Nat) : Int) ≠ 48
  stop : at_ + L = s.size ∨ at_ + L < s.size ∧ bt s ((at_ + L : Nat) : Int) = 47
theorem Dz.cases {s : ByteArray} {k L : Nat} (D : Dz s k L) {i : Nat} (hi : i ≤ L) : (i = 0 ∧ k + i < s.size ∧ 0 < L ∧ 48 ≤ bt s ((k + i : Nat) : Int) ∧ bt s ((k + i : Nat) : Int) ≤ 57) ∨ (0 < i ∧ i < L ∧ k + i < s.size ∧ 48 ≤ bt s ((k + i : Nat) : Int) ∧ bt s ((k + i : Nat) : Int) ≤ 57 ∧ bt s ((k : Nat) : Int) ≠ 48) ∨ (i = L ∧ 0 < i ∧ k + i = s.size) ∨ (i = L ∧ 0 < i ∧ k + i < s.size ∧ bt s ((k + i : Nat) : Int) = 47) := by
  have hp := D.pos
  have hf := D.fit
  rcases Nat.lt_or_ge i L with h | h
  · have hr := D.rng i h
    rcases Nat.eq_zero_or_pos i with h0 | h0
    · exact .inl ⟨h0, by omega, hp, hr.1, hr.2⟩
    · exact .inr (.inl ⟨h0, h, by omega, hr.1, hr.2, D.first (by omega)⟩)
  · have e : i = L := by omega
    subst e
    rcases D.stop with h1 | h1
    · exact .inr (.inr (.inl ⟨rfl, hp, h1⟩))
    · exact .inr (.inr (.inr ⟨rfl, hp, h1.1, h1.2⟩))
theorem dig_bd {x : Int} (h : 48 ≤ x ∧ x ≤ 57) : Bd 64 (x - 48) := by
  unfold Bd
  have : (x - 48).natAbs < 2 ^ 8 := by omega
  exact Nat.lt_of_lt_of_le this (Nat.pow_le_pow_right (by decide) (by decide))
set_option maxHeartbeats 4000000 in
set_option maxRecDepth 100000 in
theorem slite_HasPrefix.semt {w : World} {s : ByteArray} (h0 : 0 < s.size) (h1 : bt s ((0 : Nat) : Int) = 45) : Calls Try.prog 98 #[.string s, .string (⟨#[45]⟩ : ByteArray)] w (RetV w (.bool true)) := by
  have Z := Zt.start w (Has.nil w w)
  obtain ⟨tt, htt⟩ : ∃ b : Bool, b = true := ⟨true, rfl⟩
  obtain ⟨ff, hff⟩ : ∃ b : Bool, b = false := ⟨false, rfl⟩
  go_enter Try.func98, Try.ntmps98
  refine wp_seq ?_
  refine wp_region_list ?_
  refine seq_is (v := .bool (false)) rfl (run_assign rfl rfl) ?_
  (try simp only [Act.put, List.setIfInBounds_toArray, List.set_cons_zero, List.set_cons_succ])
  show Code.wp _ _ _ _ _
  refine wp_seq ?_
  refine wp_region_list ?_
  refine seq_is (v := .string s) rfl (run_move rfl rfl) ?_
  (try simp only [Act.put, List.setIfInBounds_toArray, List.set_cons_zero, List.set_cons_succ])
  refine seq_is (v := .int .i64 ((s.size : Nat) : Int)) rfl (run_lenS rfl rfl) ?_
  (try simp only [Act.put, List.setIfInBounds_toArray, List.set_cons_zero, List.set_cons_succ])
  refine seq_is (v := .string (⟨#[45]⟩ : ByteArray)) rfl (run_move rfl rfl) ?_
  (try simp only [Act.put, List.setIfInBounds_toArray, List.set_cons_zero, List.set_cons_succ])
  refine seq_is (v := .int .i64 (1)) rfl (run_lenK rfl rfl rfl) ?_
  (try simp only [Act.put, List.setIfInBounds_toArray, List.set_cons_zero, List.set_cons_succ])
  refine seq_is (v := .bool (decide ((1) ≤ (((s.size : Nat) : Int))))) rfl (run_geq rfl rfl rfl) ?_
  (try simp only [Act.put, List.setIfInBounds_toArray, List.set_cons_zero, List.set_cons_succ])
  refine seq_is (v := .bool (decide ((1) ≤ (((s.size : Nat) : Int))))) rfl (run_move rfl rfl) ?_
  (try simp only [Act.put, List.setIfInBounds_toArray, List.set_cons_zero, List.set_cons_succ])
  refine list_want rfl rfl (congrArg some (congrArg Value.bool (decide_eq_true (by omega)))) (wp_run (v := .string s) (run_move rfl rfl) ?_)
  (try simp only [Act.put, List.setIfInBounds_toArray, List.set_cons_zero, List.set_cons_succ])
  refine list_want rfl rfl (congrArg some (congrArg Value.bool (decide_eq_true (by omega)))) (wp_run (v := .string (⟨#[45]⟩ : ByteArray)) (run_move rfl rfl) ?_)
  (try simp only [Act.put, List.setIfInBounds_toArray, List.set_cons_zero, List.set_cons_succ])
  refine list_want rfl rfl (congrArg some (congrArg Value.bool (decide_eq_true (by omega)))) (wp_run (v := .int .i64 (1)) (run_lenK rfl rfl rfl) ?_)
  (try simp only [Act.put, List.setIfInBounds_toArray, List.set_cons_zero, List.set_cons_succ])
  refine list_want rfl rfl (congrArg some (congrArg Value.bool (decide_eq_true (by omega)))) (wp_run (v := .string (s.extract 0 (1))) (run_cutT (j := 1) (by omega) rfl rfl rfl) ?_)
  (try simp only [Act.put, List.setIfInBounds_toArray, List.set_cons_zero, List.set_cons_succ])
  refine list_want rfl rfl (congrArg some (congrArg Value.bool (decide_eq_true (by omega)))) (wp_run (v := .string (⟨#[45]⟩ : ByteArray)) (run_move rfl rfl) ?_)
  (try simp only [Act.put, List.setIfInBounds_toArray, List.set_cons_zero, List.set_cons_succ])
  refine list_want rfl rfl (congrArg some (congrArg Value.bool (decide_eq_true (by omega)))) (wp_run (v := .bool (true)) (run_eqlS (ex_minus h0 h1) rfl rfl rfl) ?_)
  (try simp only [Act.put, List.setIfInBounds_toArray, List.set_cons_zero, List.set_cons_succ])
  refine seq_is (v := .bool (tt)) rfl (run_castR (run_pickT rfl ((show _ = Value.bool (decide ((1) ≤ (((s.size : Nat) : Int)))) from rfl).trans (congrArg Value.bool (decide_eq_true (by omega)))) rfl) htt.symm) ?_
  (try simp only [Act.put, List.setIfInBounds_toArray, List.set_cons_zero, List.set_cons_succ])
  refine seq_is (v := .bool (tt)) rfl (run_assign rfl rfl) ?_
  (try simp only [Act.put, List.setIfInBounds_toArray, List.set_cons_zero, List.set_cons_succ])
  show Code.wp _ _ _ _ _
  refine wp_ret ?_
  exact Z.endsV rfl rfl rfl (congrArg Value.bool htt)
set_option maxHeartbeats 4000000 in
set_option maxRecDepth 100000 in
theorem strings_HasPrefix.semt {w : World} {s : ByteArray} (h0 : 0 < s.size) (h1 : bt s ((0 : Nat) : Int) = 45) : Calls Try.prog 72 #[.string s, .string (⟨#[45]⟩ : ByteArray)] w (RetV w (.bool true)) := by
  have Z := Zt.start w (Has.nil w w)
  obtain ⟨tt, htt⟩ : ∃ b : Bool, b = true := ⟨true, rfl⟩
  obtain ⟨ff, hff⟩ : ∃ b : Bool, b = false := ⟨false, rfl⟩
  go_enter Try.func72, Try.ntmps72
  refine wp_seq ?_
  refine wp_region_list ?_
  refine seq_is (v := .bool (false)) rfl (run_assign rfl rfl) ?_
  (try simp only [Act.put, List.setIfInBounds_toArray, List.set_cons_zero, List.set_cons_succ])
  show Code.wp _ _ _ _ _
  refine wp_seq ?_
  refine wp_region_list ?_
  refine seq_is (v := .string s) rfl (run_move rfl rfl) ?_
  (try simp only [Act.put, List.setIfInBounds_toArray, List.set_cons_zero, List.set_cons_succ])
  refine seq_is (v := .string (⟨#[45]⟩ : ByteArray)) rfl (run_move rfl rfl) ?_
  (try simp only [Act.put, List.setIfInBounds_toArray, List.set_cons_zero, List.set_cons_succ])
  refine seq_call Z rfl rfl Try.func98 rfl rfl (args2 rfl rfl) (Z.callV (slite_HasPrefix.semt h0 h1)) ?_; clear Z; intro x1 W Z
  (try simp only [Act.put, List.setIfInBounds_toArray, List.set_cons_zero, List.set_cons_succ])
  refine seq_is (v := .bool (true)) rfl (run_assign rfl rfl) ?_
  (try simp only [Act.put, List.setIfInBounds_toArray, List.set_cons_zero, List.set_cons_succ])
  show Code.wp _ _ _ _ _
  refine wp_ret ?_
  exact Z.endsV rfl rfl rfl rfl
set_option maxHeartbeats 4000000 in
set_option maxRecDepth 100000 in
theorem slite_HasPrefix.semf {w : World} {s : ByteArray} (h0 : 0 < s.size) (h1 : bt s ((0 : Nat) : Int) ≠ 45) : Calls Try.prog 98 #[.string s, .string (⟨#[45]⟩ : ByteArray)] w (RetV w (.bool false)) := by
  have Z := Zt.start w (Has.nil w w)
  obtain ⟨tt, htt⟩ : ∃ b : Bool, b = true := ⟨true, rfl⟩
  obtain ⟨ff, hff⟩ : ∃ b : Bool, b = false := ⟨false, rfl⟩
  go_enter Try.func98, Try.ntmps98
  refine wp_seq ?_
  refine wp_region_list ?_
  refine seq_is (v := .bool (false)) rfl (run_assign rfl rfl) ?_
  (try simp only [Act.put, List.setIfInBounds_toArray, List.set_cons_zero, List.set_cons_succ])
  show Code.wp _ _ _ _ _
  refine wp_seq ?_
  refine wp_region_list ?_
  refine seq_is (v := .string s) rfl (run_move rfl rfl) ?_
  (try simp only [Act.put, List.setIfInBounds_toArray, List.set_cons_zero, List.set_cons_succ])
  refine seq_is (v := .int .i64 ((s.size : Nat) : Int)) rfl (run_lenS rfl rfl) ?_
  (try simp only [Act.put, List.setIfInBounds_toArray, List.set_cons_zero, List.set_cons_succ])
  refine seq_is (v := .string (⟨#[45]⟩ : ByteArray)) rfl (run_move rfl rfl) ?_
  (try simp only [Act.put, List.setIfInBounds_toArray, List.set_cons_zero, List.set_cons_succ])
  refine seq_is (v := .int .i64 (1)) rfl (run_lenK rfl rfl rfl) ?_
  (try simp only [Act.put, List.setIfInBounds_toArray, List.set_cons_zero, List.set_cons_succ])
  refine seq_is (v := .bool (decide ((1) ≤ (((s.size : Nat) : Int))))) rfl (run_geq rfl rfl rfl) ?_
  (try simp only [Act.put, List.setIfInBounds_toArray, List.set_cons_zero, List.set_cons_succ])
  refine seq_is (v := .bool (decide ((1) ≤ (((s.size : Nat) : Int))))) rfl (run_move rfl rfl) ?_
  (try simp only [Act.put, List.setIfInBounds_toArray, List.set_cons_zero, List.set_cons_succ])
  refine list_want rfl rfl (congrArg some (congrArg Value.bool (decide_eq_true (by omega)))) (wp_run (v := .string s) (run_move rfl rfl) ?_)
  (try simp only [Act.put, List.setIfInBounds_toArray, List.set_cons_zero, List.set_cons_succ])
  refine list_want rfl rfl (congrArg some (congrArg Value.bool (decide_eq_true (by omega)))) (wp_run (v := .string (⟨#[45]⟩ : ByteArray)) (run_move rfl rfl) ?_)
  (try simp only [Act.put, List.setIfInBounds_toArray, List.set_cons_zero, List.set_cons_succ])
  refine list_want rfl rfl (congrArg some (congrArg Value.bool (decide_eq_true (by omega)))) (wp_run (v := .int .i64 (1)) (run_lenK rfl rfl rfl) ?_)
  (try simp only [Act.put, List.setIfInBounds_toArray, List.set_cons_zero, List.set_cons_succ])
  refine list_want rfl rfl (congrArg some (congrArg Value.bool (decide_eq_true (by omega)))) (wp_run (v := .string (s.extract 0 (1))) (run_cutT (j := 1) (by omega) rfl rfl rfl) ?_)
  (try simp only [Act.put, List.setIfInBounds_toArray, List.set_cons_zero, List.set_cons_succ])
  refine list_want rfl rfl (congrArg some (congrArg Value.bool (decide_eq_true (by omega)))) (wp_run (v := .string (⟨#[45]⟩ : ByteArray)) (run_move rfl rfl) ?_)
  (try simp only [Act.put, List.setIfInBounds_toArray, List.set_cons_zero, List.set_cons_succ])
  refine list_want rfl rfl (congrArg some (congrArg Value.bool (decide_eq_true (by omega)))) (wp_run (v := .bool (false)) (run_eqlS_f (ex_minus' h0 h1) rfl rfl rfl) ?_)
  (try simp only [Act.put, List.setIfInBounds_toArray, List.set_cons_zero, List.set_cons_succ])
  refine seq_is (v := .bool (ff)) rfl (run_castR (run_pickT rfl ((show _ = Value.bool (decide ((1) ≤ (((s.size : Nat) : Int)))) from rfl).trans (congrArg Value.bool (decide_eq_true (by omega)))) rfl) hff.symm) ?_
  (try simp only [Act.put, List.setIfInBounds_toArray, List.set_cons_zero, List.set_cons_succ])
  refine seq_is (v := .bool (ff)) rfl (run_assign rfl rfl) ?_
  (try simp only [Act.put, List.setIfInBounds_toArray, List.set_cons_zero, List.set_cons_succ])
  show Code.wp _ _ _ _ _
  refine wp_ret ?_
  exact Z.endsV rfl rfl rfl (congrArg Value.bool hff)
set_option maxHeartbeats 4000000 in
set_option maxRecDepth 100000 in
theorem strings_HasPrefix.semf {w : World} {s : ByteArray} (h0 : 0 < s.size) (h1 : bt s ((0 : Nat) : Int) ≠ 45) : Calls Try.prog 72 #[.string s, .string (⟨#[45]⟩ : ByteArray)] w (RetV w (.bool false)) := by
  have Z := Zt.start w (Has.nil w w)
  obtain ⟨tt, htt⟩ : ∃ b : Bool, b = true := ⟨true, rfl⟩
  obtain ⟨ff, hff⟩ : ∃ b : Bool, b = false := ⟨false, rfl⟩
  go_enter Try.func72, Try.ntmps72
  refine wp_seq ?_
  refine wp_region_list ?_
  refine seq_is (v := .bool (false)) rfl (run_assign rfl rfl) ?_
  (try simp only [Act.put, List.setIfInBounds_toArray, List.set_cons_zero, List.set_cons_succ])
  show Code.wp _ _ _ _ _
  refine wp_seq ?_
  refine wp_region_list ?_
  refine seq_is (v := .string s) rfl (run_move rfl rfl) ?_
  (try simp only [Act.put, List.setIfInBounds_toArray, List.set_cons_zero, List.set_cons_succ])
  refine seq_is (v := .string (⟨#[45]⟩ : ByteArray)) rfl (run_move rfl rfl) ?_
  (try simp only [Act.put, List.setIfInBounds_toArray, List.set_cons_zero, List.set_cons_succ])
  refine seq_call Z rfl rfl Try.func98 rfl rfl (args2 rfl rfl) (Z.callV (slite_HasPrefix.semf h0 h1)) ?_; clear Z; intro x1 W Z
  (try simp only [Act.put, List.setIfInBounds_toArray, List.set_cons_zero, List.set_cons_succ])
  refine seq_is (v := .bool (false)) rfl (run_assign rfl rfl) ?_
  (try simp only [Act.put, List.setIfInBounds_toArray, List.set_cons_zero, List.set_cons_succ])
  show Code.wp _ _ _ _ _
  refine wp_ret ?_
  exact Z.endsV rfl rfl rfl rfl
set_option maxHeartbeats 4000000 in
set_option maxRecDepth 100000 in
theorem rat_digits.sem {w : World} {s : ByteArray} {at_ L : Nat} (hs : s.size ≤ 131072) (D : Dz s at_ L) : Calls Try.prog 73 #[.string s, .int .i64 ((at_ : Nat) : Int)] w (RetV w (.tuple #[.int .i64 ((at_ + L : Nat) : Int), .bool true])) := by
  have Z := Zt.start w (Has.nil w w)
  obtain ⟨tt, htt⟩ : ∃ b : Bool, b = true := ⟨true, rfl⟩
  obtain ⟨ff, hff⟩ : ∃ b : Bool, b = false := ⟨false, rfl⟩
  go_enter Try.func73, Try.ntmps73
  refine wp_seq ?_
  refine wp_region_list ?_
  refine seq_is (v := .int .i64 (0)) rfl (run_assign rfl rfl) ?_
  (try simp only [Act.put, List.setIfInBounds_toArray, List.set_cons_zero, List.set_cons_succ])
  refine seq_is (v := .bool (false)) rfl (run_assign rfl rfl) ?_
  (try simp only [Act.put, List.setIfInBounds_toArray, List.set_cons_zero, List.set_cons_succ])
  show Code.wp _ _ _ _ _
  refine wp_seq ?_
  refine wp_region_list ?_
  refine seq_is (v := .int .i64 ((at_ : Nat) : Int)) rfl (run_move rfl rfl) ?_
  (try simp only [Act.put, List.setIfInBounds_toArray, List.set_cons_zero, List.set_cons_succ])
  refine seq_is (v := .int .i64 ((at_ : Nat) : Int)) rfl (run_assign rfl rfl) ?_
  (try simp only [Act.put, List.setIfInBounds_toArray, List.set_cons_zero, List.set_cons_succ])
  show Code.wp _ _ _ _ _
  refine wp_seq ?_
  refine wp_block ?_
  refine wp_loop_s (α := Nat) (fun i a W => ∃ (j8_2 j9_2 j10_2 j11_2 j12_2 j13_2 j14_2 j15_2 j16_2 j17_2 j18_2 j19_2 j20_2 j21_2 j22_2 j23_2 j24_2 j25_2 j26_2 j27_2 j28_2 j29_2 j30_2 j31_2 j32_2 j33_2 j34_2 j35_2 j36_2 : Value), a = { tmps := #[.string s, .int .i64 ((at_ + i : Nat) : Int), undef, undef, .int .i64 (0), .bool (false), .int .i64 ((at_ : Nat) : Int), .int .i64 ((at_ : Nat) : Int), j8_2, j9_2, j10_2, j11_2, j12_2, j13_2, j14_2, j15_2, j16_2, j17_2, j18_2, j19_2, j20_2, j21_2, j22_2, j23_2, j24_2, j25_2, j26_2, j27_2, j28_2, j29_2, j30_2, j31_2, j32_2, j33_2, j34_2, j35_2, j36_2, undef, undef, undef, undef], defers := [] } ∧ Zt w W [] [] ∧ (i ≤ L)) (fun i => L - i) 0 ⟨_, _, _, _, _, _, _, _, _, _, _, _, _, _, _, _, _, _, _, _, _, _, _, _, _, _, _, _, _, rfl, (Z.retype (Has.nil _ _)), Nat.zero_le _⟩ ?_
  clear Z; rintro i a W ⟨j8_2, j9_2, j10_2, j11_2, j12_2, j13_2, j14_2, j15_2, j16_2, j17_2, j18_2, j19_2, j20_2, j21_2, j22_2, j23_2, j24_2, j25_2, j26_2, j27_2, j28_2, j29_2, j30_2, j31_2, j32_2, j33_2, j34_2, j35_2, j36_2, rfl, Z, hI⟩
  refine wp_seq ?_
  refine wp_seq ?_
  rcases D.cases hI with ⟨q1, q2, q3, q4, q5⟩ | ⟨q1, q2, q3, q4, q5, q6⟩ | ⟨q1, q2, q3⟩ | ⟨q1, q2, q3, q4⟩
  · refine wp_region_list ?_
    refine seq_is (v := .int .i64 ((at_ + i : Nat) : Int)) rfl (run_move rfl rfl) ?_
    (try simp only [Act.put, List.setIfInBounds_toArray, List.set_cons_zero, List.set_cons_succ])
    refine seq_is (v := .string s) rfl (run_move rfl rfl) ?_
    (try simp only [Act.put, List.setIfInBounds_toArray, List.set_cons_zero, List.set_cons_succ])
    refine seq_is (v := .int .i64 ((s.size : Nat) : Int)) rfl (run_lenS rfl rfl) ?_
    (try simp only [Act.put, List.setIfInBounds_toArray, List.set_cons_zero, List.set_cons_succ])
    refine seq_is (v := .bool (decide ((((at_ + i : Nat) : Int)) < (((s.size : Nat) : Int))))) rfl (run_lss rfl rfl rfl) ?_
    (try simp only [Act.put, List.setIfInBounds_toArray, List.set_cons_zero, List.set_cons_succ])
    refine seq_is (v := .bool (decide ((((at_ + i : Nat) : Int)) < (((s.size : Nat) : Int))))) rfl (run_move rfl rfl) ?_
    (try simp only [Act.put, List.setIfInBounds_toArray, List.set_cons_zero, List.set_cons_succ])
    refine list_want rfl rfl (congrArg some (congrArg Value.bool (decide_eq_true (by omega)))) (wp_run (v := .string s) (run_move rfl rfl) ?_)
    (try simp only [Act.put, List.setIfInBounds_toArray, List.set_cons_zero, List.set_cons_succ])
    refine list_want rfl rfl (congrArg some (congrArg Value.bool (decide_eq_true (by omega)))) (wp_run (v := .int .i64 ((at_ + i : Nat) : Int)) (run_move rfl rfl) ?_)
    (try simp only [Act.put, List.setIfInBounds_toArray, List.set_cons_zero, List.set_cons_succ])
    refine list_want rfl rfl (congrArg some (congrArg Value.bool (decide_eq_true (by omega)))) (wp_run (v := .int .u8 (bt s (((at_ + i : Nat) : Int)))) (run_idxS (by omega) (by omega) rfl rfl rfl) ?_)
    (try simp only [Act.put, List.setIfInBounds_toArray, List.set_cons_zero, List.set_cons_succ])
    refine list_want rfl rfl (congrArg some (congrArg Value.bool (decide_eq_true (by omega)))) (wp_run (v := .bool (decide ((48) ≤ (bt s (((at_ + i : Nat) : Int)))))) (run_leqY rfl rfl rfl) ?_)
    (try simp only [Act.put, List.setIfInBounds_toArray, List.set_cons_zero, List.set_cons_succ])
    refine seq_is (v := .bool (decide ((48) ≤ (bt s (((at_ + i : Nat) : Int)))))) rfl (run_pickT rfl ((show _ = Value.bool (decide ((((at_ + i : Nat) : Int)) < (((s.size : Nat) : Int)))) from rfl).trans (congrArg Value.bool (decide_eq_true (by omega)))) rfl) ?_
    (try simp only [Act.put, List.setIfInBounds_toArray, List.set_cons_zero, List.set_cons_succ])
    refine seq_is (v := .bool (decide ((48) ≤ (bt s (((at_ + i : Nat) : Int)))))) rfl (run_move rfl rfl) ?_
    (try simp only [Act.put, List.setIfInBounds_toArray, List.set_cons_zero, List.set_cons_succ])
    refine list_want rfl rfl (congrArg some (congrArg Value.bool (decide_eq_true (by omega)))) (wp_run (v := .string s) (run_move rfl rfl) ?_)
    (try simp only [Act.put, List.setIfInBounds_toArray, List.set_cons_zero, List.set_cons_succ])
    refine list_want rfl rfl (congrArg some (congrArg Value.bool (decide_eq_true (by omega)))) (wp_run (v := .int .i64 ((at_ + i : Nat) : Int)) (run_move rfl rfl) ?_)
    (try simp only [Act.put, List.setIfInBounds_toArray, List.set_cons_zero, List.set_cons_succ])
    refine list_want rfl rfl (congrArg some (congrArg Value.bool (decide_eq_true (by omega)))) (wp_run (v := .int .u8 (bt s (((at_ + i : Nat) : Int)))) (run_idxS (by omega) (by omega) rfl rfl rfl) ?_)
    (try simp only [Act.put, List.setIfInBounds_toArray, List.set_cons_zero, List.set_cons_succ])
    refine list_want rfl rfl (congrArg some (congrArg Value.bool (decide_eq_true (by omega)))) (wp_run (v := .bool (decide ((bt s (((at_ + i : Nat) : Int))) ≤ (57)))) (run_leqY rfl rfl rfl) ?_)
    (try simp only [Act.put, List.setIfInBounds_toArray, List.set_cons_zero, List.set_cons_succ])
    refine seq_is (v := .bool (decide ((bt s (((at_ + i : Nat) : Int))) ≤ (57)))) rfl (run_pickT rfl ((show _ = Value.bool (decide ((48) ≤ (bt s (((at_ + i : Nat) : Int))))) from rfl).trans (congrArg Value.bool (decide_eq_true (by omega)))) rfl) ?_
    (try simp only [Act.put, List.setIfInBounds_toArray, List.set_cons_zero, List.set_cons_succ])
    refine seq_is (v := .bool (decide ((bt s (((at_ + i : Nat) : Int))) ≤ (57)))) rfl (run_move rfl rfl) ?_
    (try simp only [Act.put, List.setIfInBounds_toArray, List.set_cons_zero, List.set_cons_succ])
    refine list_want rfl rfl (congrArg some (congrArg Value.bool (decide_eq_true (by omega)))) (wp_run (v := .int .i64 ((at_ + i : Nat) : Int)) (run_move rfl rfl) ?_)
    (try simp only [Act.put, List.setIfInBounds_toArray, List.set_cons_zero, List.set_cons_succ])
    refine list_want rfl rfl (congrArg some (congrArg Value.bool (decide_eq_true (by omega)))) (wp_run (v := .int .i64 ((at_ : Nat) : Int)) (run_move rfl rfl) ?_)
    (try simp only [Act.put, List.setIfInBounds_toArray, List.set_cons_zero, List.set_cons_succ])
    refine list_want rfl rfl (congrArg some (congrArg Value.bool (decide_eq_true (by omega)))) (wp_run (v := .bool (decide ((((at_ + i : Nat) : Int)) = (((at_ : Nat) : Int))))) (run_eql rfl rfl rfl) ?_)
    (try simp only [Act.put, List.setIfInBounds_toArray, List.set_cons_zero, List.set_cons_succ])
    refine list_want rfl rfl (congrArg some (congrArg Value.bool (decide_eq_true (by omega)))) (wp_run (v := .bool (decide ((((at_ + i : Nat) : Int)) = (((at_ : Nat) : Int))))) (run_move rfl rfl) ?_)
    (try simp only [Act.put, List.setIfInBounds_toArray, List.set_cons_zero, List.set_cons_succ])
    refine list_unwant rfl rfl (congrArg some (congrArg Value.bool (decide_eq_true (by omega)))) (by decide) ?_
    (try simp only [Act.put, List.setIfInBounds_toArray, List.set_cons_zero, List.set_cons_succ])
    refine list_unwant rfl rfl (congrArg some (congrArg Value.bool (decide_eq_true (by omega)))) (by decide) ?_
    (try simp only [Act.put, List.setIfInBounds_toArray, List.set_cons_zero, List.set_cons_succ])
    refine list_unwant rfl rfl (congrArg some (congrArg Value.bool (decide_eq_true (by omega)))) (by decide) ?_
    (try simp only [Act.put, List.setIfInBounds_toArray, List.set_cons_zero, List.set_cons_succ])
    refine list_unwant rfl rfl (congrArg some (congrArg Value.bool (decide_eq_true (by omega)))) (by decide) ?_
    (try simp only [Act.put, List.setIfInBounds_toArray, List.set_cons_zero, List.set_cons_succ])
    refine list_want rfl rfl (congrArg some (congrArg Value.bool (decide_eq_true (by omega)))) (wp_run (v := .bool (tt)) (run_castR (run_pickT rfl ((show _ = Value.bool (decide ((((at_ + i : Nat) : Int)) = (((at_ : Nat) : Int)))) from rfl).trans (congrArg Value.bool (decide_eq_true (by omega)))) rfl) htt.symm) ?_)
    (try simp only [Act.put, List.setIfInBounds_toArray, List.set_cons_zero, List.set_cons_succ])
    refine seq_is (v := .bool (tt)) rfl (run_pickT rfl ((show _ = Value.bool (decide ((bt s (((at_ + i : Nat) : Int))) ≤ (57))) from rfl).trans (congrArg Value.bool (decide_eq_true (by omega)))) rfl) ?_
    (try simp only [Act.put, List.setIfInBounds_toArray, List.set_cons_zero, List.set_cons_succ])
    show Code.wp _ _ _ _ _
    refine wp_cond_true ((show _ = Value.bool (tt) from rfl).trans (congrArg Value.bool htt)) ?_
    refine wp_skip ?_
    show Code.wp _ _ _ _ _
    refine wp_block ?_
    refine wp_region_list ?_
    refine seq_is (v := .int .i64 ((at_ + i : Nat) : Int)) rfl (run_move rfl rfl) ?_
    (try simp only [Act.put, List.setIfInBounds_toArray, List.set_cons_zero, List.set_cons_succ])
    refine seq_is (v := .int .i64 ((at_ + i + 1 : Nat) : Int)) rfl (run_incN (i := at_ + i) rfl (by omega) rfl rfl rfl) ?_
    (try simp only [Act.put, List.setIfInBounds_toArray, List.set_cons_zero, List.set_cons_succ])
    refine seq_is (v := .int .i64 ((at_ + i + 1 : Nat) : Int)) rfl (run_assign rfl rfl) ?_
    (try simp only [Act.put, List.setIfInBounds_toArray, List.set_cons_zero, List.set_cons_succ])
    exact ⟨i + 1, (show L - (i + 1) < L - i by omega), _, _, _, _, _, _, _, _, _, _, _, _, _, _, _, _, _, _, _, _, _, _, _, _, _, _, _, _, _, rfl, ((Z).retype (Has.nil _ _)), (by omega)⟩
  · refine wp_region_list ?_
    refine seq_is (v := .int .i64 ((at_ + i : Nat) : Int)) rfl (run_move rfl rfl) ?_
    (try simp only [Act.put, List.setIfInBounds_toArray, List.set_cons_zero, List.set_cons_succ])
    refine seq_is (v := .string s) rfl (run_move rfl rfl) ?_
    (try simp only [Act.put, List.setIfInBounds_toArray, List.set_cons_zero, List.set_cons_succ])
    refine seq_is (v := .int .i64 ((s.size : Nat) : Int)) rfl (run_lenS rfl rfl) ?_
    (try simp only [Act.put, List.setIfInBounds_toArray, List.set_cons_zero, List.set_cons_succ])
    refine seq_is (v := .bool (decide ((((at_ + i : Nat) : Int)) < (((s.size : Nat) : Int))))) rfl (run_lss rfl rfl rfl) ?_
    (try simp only [Act.put, List.setIfInBounds_toArray, List.set_cons_zero, List.set_cons_succ])
    refine seq_is (v := .bool (decide ((((at_ + i : Nat) : Int)) < (((s.size : Nat) : Int))))) rfl (run_move rfl rfl) ?_
    (try simp only [Act.put, List.setIfInBounds_toArray, List.set_cons_zero, List.set_cons_succ])
    refine list_want rfl rfl (congrArg some (congrArg Value.bool (decide_eq_true (by omega)))) (wp_run (v := .string s) (run_move rfl rfl) ?_)
    (try simp only [Act.put, List.setIfInBounds_toArray, List.set_cons_zero, List.set_cons_succ])
    refine list_want rfl rfl (congrArg some (congrArg Value.bool (decide_eq_true (by omega)))) (wp_run (v := .int .i64 ((at_ + i : Nat) : Int)) (run_move rfl rfl) ?_)
    (try simp only [Act.put, List.setIfInBounds_toArray, List.set_cons_zero, List.set_cons_succ])
    refine list_want rfl rfl (congrArg some (congrArg Value.bool (decide_eq_true (by omega)))) (wp_run (v := .int .u8 (bt s (((at_ + i : Nat) : Int)))) (run_idxS (by omega) (by omega) rfl rfl rfl) ?_)
    (try simp only [Act.put, List.setIfInBounds_toArray, List.set_cons_zero, List.set_cons_succ])
    refine list_want rfl rfl (congrArg some (congrArg Value.bool (decide_eq_true (by omega)))) (wp_run (v := .bool (decide ((48) ≤ (bt s (((at_ + i : Nat) : Int)))))) (run_leqY rfl rfl rfl) ?_)
    (try simp only [Act.put, List.setIfInBounds_toArray, List.set_cons_zero, List.set_cons_succ])
    refine seq_is (v := .bool (decide ((48) ≤ (bt s (((at_ + i : Nat) : Int)))))) rfl (run_pickT rfl ((show _ = Value.bool (decide ((((at_ + i : Nat) : Int)) < (((s.size : Nat) : Int)))) from rfl).trans (congrArg Value.bool (decide_eq_true (by omega)))) rfl) ?_
    (try simp only [Act.put, List.setIfInBounds_toArray, List.set_cons_zero, List.set_cons_succ])
    refine seq_is (v := .bool (decide ((48) ≤ (bt s (((at_ + i : Nat) : Int)))))) rfl (run_move rfl rfl) ?_
    (try simp only [Act.put, List.setIfInBounds_toArray, List.set_cons_zero, List.set_cons_succ])
    refine list_want rfl rfl (congrArg some (congrArg Value.bool (decide_eq_true (by omega)))) (wp_run (v := .string s) (run_move rfl rfl) ?_)
    (try simp only [Act.put, List.setIfInBounds_toArray, List.set_cons_zero, List.set_cons_succ])
    refine list_want rfl rfl (congrArg some (congrArg Value.bool (decide_eq_true (by omega)))) (wp_run (v := .int .i64 ((at_ + i : Nat) : Int)) (run_move rfl rfl) ?_)
    (try simp only [Act.put, List.setIfInBounds_toArray, List.set_cons_zero, List.set_cons_succ])
    refine list_want rfl rfl (congrArg some (congrArg Value.bool (decide_eq_true (by omega)))) (wp_run (v := .int .u8 (bt s (((at_ + i : Nat) : Int)))) (run_idxS (by omega) (by omega) rfl rfl rfl) ?_)
    (try simp only [Act.put, List.setIfInBounds_toArray, List.set_cons_zero, List.set_cons_succ])
    refine list_want rfl rfl (congrArg some (congrArg Value.bool (decide_eq_true (by omega)))) (wp_run (v := .bool (decide ((bt s (((at_ + i : Nat) : Int))) ≤ (57)))) (run_leqY rfl rfl rfl) ?_)
    (try simp only [Act.put, List.setIfInBounds_toArray, List.set_cons_zero, List.set_cons_succ])
    refine seq_is (v := .bool (decide ((bt s (((at_ + i : Nat) : Int))) ≤ (57)))) rfl (run_pickT rfl ((show _ = Value.bool (decide ((48) ≤ (bt s (((at_ + i : Nat) : Int))))) from rfl).trans (congrArg Value.bool (decide_eq_true (by omega)))) rfl) ?_
    (try simp only [Act.put, List.setIfInBounds_toArray, List.set_cons_zero, List.set_cons_succ])
    refine seq_is (v := .bool (decide ((bt s (((at_ + i : Nat) : Int))) ≤ (57)))) rfl (run_move rfl rfl) ?_
    (try simp only [Act.put, List.setIfInBounds_toArray, List.set_cons_zero, List.set_cons_succ])
    refine list_want rfl rfl (congrArg some (congrArg Value.bool (decide_eq_true (by omega)))) (wp_run (v := .int .i64 ((at_ + i : Nat) : Int)) (run_move rfl rfl) ?_)
    (try simp only [Act.put, List.setIfInBounds_toArray, List.set_cons_zero, List.set_cons_succ])
    refine list_want rfl rfl (congrArg some (congrArg Value.bool (decide_eq_true (by omega)))) (wp_run (v := .int .i64 ((at_ : Nat) : Int)) (run_move rfl rfl) ?_)
    (try simp only [Act.put, List.setIfInBounds_toArray, List.set_cons_zero, List.set_cons_succ])
    refine list_want rfl rfl (congrArg some (congrArg Value.bool (decide_eq_true (by omega)))) (wp_run (v := .bool (decide ((((at_ + i : Nat) : Int)) = (((at_ : Nat) : Int))))) (run_eql rfl rfl rfl) ?_)
    (try simp only [Act.put, List.setIfInBounds_toArray, List.set_cons_zero, List.set_cons_succ])
    refine list_want rfl rfl (congrArg some (congrArg Value.bool (decide_eq_true (by omega)))) (wp_run (v := .bool (decide ((((at_ + i : Nat) : Int)) = (((at_ : Nat) : Int))))) (run_move rfl rfl) ?_)
    (try simp only [Act.put, List.setIfInBounds_toArray, List.set_cons_zero, List.set_cons_succ])
    refine list_want rfl rfl (congrArg some (congrArg Value.bool (decide_eq_false (by omega)))) (wp_run (v := .string s) (run_move rfl rfl) ?_)
    (try simp only [Act.put, List.setIfInBounds_toArray, List.set_cons_zero, List.set_cons_succ])
    refine list_want rfl rfl (congrArg some (congrArg Value.bool (decide_eq_false (by omega)))) (wp_run (v := .int .i64 ((at_ : Nat) : Int)) (run_move rfl rfl) ?_)
    (try simp only [Act.put, List.setIfInBounds_toArray, List.set_cons_zero, List.set_cons_succ])
    refine list_want rfl rfl (congrArg some (congrArg Value.bool (decide_eq_false (by omega)))) (wp_run (v := .int .u8 (bt s (((at_ : Nat) : Int)))) (run_idxS (by omega) (by omega) rfl rfl rfl) ?_)
    (try simp only [Act.put, List.setIfInBounds_toArray, List.set_cons_zero, List.set_cons_succ])
    refine list_want rfl rfl (congrArg some (congrArg Value.bool (decide_eq_false (by omega)))) (wp_run (v := .bool (decide ((bt s (((at_ : Nat) : Int))) ≠ (48)))) (run_neqY rfl rfl rfl) ?_)
    (try simp only [Act.put, List.setIfInBounds_toArray, List.set_cons_zero, List.set_cons_succ])
    refine list_want rfl rfl (congrArg some (congrArg Value.bool (decide_eq_true (by omega)))) (wp_run (v := .bool (decide ((bt s (((at_ : Nat) : Int))) ≠ (48)))) (run_pickF rfl ((show _ = Value.bool (decide ((((at_ + i : Nat) : Int)) = (((at_ : Nat) : Int)))) from rfl).trans (congrArg Value.bool (decide_eq_false (by omega)))) rfl) ?_)
    (try simp only [Act.put, List.setIfInBounds_toArray, List.set_cons_zero, List.set_cons_succ])
    refine seq_is (v := .bool (decide ((bt s (((at_ : Nat) : Int))) ≠ (48)))) rfl (run_pickT rfl ((show _ = Value.bool (decide ((bt s (((at_ + i : Nat) : Int))) ≤ (57))) from rfl).trans (congrArg Value.bool (decide_eq_true (by omega)))) rfl) ?_
    (try simp only [Act.put, List.setIfInBounds_toArray, List.set_cons_zero, List.set_cons_succ])
    show Code.wp _ _ _ _ _
    refine wp_cond_true ((show _ = Value.bool (decide ((bt s (((at_ : Nat) : Int))) ≠ (48))) from rfl).trans (congrArg Value.bool (decide_eq_true (by omega)))) ?_
    refine wp_skip ?_
    show Code.wp _ _ _ _ _
    refine wp_block ?_
    refine wp_region_list ?_
    refine seq_is (v := .int .i64 ((at_ + i : Nat) : Int)) rfl (run_move rfl rfl) ?_
    (try simp only [Act.put, List.setIfInBounds_toArray, List.set_cons_zero, List.set_cons_succ])
    refine seq_is (v := .int .i64 ((at_ + i + 1 : Nat) : Int)) rfl (run_incN (i := at_ + i) rfl (by omega) rfl rfl rfl) ?_
    (try simp only [Act.put, List.setIfInBounds_toArray, List.set_cons_zero, List.set_cons_succ])
    refine seq_is (v := .int .i64 ((at_ + i + 1 : Nat) : Int)) rfl (run_assign rfl rfl) ?_
    (try simp only [Act.put, List.setIfInBounds_toArray, List.set_cons_zero, List.set_cons_succ])
    exact ⟨i + 1, (show L - (i + 1) < L - i by omega), _, _, _, _, _, _, _, _, _, _, _, _, _, _, _, _, _, _, _, _, _, _, _, _, _, _, _, _, _, rfl, ((Z).retype (Has.nil _ _)), (by omega)⟩
  · refine wp_region_list ?_
    refine seq_is (v := .int .i64 ((at_ + i : Nat) : Int)) rfl (run_move rfl rfl) ?_
    (try simp only [Act.put, List.setIfInBounds_toArray, List.set_cons_zero, List.set_cons_succ])
    refine seq_is (v := .string s) rfl (run_move rfl rfl) ?_
    (try simp only [Act.put, List.setIfInBounds_toArray, List.set_cons_zero, List.set_cons_succ])
    refine seq_is (v := .int .i64 ((s.size : Nat) : Int)) rfl (run_lenS rfl rfl) ?_
    (try simp only [Act.put, List.setIfInBounds_toArray, List.set_cons_zero, List.set_cons_succ])
    refine seq_is (v := .bool (decide ((((at_ + i : Nat) : Int)) < (((s.size : Nat) : Int))))) rfl (run_lss rfl rfl rfl) ?_
    (try simp only [Act.put, List.setIfInBounds_toArray, List.set_cons_zero, List.set_cons_succ])
    refine seq_is (v := .bool (decide ((((at_ + i : Nat) : Int)) < (((s.size : Nat) : Int))))) rfl (run_move rfl rfl) ?_
    (try simp only [Act.put, List.setIfInBounds_toArray, List.set_cons_zero, List.set_cons_succ])
    refine list_unwant rfl rfl (congrArg some (congrArg Value.bool (decide_eq_false (by omega)))) (by decide) ?_
    (try simp only [Act.put, List.setIfInBounds_toArray, List.set_cons_zero, List.set_cons_succ])
    refine list_unwant rfl rfl (congrArg some (congrArg Value.bool (decide_eq_false (by omega)))) (by decide) ?_
    (try simp only [Act.put, List.setIfInBounds_toArray, List.set_cons_zero, List.set_cons_succ])
    refine list_unwant rfl rfl (congrArg some (congrArg Value.bool (decide_eq_false (by omega)))) (by decide) ?_
    (try simp only [Act.put, List.setIfInBounds_toArray, List.set_cons_zero, List.set_cons_succ])
    refine list_unwant rfl rfl (congrArg some (congrArg Value.bool (decide_eq_false (by omega)))) (by decide) ?_
    (try simp only [Act.put, List.setIfInBounds_toArray, List.set_cons_zero, List.set_cons_succ])
    refine seq_is (v := .bool (ff)) rfl (run_castR (run_pickF rfl ((show _ = Value.bool (decide ((((at_ + i : Nat) : Int)) < (((s.size : Nat) : Int)))) from rfl).trans (congrArg Value.bool (decide_eq_false (by omega)))) rfl) hff.symm) ?_
    (try simp only [Act.put, List.setIfInBounds_toArray, List.set_cons_zero, List.set_cons_succ])
    refine seq_is (v := .bool (ff)) rfl (run_move rfl rfl) ?_
    (try simp only [Act.put, List.setIfInBounds_toArray, List.set_cons_zero, List.set_cons_succ])
    refine list_unwant rfl rfl (congrArg some (congrArg Value.bool hff)) (by decide) ?_
    (try simp only [Act.put, List.setIfInBounds_toArray, List.set_cons_zero, List.set_cons_succ])
    refine list_unwant rfl rfl (congrArg some (congrArg Value.bool hff)) (by decide) ?_
    (try simp only [Act.put, List.setIfInBounds_toArray, List.set_cons_zero, List.set_cons_succ])
    refine list_unwant rfl rfl (congrArg some (congrArg Value.bool hff)) (by decide) ?_
    (try simp only [Act.put, List.setIfInBounds_toArray, List.set_cons_zero, List.set_cons_succ])
    refine list_unwant rfl rfl (congrArg some (congrArg Value.bool hff)) (by decide) ?_
    (try simp only [Act.put, List.setIfInBounds_toArray, List.set_cons_zero, List.set_cons_succ])
    refine seq_is (v := .bool (ff)) rfl (run_castR (run_pickF rfl ((show _ = Value.bool (ff) from rfl).trans (congrArg Value.bool hff)) rfl) hff.symm) ?_
    (try simp only [Act.put, List.setIfInBounds_toArray, List.set_cons_zero, List.set_cons_succ])
    refine seq_is (v := .bool (ff)) rfl (run_move rfl rfl) ?_
    (try simp only [Act.put, List.setIfInBounds_toArray, List.set_cons_zero, List.set_cons_succ])
    refine list_unwant rfl rfl (congrArg some (congrArg Value.bool hff)) (by decide) ?_
    (try simp only [Act.put, List.setIfInBounds_toArray, List.set_cons_zero, List.set_cons_succ])
    refine list_unwant rfl rfl (congrArg some (congrArg Value.bool hff)) (by decide) ?_
    (try simp only [Act.put, List.setIfInBounds_toArray, List.set_cons_zero, List.set_cons_succ])
    refine list_unwant rfl rfl (congrArg some (congrArg Value.bool hff)) (by decide) ?_
    (try simp only [Act.put, List.setIfInBounds_toArray, List.set_cons_zero, List.set_cons_succ])
    refine list_unwant rfl rfl (congrArg some (congrArg Value.bool hff)) (by decide) ?_
    (try simp only [Act.put, List.setIfInBounds_toArray, List.set_cons_zero, List.set_cons_succ])
    refine list_unwantU rfl rfl rfl ?_
    (try simp only [Act.put, List.setIfInBounds_toArray, List.set_cons_zero, List.set_cons_succ])
    refine list_unwantU rfl rfl rfl ?_
    (try simp only [Act.put, List.setIfInBounds_toArray, List.set_cons_zero, List.set_cons_succ])
    refine list_unwantU rfl rfl rfl ?_
    (try simp only [Act.put, List.setIfInBounds_toArray, List.set_cons_zero, List.set_cons_succ])
    refine list_unwantU rfl rfl rfl ?_
    (try simp only [Act.put, List.setIfInBounds_toArray, List.set_cons_zero, List.set_cons_succ])
    refine list_unwant rfl rfl (congrArg some (congrArg Value.bool hff)) (by decide) ?_
    (try simp only [Act.put, List.setIfInBounds_toArray, List.set_cons_zero, List.set_cons_succ])
    refine seq_is (v := .bool (ff)) rfl (run_castR (run_pickF rfl ((show _ = Value.bool (ff) from rfl).trans (congrArg Value.bool hff)) rfl) hff.symm) ?_
    (try simp only [Act.put, List.setIfInBounds_toArray, List.set_cons_zero, List.set_cons_succ])
    show Code.wp _ _ _ _ _
    refine wp_cond_false ((show _ = Value.bool (ff) from rfl).trans (congrArg Value.bool hff)) ?_
    refine wp_exit ?_
    show Code.wp _ _ _ _ _
    refine wp_seq ?_
    refine wp_region_list ?_
    refine seq_is (v := .int .i64 ((at_ + i : Nat) : Int)) rfl (run_move rfl rfl) ?_
    (try simp only [Act.put, List.setIfInBounds_toArray, List.set_cons_zero, List.set_cons_succ])
    refine seq_is (v := .int .i64 ((at_ + i : Nat) : Int)) rfl (run_move rfl rfl) ?_
    (try simp only [Act.put, List.setIfInBounds_toArray, List.set_cons_zero, List.set_cons_succ])
    refine seq_is (v := .int .i64 ((at_ : Nat) : Int)) rfl (run_move rfl rfl) ?_
    (try simp only [Act.put, List.setIfInBounds_toArray, List.set_cons_zero, List.set_cons_succ])
    refine seq_is (v := .bool (decide ((((at_ : Nat) : Int)) < (((at_ + i : Nat) : Int))))) rfl (run_gtr rfl rfl rfl) ?_
    (try simp only [Act.put, List.setIfInBounds_toArray, List.set_cons_zero, List.set_cons_succ])
    refine seq_is (v := .int .i64 ((at_ + i : Nat) : Int)) rfl (run_assign rfl rfl) ?_
    (try simp only [Act.put, List.setIfInBounds_toArray, List.set_cons_zero, List.set_cons_succ])
    refine seq_is (v := .bool (decide ((((at_ : Nat) : Int)) < (((at_ + i : Nat) : Int))))) rfl (run_assign rfl rfl) ?_
    (try simp only [Act.put, List.setIfInBounds_toArray, List.set_cons_zero, List.set_cons_succ])
    show Code.wp _ _ _ _ _
    refine wp_ret ?_
    exact Z.endsV2 (u := .int .i64 ((at_ + i : Nat) : Int)) (v := .bool (decide ((((at_ : Nat) : Int)) < (((at_ + i : Nat) : Int))))) rfl rfl rfl rfl (by rw [decide_eq_true (by omega), show at_ + i = at_ + L by omega])
  · refine wp_region_list ?_
    refine seq_is (v := .int .i64 ((at_ + i : Nat) : Int)) rfl (run_move rfl rfl) ?_
    (try simp only [Act.put, List.setIfInBounds_toArray, List.set_cons_zero, List.set_cons_succ])
    refine seq_is (v := .string s) rfl (run_move rfl rfl) ?_
    (try simp only [Act.put, List.setIfInBounds_toArray, List.set_cons_zero, List.set_cons_succ])
    refine seq_is (v := .int .i64 ((s.size : Nat) : Int)) rfl (run_lenS rfl rfl) ?_
    (try simp only [Act.put, List.setIfInBounds_toArray, List.set_cons_zero, List.set_cons_succ])
    refine seq_is (v := .bool (decide ((((at_ + i : Nat) : Int)) < (((s.size : Nat) : Int))))) rfl (run_lss rfl rfl rfl) ?_
    (try simp only [Act.put, List.setIfInBounds_toArray, List.set_cons_zero, List.set_cons_succ])
    refine seq_is (v := .bool (decide ((((at_ + i : Nat) : Int)) < (((s.size : Nat) : Int))))) rfl (run_move rfl rfl) ?_
    (try simp only [Act.put, List.setIfInBounds_toArray, List.set_cons_zero, List.set_cons_succ])
    refine list_want rfl rfl (congrArg some (congrArg Value.bool (decide_eq_true (by omega)))) (wp_run (v := .string s) (run_move rfl rfl) ?_)
    (try simp only [Act.put, List.setIfInBounds_toArray, List.set_cons_zero, List.set_cons_succ])
    refine list_want rfl rfl (congrArg some (congrArg Value.bool (decide_eq_true (by omega)))) (wp_run (v := .int .i64 ((at_ + i : Nat) : Int)) (run_move rfl rfl) ?_)
    (try simp only [Act.put, List.setIfInBounds_toArray, List.set_cons_zero, List.set_cons_succ])
    refine list_want rfl rfl (congrArg some (congrArg Value.bool (decide_eq_true (by omega)))) (wp_run (v := .int .u8 (bt s (((at_ + i : Nat) : Int)))) (run_idxS (by omega) (by omega) rfl rfl rfl) ?_)
    (try simp only [Act.put, List.setIfInBounds_toArray, List.set_cons_zero, List.set_cons_succ])
    refine list_want rfl rfl (congrArg some (congrArg Value.bool (decide_eq_true (by omega)))) (wp_run (v := .bool (decide ((48) ≤ (bt s (((at_ + i : Nat) : Int)))))) (run_leqY rfl rfl rfl) ?_)
    (try simp only [Act.put, List.setIfInBounds_toArray, List.set_cons_zero, List.set_cons_succ])
    refine seq_is (v := .bool (decide ((48) ≤ (bt s (((at_ + i : Nat) : Int)))))) rfl (run_pickT rfl ((show _ = Value.bool (decide ((((at_ + i : Nat) : Int)) < (((s.size : Nat) : Int)))) from rfl).trans (congrArg Value.bool (decide_eq_true (by omega)))) rfl) ?_
    (try simp only [Act.put, List.setIfInBounds_toArray, List.set_cons_zero, List.set_cons_succ])
    refine seq_is (v := .bool (decide ((48) ≤ (bt s (((at_ + i : Nat) : Int)))))) rfl (run_move rfl rfl) ?_
    (try simp only [Act.put, List.setIfInBounds_toArray, List.set_cons_zero, List.set_cons_succ])
    refine list_unwant rfl rfl (congrArg some (congrArg Value.bool (decide_eq_false (by omega)))) (by decide) ?_
    (try simp only [Act.put, List.setIfInBounds_toArray, List.set_cons_zero, List.set_cons_succ])
    refine list_unwant rfl rfl (congrArg some (congrArg Value.bool (decide_eq_false (by omega)))) (by decide) ?_
    (try simp only [Act.put, List.setIfInBounds_toArray, List.set_cons_zero, List.set_cons_succ])
    refine list_unwant rfl rfl (congrArg some (congrArg Value.bool (decide_eq_false (by omega)))) (by decide) ?_
    (try simp only [Act.put, List.setIfInBounds_toArray, List.set_cons_zero, List.set_cons_succ])
    refine list_unwant rfl rfl (congrArg some (congrArg Value.bool (decide_eq_false (by omega)))) (by decide) ?_
    (try simp only [Act.put, List.setIfInBounds_toArray, List.set_cons_zero, List.set_cons_succ])
    refine seq_is (v := .bool (ff)) rfl (run_castR (run_pickF rfl ((show _ = Value.bool (decide ((48) ≤ (bt s (((at_ + i : Nat) : Int))))) from rfl).trans (congrArg Value.bool (decide_eq_false (by omega)))) rfl) hff.symm) ?_
    (try simp only [Act.put, List.setIfInBounds_toArray, List.set_cons_zero, List.set_cons_succ])
    refine seq_is (v := .bool (ff)) rfl (run_move rfl rfl) ?_
    (try simp only [Act.put, List.setIfInBounds_toArray, List.set_cons_zero, List.set_cons_succ])
    refine list_unwant rfl rfl (congrArg some (congrArg Value.bool hff)) (by decide) ?_
    (try simp only [Act.put, List.setIfInBounds_toArray, List.set_cons_zero, List.set_cons_succ])
    refine list_unwant rfl rfl (congrArg some (congrArg Value.bool hff)) (by decide) ?_
    (try simp only [Act.put, List.setIfInBounds_toArray, List.set_cons_zero, List.set_cons_succ])
    refine list_unwant rfl rfl (congrArg some (congrArg Value.bool hff)) (by decide) ?_
    (try simp only [Act.put, List.setIfInBounds_toArray, List.set_cons_zero, List.set_cons_succ])
    refine list_unwant rfl rfl (congrArg some (congrArg Value.bool hff)) (by decide) ?_
    (try simp only [Act.put, List.setIfInBounds_toArray, List.set_cons_zero, List.set_cons_succ])
    refine list_unwantU rfl rfl rfl ?_
    (try simp only [Act.put, List.setIfInBounds_toArray, List.set_cons_zero, List.set_cons_succ])
    refine list_unwantU rfl rfl rfl ?_
    (try simp only [Act.put, List.setIfInBounds_toArray, List.set_cons_zero, List.set_cons_succ])
    refine list_unwantU rfl rfl rfl ?_
    (try simp only [Act.put, List.setIfInBounds_toArray, List.set_cons_zero, List.set_cons_succ])
    refine list_unwantU rfl rfl rfl ?_
    (try simp only [Act.put, List.setIfInBounds_toArray, List.set_cons_zero, List.set_cons_succ])
    refine list_unwant rfl rfl (congrArg some (congrArg Value.bool hff)) (by decide) ?_
    (try simp only [Act.put, List.setIfInBounds_toArray, List.set_cons_zero, List.set_cons_succ])
    refine seq_is (v := .bool (ff)) rfl (run_castR (run_pickF rfl ((show _ = Value.bool (ff) from rfl).trans (congrArg Value.bool hff)) rfl) hff.symm) ?_
    (try simp only [Act.put, List.setIfInBounds_toArray, List.set_cons_zero, List.set_cons_succ])
    show Code.wp _ _ _ _ _
    refine wp_cond_false ((show _ = Value.bool (ff) from rfl).trans (congrArg Value.bool hff)) ?_
    refine wp_exit ?_
    show Code.wp _ _ _ _ _
    refine wp_seq ?_
    refine wp_region_list ?_
    refine seq_is (v := .int .i64 ((at_ + i : Nat) : Int)) rfl (run_move rfl rfl) ?_
    (try simp only [Act.put, List.setIfInBounds_toArray, List.set_cons_zero, List.set_cons_succ])
    refine seq_is (v := .int .i64 ((at_ + i : Nat) : Int)) rfl (run_move rfl rfl) ?_
    (try simp only [Act.put, List.setIfInBounds_toArray, List.set_cons_zero, List.set_cons_succ])
    refine seq_is (v := .int .i64 ((at_ : Nat) : Int)) rfl (run_move rfl rfl) ?_
    (try simp only [Act.put, List.setIfInBounds_toArray, List.set_cons_zero, List.set_cons_succ])
    refine seq_is (v := .bool (decide ((((at_ : Nat) : Int)) < (((at_ + i : Nat) : Int))))) rfl (run_gtr rfl rfl rfl) ?_
    (try simp only [Act.put, List.setIfInBounds_toArray, List.set_cons_zero, List.set_cons_succ])
    refine seq_is (v := .int .i64 ((at_ + i : Nat) : Int)) rfl (run_assign rfl rfl) ?_
    (try simp only [Act.put, List.setIfInBounds_toArray, List.set_cons_zero, List.set_cons_succ])
    refine seq_is (v := .bool (decide ((((at_ : Nat) : Int)) < (((at_ + i : Nat) : Int))))) rfl (run_assign rfl rfl) ?_
    (try simp only [Act.put, List.setIfInBounds_toArray, List.set_cons_zero, List.set_cons_succ])
    show Code.wp _ _ _ _ _
    refine wp_ret ?_
    exact Z.endsV2 (u := .int .i64 ((at_ + i : Nat) : Int)) (v := .bool (decide ((((at_ : Nat) : Int)) < (((at_ + i : Nat) : Int))))) rfl rfl rfl rfl (by rw [decide_eq_true (by omega), show at_ + i = at_ + L by omega])
set_option maxHeartbeats 4000000 in
set_option maxRecDepth 100000 in
theorem rat_number.semA {w : World} {s : ByteArray} {x : Int} (hs : s.size ≤ 65535) (h0 : 0 < s.size) (h2 : bt s ((0 : Nat) : Int) ≠ 45) (rdz : ∀ W, Calls Try.prog 99 #[.string s] W (ResIii W x (.int .i64 0) (.int .i64 0))) : Calls Try.prog 74 #[.string s] w (ResI w x) := by
  have Z := Zt.start w (Has.nil w w)
  obtain ⟨tt, htt⟩ : ∃ b : Bool, b = true := ⟨true, rfl⟩
  obtain ⟨ff, hff⟩ : ∃ b : Bool, b = false := ⟨false, rfl⟩
  have h2' : bt s 0 ≠ 45 := h2
  go_enter Try.func74, Try.ntmps74
  refine wp_seq ?_
  refine wp_region_list ?_
  refine seq_alloc Z rfl rfl ?_; clear Z; intro g1 W Z
  (try simp only [Act.put, List.setIfInBounds_toArray, List.set_cons_zero, List.set_cons_succ])
  show Code.wp _ _ _ _ _
  refine wp_seq ?_
  refine wp_seq ?_
  refine wp_region_list ?_
  refine seq_is (v := .string s) rfl (run_move rfl rfl) ?_
  (try simp only [Act.put, List.setIfInBounds_toArray, List.set_cons_zero, List.set_cons_succ])
  refine seq_is (v := .int .u8 (bt s (0))) rfl (run_idxS (by omega) (by omega) rfl rfl rfl) ?_
  (try simp only [Act.put, List.setIfInBounds_toArray, List.set_cons_zero, List.set_cons_succ])
  refine seq_is (v := .bool (decide ((bt s (0)) = (45)))) rfl (run_eqlY rfl rfl rfl) ?_
  (try simp only [Act.put, List.setIfInBounds_toArray, List.set_cons_zero, List.set_cons_succ])
  show Code.wp _ _ _ _ _
  refine wp_cond_false ((show _ = Value.bool (decide ((bt s (0)) = (45))) from rfl).trans (congrArg Value.bool (decide_eq_false (by omega)))) ?_
  refine wp_skip ?_
  show Code.wp _ _ _ _ _
  refine wp_seq ?_
  refine wp_seq ?_
  refine wp_region_list ?_
  refine seq_is (v := .string s) rfl (run_move rfl rfl) ?_
  (try simp only [Act.put, List.setIfInBounds_toArray, List.set_cons_zero, List.set_cons_succ])
  refine seq_is (v := .int .i64 ((s.size : Nat) : Int)) rfl (run_lenS rfl rfl) ?_
  (try simp only [Act.put, List.setIfInBounds_toArray, List.set_cons_zero, List.set_cons_succ])
  refine seq_is (v := .bool (decide ((((s.size : Nat) : Int)) ≤ (65535)))) rfl (run_leq rfl rfl rfl) ?_
  (try simp only [Act.put, List.setIfInBounds_toArray, List.set_cons_zero, List.set_cons_succ])
  show Code.wp _ _ _ _ _
  refine wp_cond_true ((show _ = Value.bool (decide ((((s.size : Nat) : Int)) ≤ (65535))) from rfl).trans (congrArg Value.bool (decide_eq_true (by omega)))) ?_
  refine wp_seq ?_
  refine wp_region_list ?_
  refine seq_is (v := .string s) rfl (run_move rfl rfl) ?_
  (try simp only [Act.put, List.setIfInBounds_toArray, List.set_cons_zero, List.set_cons_succ])
  refine seq_call Z rfl rfl Try.func99 rfl rfl (args1 rfl) (Z.callIii (rdz _)) ?_; clear Z; intro x2 W Z
  (try simp only [Act.put, List.setIfInBounds_toArray, List.set_cons_zero, List.set_cons_succ])
  refine seq_is (v := .tuple #[.agg #[.bool (decide (x < 0)), x2.v], .int .i64 (0), .int .i64 (0)]) rfl (run_move rfl rfl) ?_
  (try simp only [Act.put, List.setIfInBounds_toArray, List.set_cons_zero, List.set_cons_succ])
  refine seq_is (v := .agg #[.bool (decide (x < 0)), x2.v]) rfl (run_extract rfl rfl rfl) ?_
  (try simp only [Act.put, List.setIfInBounds_toArray, List.set_cons_zero, List.set_cons_succ])
  refine seq_is (v := .int .i64 (0)) rfl (run_extract rfl rfl rfl) ?_
  (try simp only [Act.put, List.setIfInBounds_toArray, List.set_cons_zero, List.set_cons_succ])
  refine seq_is (v := .int .i64 (0)) rfl (run_extract rfl rfl rfl) ?_
  (try simp only [Act.put, List.setIfInBounds_toArray, List.set_cons_zero, List.set_cons_succ])
  refine seq_alloc Z rfl rfl ?_; clear Z; intro g3 W Z
  (try simp only [Act.put, List.setIfInBounds_toArray, List.set_cons_zero, List.set_cons_succ])
  refine seq_store Z 0 rfl rfl rfl rfl rfl ?_; clear Z; intro W Z
  (try simp only [Act.put, List.setIfInBounds_toArray, List.set_cons_zero, List.set_cons_succ])
  refine seq_is (v := .int .i64 (0)) rfl (run_assign rfl rfl) ?_
  (try simp only [Act.put, List.setIfInBounds_toArray, List.set_cons_zero, List.set_cons_succ])
  refine seq_is (v := .int .i64 (0)) rfl (run_assign rfl rfl) ?_
  (try simp only [Act.put, List.setIfInBounds_toArray, List.set_cons_zero, List.set_cons_succ])
  show Code.wp _ _ _ _ _
  refine wp_seq ?_
  refine wp_region_list ?_
  refine seq_is (v := .agg #[.bool (decide (x < 0)), x2.v]) rfl (run_load2 rfl rfl (Z.bx 0 rfl)) ?_
  (try simp only [Act.put, List.setIfInBounds_toArray, List.set_cons_zero, List.set_cons_succ])
  refine seq_store Z 1 rfl rfl rfl rfl rfl ?_; clear Z; intro W Z
  (try simp only [Act.put, List.setIfInBounds_toArray, List.set_cons_zero, List.set_cons_succ])
  show Code.wp _ _ _ _ _
  refine wp_ret ?_
  exact Z.ends1 1 0 rfl rfl rfl rfl rfl (by rfl)
set_option maxHeartbeats 4000000 in
set_option maxRecDepth 100000 in
theorem rat_number.semN {w : World} {s : ByteArray} {x : Int} (hb : Bd 600000 x) (h0 : 0 < s.size) (h2 : bt s ((0 : Nat) : Int) = 45) (ih : ∀ W, Calls Try.prog 74 #[.string (s.extract 1 s.size)] W (ResI W x)) : Calls Try.prog 74 #[.string s] w (ResI w (-x)) := by
  have Z := Zt.start w (Has.nil w w)
  obtain ⟨tt, htt⟩ : ∃ b : Bool, b = true := ⟨true, rfl⟩
  obtain ⟨ff, hff⟩ : ∃ b : Bool, b = false := ⟨false, rfl⟩
  have h2' : bt s 0 = 45 := h2
  go_enter Try.func74, Try.ntmps74
  refine wp_seq ?_
  refine wp_region_list ?_
  refine seq_alloc Z rfl rfl ?_; clear Z; intro g1 W Z
  (try simp only [Act.put, List.setIfInBounds_toArray, List.set_cons_zero, List.set_cons_succ])
  show Code.wp _ _ _ _ _
  refine wp_seq ?_
  refine wp_seq ?_
  refine wp_region_list ?_
  refine seq_is (v := .string s) rfl (run_move rfl rfl) ?_
  (try simp only [Act.put, List.setIfInBounds_toArray, List.set_cons_zero, List.set_cons_succ])
  refine seq_is (v := .int .u8 (bt s (0))) rfl (run_idxS (by omega) (by omega) rfl rfl rfl) ?_
  (try simp only [Act.put, List.setIfInBounds_toArray, List.set_cons_zero, List.set_cons_succ])
  refine seq_is (v := .bool (decide ((bt s (0)) = (45)))) rfl (run_eqlY rfl rfl rfl) ?_
  (try simp only [Act.put, List.setIfInBounds_toArray, List.set_cons_zero, List.set_cons_succ])
  show Code.wp _ _ _ _ _
  refine wp_cond_true ((show _ = Value.bool (decide ((bt s (0)) = (45))) from rfl).trans (congrArg Value.bool (decide_eq_true (by omega)))) ?_
  refine wp_seq ?_
  refine wp_region_list ?_
  refine seq_is (v := .string s) rfl (run_move rfl rfl) ?_
  (try simp only [Act.put, List.setIfInBounds_toArray, List.set_cons_zero, List.set_cons_succ])
  refine seq_is (v := .string (s.extract 1 s.size)) rfl (run_cutS (i := 1) (by omega) rfl rfl rfl) ?_
  (try simp only [Act.put, List.setIfInBounds_toArray, List.set_cons_zero, List.set_cons_succ])
  refine seq_call Z rfl rfl Try.func74 rfl rfl (args1 rfl) (Z.callI (ih _)) ?_; clear Z; intro x2 W Z
  (try simp only [Act.put, List.setIfInBounds_toArray, List.set_cons_zero, List.set_cons_succ])
  refine seq_call Z rfl rfl Try.func78 rfl rfl (args1 rfl) (Z.callI (zint_Neg.sem (Z.own 0 rfl (Bd.fm (Bd.abs hb) (by decide)))  )) ?_; clear Z; intro x3 W Z
  (try simp only [Act.put, List.setIfInBounds_toArray, List.set_cons_zero, List.set_cons_succ])
  refine seq_store Z 0 rfl rfl rfl rfl rfl ?_; clear Z; intro W Z
  (try simp only [Act.put, List.setIfInBounds_toArray, List.set_cons_zero, List.set_cons_succ])
  show Code.wp _ _ _ _ _
  refine wp_ret ?_
  exact Z.ends1 0 0 rfl rfl rfl rfl rfl (by rfl)
set_option maxHeartbeats 4000000 in
set_option maxRecDepth 100000 in
theorem rat_number.semB {w : World} {s : ByteArray} {K : Nat} {f : Nat → Int} (hs : 65535 < s.size) (hs2 : s.size ≤ 131072) (h2 : bt s ((0 : Nat) : Int) ≠ 45) (hK : s.size = 65535 + K) (ih : ∀ W, Calls Try.prog 74 #[.string (s.extract 0 K)] W (ResI W (f K))) (hst : ∀ i, K ≤ i → i < s.size → f (i + 1) = f i * 10 + (bt s ((i : Nat) : Int) - 48)) (hd : ∀ i, i < s.size → 48 ≤ bt s ((i : Nat) : Int) ∧ bt s ((i : Nat) : Int) ≤ 57) (hb : ∀ i, i ≤ s.size → Bd 600000 (f i)) : Calls Try.prog 74 #[.string s] w (ResI w (f s.size)) := by
  have Z := Zt.start w (Has.nil w w)
  obtain ⟨tt, htt⟩ : ∃ b : Bool, b = true := ⟨true, rfl⟩
  obtain ⟨ff, hff⟩ : ∃ b : Bool, b = false := ⟨false, rfl⟩
  have h2' : bt s 0 ≠ 45 := h2
  go_enter Try.func74, Try.ntmps74
  refine wp_seq ?_
  refine wp_region_list ?_
  refine seq_alloc Z rfl rfl ?_; clear Z; intro g1 W Z
  (try simp only [Act.put, List.setIfInBounds_toArray, List.set_cons_zero, List.set_cons_succ])
  show Code.wp _ _ _ _ _
  refine wp_seq ?_
  refine wp_seq ?_
  refine wp_region_list ?_
  refine seq_is (v := .string s) rfl (run_move rfl rfl) ?_
  (try simp only [Act.put, List.setIfInBounds_toArray, List.set_cons_zero, List.set_cons_succ])
  refine seq_is (v := .int .u8 (bt s (0))) rfl (run_idxS (by omega) (by omega) rfl rfl rfl) ?_
  (try simp only [Act.put, List.setIfInBounds_toArray, List.set_cons_zero, List.set_cons_succ])
  refine seq_is (v := .bool (decide ((bt s (0)) = (45)))) rfl (run_eqlY rfl rfl rfl) ?_
  (try simp only [Act.put, List.setIfInBounds_toArray, List.set_cons_zero, List.set_cons_succ])
  show Code.wp _ _ _ _ _
  refine wp_cond_false ((show _ = Value.bool (decide ((bt s (0)) = (45))) from rfl).trans (congrArg Value.bool (decide_eq_false (by omega)))) ?_
  refine wp_skip ?_
  show Code.wp _ _ _ _ _
  refine wp_seq ?_
  refine wp_seq ?_
  refine wp_region_list ?_
  refine seq_is (v := .string s) rfl (run_move rfl rfl) ?_
  (try simp only [Act.put, List.setIfInBounds_toArray, List.set_cons_zero, List.set_cons_succ])
  refine seq_is (v := .int .i64 ((s.size : Nat) : Int)) rfl (run_lenS rfl rfl) ?_
  (try simp only [Act.put, List.setIfInBounds_toArray, List.set_cons_zero, List.set_cons_succ])
  refine seq_is (v := .bool (decide ((((s.size : Nat) : Int)) ≤ (65535)))) rfl (run_leq rfl rfl rfl) ?_
  (try simp only [Act.put, List.setIfInBounds_toArray, List.set_cons_zero, List.set_cons_succ])
  show Code.wp _ _ _ _ _
  refine wp_cond_false ((show _ = Value.bool (decide ((((s.size : Nat) : Int)) ≤ (65535))) from rfl).trans (congrArg Value.bool (decide_eq_false (by omega)))) ?_
  refine wp_skip ?_
  show Code.wp _ _ _ _ _
  refine wp_seq ?_
  refine wp_region_list ?_
  refine seq_is (v := .string s) rfl (run_move rfl rfl) ?_
  (try simp only [Act.put, List.setIfInBounds_toArray, List.set_cons_zero, List.set_cons_succ])
  refine seq_is (v := .int .i64 ((s.size : Nat) : Int)) rfl (run_lenS rfl rfl) ?_
  (try simp only [Act.put, List.setIfInBounds_toArray, List.set_cons_zero, List.set_cons_succ])
  refine seq_is (v := .int .i64 ((K : Nat) : Int)) rfl (run_subN (x := s.size) (y := 65535) (z := K) (by omega) (by omega) rfl rfl rfl) ?_
  (try simp only [Act.put, List.setIfInBounds_toArray, List.set_cons_zero, List.set_cons_succ])
  refine seq_is (v := .int .i64 ((K : Nat) : Int)) rfl (run_assign rfl rfl) ?_
  (try simp only [Act.put, List.setIfInBounds_toArray, List.set_cons_zero, List.set_cons_succ])
  show Code.wp _ _ _ _ _
  refine wp_seq ?_
  refine wp_region_list ?_
  refine seq_is (v := .string s) rfl (run_move rfl rfl) ?_
  (try simp only [Act.put, List.setIfInBounds_toArray, List.set_cons_zero, List.set_cons_succ])
  refine seq_is (v := .int .i64 ((K : Nat) : Int)) rfl (run_move rfl rfl) ?_
  (try simp only [Act.put, List.setIfInBounds_toArray, List.set_cons_zero, List.set_cons_succ])
  refine seq_is (v := .string (s.extract 0 (K))) rfl (run_cutT (j := K) (by omega) rfl rfl rfl) ?_
  (try simp only [Act.put, List.setIfInBounds_toArray, List.set_cons_zero, List.set_cons_succ])
  refine seq_call Z rfl rfl Try.func74 rfl rfl (args1 rfl) (Z.callI (ih _)) ?_; clear Z; intro x2 W Z
  (try simp only [Act.put, List.setIfInBounds_toArray, List.set_cons_zero, List.set_cons_succ])
  refine seq_alloc Z rfl rfl ?_; clear Z; intro g3 W Z
  (try simp only [Act.put, List.setIfInBounds_toArray, List.set_cons_zero, List.set_cons_succ])
  refine seq_store Z 0 rfl rfl rfl rfl rfl ?_; clear Z; intro W Z
  (try simp only [Act.put, List.setIfInBounds_toArray, List.set_cons_zero, List.set_cons_succ])
  show Code.wp _ _ _ _ _
  refine wp_seq ?_
  refine wp_seq ?_
  refine wp_region_list ?_
  refine seq_is (v := .int .i64 ((K : Nat) : Int)) rfl (run_move rfl rfl) ?_
  (try simp only [Act.put, List.setIfInBounds_toArray, List.set_cons_zero, List.set_cons_succ])
  refine seq_is (v := .int .i64 ((K : Nat) : Int)) rfl (run_assign rfl rfl) ?_
  (try simp only [Act.put, List.setIfInBounds_toArray, List.set_cons_zero, List.set_cons_succ])
  show Code.wp _ _ _ _ _
  refine wp_block ?_
  refine wp_loop_s (α := Nat × Sl) (fun (i, ps) a W => ∃ (j34_9 j35_9 j36_9 j37_9 j38_9 j39_9 j40_9 j41_9 j42_9 j43_9 j44_9 j45_9 j46_9 j47_9 j48_9 j49_9 : Value), a = { tmps := #[.string s, undef, .pointer (some ⟨g1, 0, none⟩), undef, undef, undef, .int .i64 ((K : Nat) : Int), .pointer (some ⟨g3, 0, none⟩), .int .i64 ((i : Nat) : Int), .string s, .int .u8 (bt s (0)), .bool (decide ((bt s (0)) = (45))), undef, undef, undef, undef, .string s, .int .i64 ((s.size : Nat) : Int), .bool (decide ((((s.size : Nat) : Int)) ≤ (65535))), undef, undef, undef, undef, undef, undef, undef, .string s, .int .i64 ((s.size : Nat) : Int), .int .i64 ((K : Nat) : Int), .string s, .int .i64 ((K : Nat) : Int), .string (s.extract 0 (K)), .agg #[.bool (decide (f K < 0)), x2.v], .int .i64 ((K : Nat) : Int), j34_9, j35_9, j36_9, j37_9, j38_9, j39_9, j40_9, j41_9, j42_9, j43_9, j44_9, j45_9, j46_9, j47_9, j48_9, j49_9, undef], defers := [] } ∧ Zt w W [(ps.v, tyO w (mg (f i)))] [(g3, 24, #[.bool (decide (f i < 0)), ps.v]), (g1, 24, #[.bool (false), .slice none 0 0])] ∧ (K ≤ i ∧ i ≤ s.size)) (fun (i, ps) => s.size - i) (K, x2) ⟨_, _, _, _, _, _, _, _, _, _, _, _, _, _, _, _, rfl, (Z.retype (has_cons (Z.has 0 rfl) (Has.nil _ _))), ⟨Nat.le_refl _, by omega⟩⟩ ?_
  clear Z; rintro ⟨i, ps⟩ a W ⟨j34_9, j35_9, j36_9, j37_9, j38_9, j39_9, j40_9, j41_9, j42_9, j43_9, j44_9, j45_9, j46_9, j47_9, j48_9, j49_9, rfl, Z, hI⟩
  refine wp_seq ?_
  refine wp_seq ?_
  refine wp_region_list ?_
  refine seq_is (v := .int .i64 ((i : Nat) : Int)) rfl (run_move rfl rfl) ?_
  (try simp only [Act.put, List.setIfInBounds_toArray, List.set_cons_zero, List.set_cons_succ])
  refine seq_is (v := .string s) rfl (run_move rfl rfl) ?_
  (try simp only [Act.put, List.setIfInBounds_toArray, List.set_cons_zero, List.set_cons_succ])
  refine seq_is (v := .int .i64 ((s.size : Nat) : Int)) rfl (run_lenS rfl rfl) ?_
  (try simp only [Act.put, List.setIfInBounds_toArray, List.set_cons_zero, List.set_cons_succ])
  refine seq_is (v := .bool (decide ((((i : Nat) : Int)) < (((s.size : Nat) : Int))))) rfl (run_lss rfl rfl rfl) ?_
  (try simp only [Act.put, List.setIfInBounds_toArray, List.set_cons_zero, List.set_cons_succ])
  show Code.wp _ _ _ _ _
  refine wp_cond_split (t := decide ((((i : Nat) : Int)) < (((s.size : Nat) : Int)))) rfl ?_ ?_
  · intro hc4
    have p_hc4 := of_decide_eq_true hc4
    refine wp_skip ?_
    show Code.wp _ _ _ _ _
    refine wp_seq ?_
    refine wp_block ?_
    have hdi := hd i (by omega)
    refine wp_dag (pre := [_, _, _, _, _, _, _, _, _, _]) (sps := [.is (.agg #[.bool (decide (f i < 0)), ps.v]), spI w ((10 : Int)), spI w ((f i) * ((10 : Int))), .is (.string s), .is (.int .i64 ((i : Nat) : Int)), .is (.int .u8 (bt s (((i : Nat) : Int)))), .is (.int .u8 (bt s (((i : Nat) : Int)) - 48)), .is (.int .i64 (bt s (((i : Nat) : Int)) - 48)), spI w (bt s (((i : Nat) : Int)) - 48), spI w (((f i) * ((10 : Int))) + (bt s (((i : Nat) : Int)) - 48))]) Z (by kernel_rfl) _ rfl (by kernel_rfl) (by kernel_rfl) rfl ⟨?_, ?_, ?_, ?_, ?_, ?_, ?_, ?_, ?_, ?_, trivial⟩ ?_
    · intro a e5 W Q Z; exact step_is (fun _ h => op_plain rfl rfl h) (run_load2 rfl (ev e5) (Z.bx 0 rfl))
    · intro a W Q Z; exact step_call (fun _ h => op_plain rfl rfl h) rfl Try.func52 rfl rfl (args1 rfl) (Z.callI (zint_Of.sem (by decide) (by decide)))
    · intro a x8 e9 x10 e11 W Q Z; exact step_call (fun _ h => op_plain rfl rfl h) rfl Try.func55 rfl rfl (args2 (ev e9) (ev e11)) (Z.callI (zint_Mul.sem (Z.own 1 rfl (Bd.fm (Bd.abs (hb i (by omega))) (by decide))) (Z.own 0 rfl (Bd.fm (Bd.abs (Bd.lit (k := 64) (z := 10) (by decide))) (by decide))) (Bd.fm (Bd.mul (Bd.abs (hb i (by omega))) (Bd.abs (Bd.lit (k := 64) (z := 10) (by decide)))) (by decide)) ))
    · intro a e13 W Q Z; exact step_is (fun _ h => op_plain rfl rfl h) (run_move rfl (ev e13))
    · intro a e15 W Q Z; exact step_is (fun _ h => op_plain rfl rfl h) (run_move rfl (ev e15))
    · intro a x17 e18 x19 e20 W Q Z; exact step_is (fun _ h => op_plain rfl rfl h) (run_idxS (by omega) (by omega) rfl (ev e18) (ev e20))
    · intro a x22 e23 W Q Z; exact step_is (fun _ h => op_plain rfl rfl h) (run_subY (u8_w (by omega) (by omega)) rfl (ev e23) rfl)
    · intro a x25 e26 W Q Z; exact step_is (fun _ h => op_plain rfl rfl h) (run_conv8 (i64_s (by omega) (by omega)) rfl (ev e26))
    · intro a x28 e29 W Q Z; exact step_call (fun _ h => op_plain rfl rfl h) rfl Try.func52 rfl rfl (args1 (ev e29)) (Z.callI (zint_Of.sem (by omega) (by omega)))
    · intro a x31 e32 x33 e34 W Q Z; exact step_call (fun _ h => op_plain rfl rfl h) rfl Try.func58 rfl rfl (args2 (ev e32) (ev e34)) (Z.callI (zint_Add.sem (Z.own 1 rfl (Bd.fm (Bd.abs (Bd.mul (hb i (by omega)) (Bd.lit (k := 64) (z := 10) (by decide)))) (by decide))) (Z.own 0 rfl (Bd.fm (Bd.abs (dig_bd hdi)) (by decide))) (Bd.fm (Bd.add (Bd.abs (Bd.mul (hb i (by omega)) (Bd.lit (k := 64) (z := 10) (by decide)))) (Bd.abs (dig_bd hdi))) (by decide)) (Bd.fm (Bd.sub (Bd.abs (dig_bd hdi)) (Bd.abs (Bd.mul (hb i (by omega)) (Bd.lit (k := 64) (z := 10) (by decide))))) (by decide)) (Bd.fm (Bd.sub (Bd.abs (Bd.mul (hb i (by omega)) (Bd.lit (k := 64) (z := 10) (by decide)))) (Bd.abs (dig_bd hdi))) (by decide)) ))
    clear Z; intro x6 x7 x12 x14 x16 x21 x24 x27 x30 x35 W Z
    (try simp only [Act.put, List.setIfInBounds_toArray, List.set_cons_zero, List.set_cons_succ])
    refine seq_store Z 0 rfl rfl rfl rfl rfl ?_; clear Z; intro W Z
    (try simp only [Act.put, List.setIfInBounds_toArray, List.set_cons_zero, List.set_cons_succ])
    show Code.wp _ _ _ _ _
    refine wp_region_list ?_
    refine seq_is (v := .int .i64 ((i : Nat) : Int)) rfl (run_move rfl rfl) ?_
    (try simp only [Act.put, List.setIfInBounds_toArray, List.set_cons_zero, List.set_cons_succ])
    refine seq_is (v := .int .i64 ((i + 1 : Nat) : Int)) rfl (run_incN (i := i) rfl (by omega) rfl rfl rfl) ?_
    (try simp only [Act.put, List.setIfInBounds_toArray, List.set_cons_zero, List.set_cons_succ])
    refine seq_is (v := .int .i64 ((i + 1 : Nat) : Int)) rfl (run_assign rfl rfl) ?_
    (try simp only [Act.put, List.setIfInBounds_toArray, List.set_cons_zero, List.set_cons_succ])
    rw [← hst i (by omega) (by omega)] at Z
    exact ⟨(i + 1, x35), (show s.size - (i + 1) < s.size - i by omega), _, _, _, _, _, _, _, _, _, _, _, _, _, _, _, _, rfl, ((Z).retype (has_cons (Z.has 0 rfl) (Has.nil _ _))), ⟨by omega, by omega⟩⟩
  · intro hc4
    have p_hc4 := of_decide_eq_false hc4
    refine wp_exit ?_
    show Code.wp _ _ _ _ _
    refine wp_seq ?_
    refine wp_region_list ?_
    refine seq_is (v := .agg #[.bool (decide (f i < 0)), ps.v]) rfl (run_load2 rfl rfl (Z.bx 0 rfl)) ?_
    (try simp only [Act.put, List.setIfInBounds_toArray, List.set_cons_zero, List.set_cons_succ])
    refine seq_store Z 1 rfl rfl rfl rfl rfl ?_; clear Z; intro W Z
    (try simp only [Act.put, List.setIfInBounds_toArray, List.set_cons_zero, List.set_cons_succ])
    show Code.wp _ _ _ _ _
    refine wp_ret ?_
    exact Z.ends1 1 0 rfl rfl rfl rfl rfl (by rw [show i = s.size by omega])
end Go.Proofs.Ytndopanohhdfgaa.PA


/- Read of layer 3, of a rational's text. -/
namespace Go.Proofs.Ytndopanohhdfgaa.PA
open Go Go.Proofs.Ytndopanohhdfgaa.Nums Go.RowKit Go.Proofs.YtndopanohhdfgaaW.PrintWords Go.Proofs.YtndopanohhdfgaaW.PrintLast Go.Proofs.YtndopanohhdfgaaW.PrintMore
set_option linter.unusedVariables false
set_option linter.unusedSimpArgs false
theorem ten_bd6 {x : Int} {L : Nat} (h0 : 0 ≤ x) (h : x < 10 ^ L) (hL : L ≤ 131072) : Bd 600000 x := by
  have h1 : (x.natAbs : Int) < ((10 ^ L : Nat) : Int) := by
    rw [Int.natCast_pow]
    have : (x.natAbs : Int) = x := by omega
    rw [this]
    exact h
  have h2 : x.natAbs < 10 ^ L := Int.ofNat_lt.mp h1
  have h3 : (10 : Nat) ^ L ≤ 2 ^ (4 * L) := by
    rw [Nat.pow_mul]
    exact Nat.pow_le_pow_left (by decide) L
  have h4 : Bd (4 * L) x := by
    unfold Bd
    exact Nat.lt_of_lt_of_le h2 h3
  exact h4.mono (by omega)
theorem Dg.ne45 {s : ByteArray} {k L : Nat} {x : Int} (h : Dg s k L x) : bt s ((k : Nat) : Int) ≠ 45 := by
  have := (h.rng h.pos).1
  rw [Nat.add_zero] at this
  omega
theorem textZ_nn {x : Int} (h : 0 ≤ x) : textZ x = textOf x := by
  unfold textZ
  rw [if_neg (by omega), show ((x.natAbs : Nat) : Int) = x by omega]
theorem ex_all (s : ByteArray) : s.extract 0 s.size = s := by
  refine bytes_ext (by rw [ex_size (Nat.le_refl _)]; omega) (fun i hi => ?_)
  rw [ex_size (Nat.le_refl _)] at hi
  rw [bt_ex (by omega) (Nat.le_refl _), Nat.zero_add]
theorem rat_number.semT (n : Nat) : ∀ {x : Int}, 0 ≤ x → (textOf x).size ≤ n → n ≤ 131072 → ∀ w, Calls Try.prog 74 #[.string (textOf x)] w (ResI w x) := by
  induction n using Nat.strongRecOn with
  | ind n ih =>
    intro x h0 hs hn w
    have hD := text_dg h0
    have h45 := hD.ne45
    rcases Nat.lt_or_ge 65535 (textOf x).size with hl | hl
    · obtain ⟨K, hK⟩ : ∃ K, (textOf x).size = 65535 + K := ⟨(textOf x).size - 65535, by omega⟩
      have hKp : 0 < K := by omega
      obtain ⟨D, hDe⟩ : ∃ D, D = 65535 := ⟨_, rfl⟩
      have hP := hD.pre hKp (D := D) (by omega)
      have hc := hP.cut
      rw [Nat.zero_add] at hc
      have hsz : (textOf (x / 10 ^ D)).size = K := by
        rw [← hc, ex_size (by omega)]
        omega
      have r := rat_number.semB (w := w) (s := textOf x) (K := K) (f := fun i => x / 10 ^ ((textOf x).size - i)) hl (by omega) h45 hK (fun W => by
        rw [hc, show (textOf x).size - K = D by omega]
        exact ih K (by omega) hP.nn (by omega) (by omega) W) (fun i _ hi => hD.step hi) (fun i hi => by have := hD.rng hi; rwa [Nat.zero_add] at this) (fun i hi => by
        have hp : (0 : Int) < 10 ^ ((textOf x).size - i) := Int.pow_pos (by decide)
        exact ten_bd6 (Int.ediv_nonneg h0 (Int.le_of_lt hp)) (Int.lt_of_le_of_lt (Int.ediv_le_self _ h0) hD.lt) (by omega))
      have e : x / 10 ^ ((textOf x).size - (textOf x).size) = x := by rw [Nat.sub_self, Int.pow_zero, Int.ediv_one]
      simp only [e] at r
      exact r
    · refine rat_number.semA hl hD.pos h45 (fun W => ?_)
      have r := zint_Read.sem (w := W) (a0 := textOf x) (by omega)
      have e := readZ_text (z := x) (by rw [show ((x.natAbs : Nat) : Int) = x by omega]; omega)
      rw [textZ_nn h0] at e
      rw [e] at r
      exact r
/-- a number's text, with its sign -/
theorem text_neg {z : Int} (h : z < 0) : textZ z = (⟨#[45]⟩ : ByteArray) ++ textOf (-z) := by
  unfold textZ
  rw [if_pos h, show ((z.natAbs : Nat) : Int) = -z by omega]
theorem rat_number.semZ {z : Int} (hs : (textZ z).size ≤ 131072) (w : World) : Calls Try.prog 74 #[.string (textZ z)] w (ResI w z) := by
  by_cases hz : z < 0
  · rw [text_neg hz] at hs ⊢
    have hD := text_dg (x := -z) (by omega)
    have hsz : ((⟨#[45]⟩ : ByteArray) ++ textOf (-z)).size = 1 + (textOf (-z)).size := by rw [ByteArray.size_append]; rfl
    have h45 : bt ((⟨#[45]⟩ : ByteArray) ++ textOf (-z)) ((0 : Nat) : Int) = 45 := by
      rw [bt_l (by show 0 < 1; omega)]
      decide
    have hR := hD.right (s := ⟨#[45]⟩)
    have hc := hR.cut
    have e1 : (⟨#[45]⟩ : ByteArray).size + 0 + (textOf (-z)).size = ((⟨#[45]⟩ : ByteArray) ++ textOf (-z)).size := by rw [hsz]; rfl
    rw [e1] at hc
    have r := rat_number.semN (w := w) (s := (⟨#[45]⟩ : ByteArray) ++ textOf (-z)) (x := -z) (ten_bd6 hD.nn hD.lt (by omega)) (by omega) h45 (fun W => by
      have hc2 : ((⟨#[45]⟩ : ByteArray) ++ textOf (-z)).extract 1 ((⟨#[45]⟩ : ByteArray) ++ textOf (-z)).size = textOf (-z) := hc
      rw [hc2]
      exact rat_number.semT 131072 (by omega) (by omega) (Nat.le_refl _) W)
    rw [Int.neg_neg] at r
    exact r
  · rw [textZ_nn (by omega)] at hs ⊢
    exact rat_number.semT 131072 (by omega) hs (Nat.le_refl _) w
def spQii (w0 : World) (z y : Int) (u u2 : Value) : Sp := .val (Sl × Sl) (fun s => .tuple #[.agg #[.bool (decide (z < 0)), s.1.v, .bool (decide (y < 0)), s.2.v], u, u2]) (fun s => [(s.1.v, tyO w0 (mg z)), (s.2.v, tyO w0 (mg y))])
def ResQii (w : World) (z y : Int) (u u2 : Value) (e : Ending) (w' : World) : Prop := ∃ v v2, e = .returned (.tuple #[.agg #[.bool (decide (z < 0)), v, .bool (decide (y < 0)), v2], u, u2]) ∧ Kd.R (Kd.int .u32) 68 w' w.heap.size (fun _ => True) v (mg z) ∧ Kd.R (Kd.int .u32) 68 w' w.heap.size (fun _ => True) v2 (mg y) ∧ Below w.heap.size w w'
theorem Zt.callQii {P : Program} {f : FuncId} {args : Array Value} {w0 w : World} {ts : List (Value × (World → Value → Prop))} {bs : List (Nat × TypeId × Array Value)} {z y : Int} {u u2 : Value} (Z : Zt w0 w ts bs) (h : Calls P f args w (ResQii w z y u u2)) : Calls P f args w fun e W' => ∃ v, e = .returned v ∧ Below w.heap.size w W' ∧ (spQii w0 z y u u2).New w0 w W' v :=
  h.mono fun _ _ ⟨v, v2, he, hr, hr2, hb⟩ => by
    have ho := (has_row hr Z.below.size).append (has_row hr2 Z.below.size)
    obtain ⟨A, c, rfl, -, -⟩ := Rd.of_row hr
    obtain ⟨A2, c2, rfl, -, -⟩ := Rd.of_row hr2
    exact ⟨_, he, hb, ⟨⟨A, _, c⟩, ⟨A2, _, c2⟩⟩, rfl, ho⟩
theorem Zt.endsQii {w0 W : World} {ts : List (Value × (World → Value → Prop))} {bs : List (Nat × TypeId × Array Value)} {a : Act} {fn : Func} {t d d2 : Tmp} {g : Nat} {z y : Int} {b b2 : Bool} {l l2 : List Int} {v v2 u u2 u' u2' : Value} (Z : Zt w0 W ts bs) (i j k : Nat) (h : fn.results = #[.cell t 29, .tmp d, .tmp d2]) (hd : a.defers = []) (hp : a.tmps.getD t undef = .pointer (some ⟨g, 0, none⟩)) (hd1 : a.tmps.getD d undef = u) (hd2 : a.tmps.getD d2 undef = u2)
    (e : bs[i]? = some (g, 29, #[.bool b, v, .bool b2, v2])) (O : ts[j]? = some (v, tyO w0 l)) (O2 : ts[k]? = some (v2, tyO w0 l2)) (hb : b = decide (z < 0)) (hl : l = mg z) (hb2 : b2 = decide (y < 0)) (hl2 : l2 = mg y) (hu : u = u') (hu2 : u2 = u2') : bodyPost Try.prog fn (ResQii w0 z y u' u2') .ret a W := by
  subst hb hl hb2 hl2 hu hu2
  refine bodyPost_ret (v := .tuple #[.agg #[.bool (decide (z < 0)), v, .bool (decide (y < 0)), v2], u, u2]) ?_ hd ⟨v, v2, rfl, Z.row j O, Z.row k O2, Z.below⟩
  obtain ⟨⟨c0, c1, c2, c3⟩, -⟩ := (Z.bx i e).four
  have hp' : a.tmps[t]?.getD undef = .pointer (some ⟨g, 0, none⟩) := by simpa using hp
  have hd1' : a.tmps[d]?.getD undef = u := by simpa using hd1
  have hd2' : a.tmps[d2]?.getD undef = u2 := by simpa using hd2
  unfold results
  rw [h]
  go_simp
set_option maxHeartbeats 4000000 in
set_option maxRecDepth 100000 in
theorem rat_Read.semPZ {w : World} {s : ByteArray} {A : Nat} {p q : Int} (hs : s.size ≤ 131072) (h0 : 0 < s.size) (h1 : bt s ((0 : Nat) : Int) ≠ 45) (hd1 : ∀ W, Calls Try.prog 73 #[.string s, .int .i64 ((0 : Nat) : Int)] W (RetV W (.tuple #[.int .i64 ((A : Nat) : Int), .bool true]))) (hn : ∀ W, Calls Try.prog 74 #[.string (s.extract 0 A)] W (ResI W p)) (hbp : Bd 600000 p) (hA : A = s.size) : Calls Try.prog 40 #[.string s] w (ResQii w (qn p 1) (qd p 1) (.int .i64 0) (.int .i64 0)) := by
  have Z := Zt.start w (Has.nil w w)
  obtain ⟨tt, htt⟩ : ∃ b : Bool, b = true := ⟨true, rfl⟩
  obtain ⟨ff, hff⟩ : ∃ b : Bool, b = false := ⟨false, rfl⟩
  go_enter Try.func40, Try.ntmps40
  refine wp_seq ?_
  refine wp_region_list ?_
  refine seq_alloc4 Z rfl rfl ?_; clear Z; intro g1 W Z
  (try simp only [Act.put, List.setIfInBounds_toArray, List.set_cons_zero, List.set_cons_succ])
  refine seq_is (v := .int .i64 (0)) rfl (run_assign rfl rfl) ?_
  (try simp only [Act.put, List.setIfInBounds_toArray, List.set_cons_zero, List.set_cons_succ])
  refine seq_is (v := .int .i64 (0)) rfl (run_assign rfl rfl) ?_
  (try simp only [Act.put, List.setIfInBounds_toArray, List.set_cons_zero, List.set_cons_succ])
  show Code.wp _ _ _ _ _
  refine wp_seq ?_
  refine wp_seq ?_
  refine wp_region_list ?_
  refine seq_is (v := .string s) rfl (run_move rfl rfl) ?_
  (try simp only [Act.put, List.setIfInBounds_toArray, List.set_cons_zero, List.set_cons_succ])
  refine seq_is (v := .int .i64 ((s.size : Nat) : Int)) rfl (run_lenS rfl rfl) ?_
  (try simp only [Act.put, List.setIfInBounds_toArray, List.set_cons_zero, List.set_cons_succ])
  refine seq_is (v := .bool (decide ((131072) < (((s.size : Nat) : Int))))) rfl (run_gtr rfl rfl rfl) ?_
  (try simp only [Act.put, List.setIfInBounds_toArray, List.set_cons_zero, List.set_cons_succ])
  show Code.wp _ _ _ _ _
  refine wp_cond_false ((show _ = Value.bool (decide ((131072) < (((s.size : Nat) : Int)))) from rfl).trans (congrArg Value.bool (decide_eq_false (by omega)))) ?_
  refine wp_skip ?_
  show Code.wp _ _ _ _ _
  refine wp_seq ?_
  refine wp_region_list ?_
  refine seq_is (v := .int .i64 (0)) rfl (run_assign rfl rfl) ?_
  (try simp only [Act.put, List.setIfInBounds_toArray, List.set_cons_zero, List.set_cons_succ])
  show Code.wp _ _ _ _ _
  refine wp_seq ?_
  refine wp_seq ?_
  refine wp_region_list ?_
  refine seq_is (v := .string s) rfl (run_move rfl rfl) ?_
  (try simp only [Act.put, List.setIfInBounds_toArray, List.set_cons_zero, List.set_cons_succ])
  refine seq_call Z rfl rfl Try.func72 rfl rfl (args2 rfl rfl) (Z.callV (strings_HasPrefix.semf h0 h1)) ?_; clear Z; intro x2 W Z
  (try simp only [Act.put, List.setIfInBounds_toArray, List.set_cons_zero, List.set_cons_succ])
  show Code.wp _ _ _ _ _
  refine wp_cond_false rfl ?_
  refine wp_skip ?_
  show Code.wp _ _ _ _ _
  refine wp_seq ?_
  refine wp_region_list ?_
  refine seq_is (v := .string s) rfl (run_move rfl rfl) ?_
  (try simp only [Act.put, List.setIfInBounds_toArray, List.set_cons_zero, List.set_cons_succ])
  refine seq_is (v := .int .i64 (0)) rfl (run_move rfl rfl) ?_
  (try simp only [Act.put, List.setIfInBounds_toArray, List.set_cons_zero, List.set_cons_succ])
  refine seq_call Z rfl rfl Try.func73 rfl rfl (args2 rfl rfl) (Z.callV (hd1 _)) ?_; clear Z; intro x3 W Z
  (try simp only [Act.put, List.setIfInBounds_toArray, List.set_cons_zero, List.set_cons_succ])
  refine seq_is (v := .tuple #[.int .i64 ((A : Nat) : Int), .bool (true)]) rfl (run_move rfl rfl) ?_
  (try simp only [Act.put, List.setIfInBounds_toArray, List.set_cons_zero, List.set_cons_succ])
  refine seq_is (v := .int .i64 ((A : Nat) : Int)) rfl (run_extract rfl rfl rfl) ?_
  (try simp only [Act.put, List.setIfInBounds_toArray, List.set_cons_zero, List.set_cons_succ])
  refine seq_is (v := .bool (true)) rfl (run_extract rfl rfl rfl) ?_
  (try simp only [Act.put, List.setIfInBounds_toArray, List.set_cons_zero, List.set_cons_succ])
  refine seq_is (v := .int .i64 ((A : Nat) : Int)) rfl (run_assign rfl rfl) ?_
  (try simp only [Act.put, List.setIfInBounds_toArray, List.set_cons_zero, List.set_cons_succ])
  refine seq_is (v := .bool (true)) rfl (run_assign rfl rfl) ?_
  (try simp only [Act.put, List.setIfInBounds_toArray, List.set_cons_zero, List.set_cons_succ])
  show Code.wp _ _ _ _ _
  refine wp_seq ?_
  refine wp_seq ?_
  refine wp_region_list ?_
  refine seq_is (v := .bool (true)) rfl (run_move rfl rfl) ?_
  (try simp only [Act.put, List.setIfInBounds_toArray, List.set_cons_zero, List.set_cons_succ])
  refine seq_is (v := .bool (!(true))) rfl (run_not rfl rfl) ?_
  (try simp only [Act.put, List.setIfInBounds_toArray, List.set_cons_zero, List.set_cons_succ])
  refine seq_is (v := .bool (!(true))) rfl (run_move rfl rfl) ?_
  (try simp only [Act.put, List.setIfInBounds_toArray, List.set_cons_zero, List.set_cons_succ])
  refine list_want rfl rfl (congrArg some (congrArg Value.bool (Eq.refl false))) (wp_run (v := .int .i64 (0)) (run_move rfl rfl) ?_)
  (try simp only [Act.put, List.setIfInBounds_toArray, List.set_cons_zero, List.set_cons_succ])
  refine list_want rfl rfl (congrArg some (congrArg Value.bool (Eq.refl false))) (wp_run (v := .bool (decide ((0 : Int) = (1)))) (run_eql rfl rfl rfl) ?_)
  (try simp only [Act.put, List.setIfInBounds_toArray, List.set_cons_zero, List.set_cons_succ])
  refine list_want rfl rfl (congrArg some (congrArg Value.bool (Eq.refl false))) (wp_run (v := .bool (decide ((0 : Int) = (1)))) (run_move rfl rfl) ?_)
  (try simp only [Act.put, List.setIfInBounds_toArray, List.set_cons_zero, List.set_cons_succ])
  refine list_unwant rfl rfl (congrArg some (congrArg Value.bool (Eq.refl false))) (by decide) ?_
  (try simp only [Act.put, List.setIfInBounds_toArray, List.set_cons_zero, List.set_cons_succ])
  refine list_unwant rfl rfl (congrArg some (congrArg Value.bool (Eq.refl false))) (by decide) ?_
  (try simp only [Act.put, List.setIfInBounds_toArray, List.set_cons_zero, List.set_cons_succ])
  refine list_unwant rfl rfl (congrArg some (congrArg Value.bool (Eq.refl false))) (by decide) ?_
  (try simp only [Act.put, List.setIfInBounds_toArray, List.set_cons_zero, List.set_cons_succ])
  refine list_want rfl rfl (congrArg some (congrArg Value.bool (Eq.refl false))) (wp_run (v := .bool (ff)) (run_castR (run_pickF rfl rfl rfl) hff.symm) ?_)
  (try simp only [Act.put, List.setIfInBounds_toArray, List.set_cons_zero, List.set_cons_succ])
  refine seq_is (v := .bool (ff)) rfl (run_pickF rfl rfl rfl) ?_
  (try simp only [Act.put, List.setIfInBounds_toArray, List.set_cons_zero, List.set_cons_succ])
  show Code.wp _ _ _ _ _
  refine wp_cond_false ((show _ = Value.bool (ff) from rfl).trans (congrArg Value.bool hff)) ?_
  refine wp_skip ?_
  show Code.wp _ _ _ _ _
  refine wp_seq ?_
  refine wp_region_list ?_
  refine seq_is (v := .string s) rfl (run_move rfl rfl) ?_
  (try simp only [Act.put, List.setIfInBounds_toArray, List.set_cons_zero, List.set_cons_succ])
  refine seq_is (v := .int .i64 ((A : Nat) : Int)) rfl (run_move rfl rfl) ?_
  (try simp only [Act.put, List.setIfInBounds_toArray, List.set_cons_zero, List.set_cons_succ])
  refine seq_is (v := .string (s.extract 0 (A))) rfl (run_cutT (j := A) (by omega) rfl rfl rfl) ?_
  (try simp only [Act.put, List.setIfInBounds_toArray, List.set_cons_zero, List.set_cons_succ])
  refine seq_call Z rfl rfl Try.func74 rfl rfl (args1 rfl) (Z.callI (hn _)) ?_; clear Z; intro x4 W Z
  (try simp only [Act.put, List.setIfInBounds_toArray, List.set_cons_zero, List.set_cons_succ])
  refine seq_alloc Z rfl rfl ?_; clear Z; intro g5 W Z
  (try simp only [Act.put, List.setIfInBounds_toArray, List.set_cons_zero, List.set_cons_succ])
  refine seq_store Z 0 rfl rfl rfl rfl rfl ?_; clear Z; intro W Z
  (try simp only [Act.put, List.setIfInBounds_toArray, List.set_cons_zero, List.set_cons_succ])
  show Code.wp _ _ _ _ _
  refine wp_seq ?_
  refine wp_region_list ?_
  refine seq_call Z rfl rfl Try.func52 rfl rfl (args1 rfl) (Z.callI (zint_Of.sem (by decide) (by decide))) ?_; clear Z; intro x6 W Z
  (try simp only [Act.put, List.setIfInBounds_toArray, List.set_cons_zero, List.set_cons_succ])
  refine seq_alloc Z rfl rfl ?_; clear Z; intro g7 W Z
  (try simp only [Act.put, List.setIfInBounds_toArray, List.set_cons_zero, List.set_cons_succ])
  refine seq_store Z 0 rfl rfl rfl rfl rfl ?_; clear Z; intro W Z
  (try simp only [Act.put, List.setIfInBounds_toArray, List.set_cons_zero, List.set_cons_succ])
  show Code.wp _ _ _ _ _
  refine wp_seq ?_
  refine wp_seq ?_
  refine wp_region_list ?_
  refine seq_is (v := .int .i64 ((A : Nat) : Int)) rfl (run_move rfl rfl) ?_
  (try simp only [Act.put, List.setIfInBounds_toArray, List.set_cons_zero, List.set_cons_succ])
  refine seq_is (v := .string s) rfl (run_move rfl rfl) ?_
  (try simp only [Act.put, List.setIfInBounds_toArray, List.set_cons_zero, List.set_cons_succ])
  refine seq_is (v := .int .i64 ((s.size : Nat) : Int)) rfl (run_lenS rfl rfl) ?_
  (try simp only [Act.put, List.setIfInBounds_toArray, List.set_cons_zero, List.set_cons_succ])
  refine seq_is (v := .bool (decide ((((A : Nat) : Int)) < (((s.size : Nat) : Int))))) rfl (run_lss rfl rfl rfl) ?_
  (try simp only [Act.put, List.setIfInBounds_toArray, List.set_cons_zero, List.set_cons_succ])
  refine seq_is (v := .bool (decide ((((A : Nat) : Int)) < (((s.size : Nat) : Int))))) rfl (run_move rfl rfl) ?_
  (try simp only [Act.put, List.setIfInBounds_toArray, List.set_cons_zero, List.set_cons_succ])
  refine list_unwant rfl rfl (congrArg some (congrArg Value.bool (decide_eq_false (by omega)))) (by decide) ?_
  (try simp only [Act.put, List.setIfInBounds_toArray, List.set_cons_zero, List.set_cons_succ])
  refine list_unwant rfl rfl (congrArg some (congrArg Value.bool (decide_eq_false (by omega)))) (by decide) ?_
  (try simp only [Act.put, List.setIfInBounds_toArray, List.set_cons_zero, List.set_cons_succ])
  refine list_unwant rfl rfl (congrArg some (congrArg Value.bool (decide_eq_false (by omega)))) (by decide) ?_
  (try simp only [Act.put, List.setIfInBounds_toArray, List.set_cons_zero, List.set_cons_succ])
  refine list_unwant rfl rfl (congrArg some (congrArg Value.bool (decide_eq_false (by omega)))) (by decide) ?_
  (try simp only [Act.put, List.setIfInBounds_toArray, List.set_cons_zero, List.set_cons_succ])
  refine seq_is (v := .bool (ff)) rfl (run_castR (run_pickF rfl ((show _ = Value.bool (decide ((((A : Nat) : Int)) < (((s.size : Nat) : Int)))) from rfl).trans (congrArg Value.bool (decide_eq_false (by omega)))) rfl) hff.symm) ?_
  (try simp only [Act.put, List.setIfInBounds_toArray, List.set_cons_zero, List.set_cons_succ])
  show Code.wp _ _ _ _ _
  refine wp_cond_false ((show _ = Value.bool (ff) from rfl).trans (congrArg Value.bool hff)) ?_
  refine wp_skip ?_
  show Code.wp _ _ _ _ _
  refine wp_seq ?_
  refine wp_seq ?_
  refine wp_region_list ?_
  refine seq_is (v := .int .i64 ((A : Nat) : Int)) rfl (run_move rfl rfl) ?_
  (try simp only [Act.put, List.setIfInBounds_toArray, List.set_cons_zero, List.set_cons_succ])
  refine seq_is (v := .string s) rfl (run_move rfl rfl) ?_
  (try simp only [Act.put, List.setIfInBounds_toArray, List.set_cons_zero, List.set_cons_succ])
  refine seq_is (v := .int .i64 ((s.size : Nat) : Int)) rfl (run_lenS rfl rfl) ?_
  (try simp only [Act.put, List.setIfInBounds_toArray, List.set_cons_zero, List.set_cons_succ])
  refine seq_is (v := .bool (decide ((((A : Nat) : Int)) < (((s.size : Nat) : Int))))) rfl (run_lss rfl rfl rfl) ?_
  (try simp only [Act.put, List.setIfInBounds_toArray, List.set_cons_zero, List.set_cons_succ])
  show Code.wp _ _ _ _ _
  refine wp_cond_false ((show _ = Value.bool (decide ((((A : Nat) : Int)) < (((s.size : Nat) : Int)))) from rfl).trans (congrArg Value.bool (decide_eq_false (by omega)))) ?_
  refine wp_skip ?_
  show Code.wp _ _ _ _ _
  refine wp_seq ?_
  refine wp_region_list ?_
  refine seq_is (v := .agg #[.bool (decide (p < 0)), x4.v]) rfl (run_load2 rfl rfl (Z.bx 1 rfl)) ?_
  (try simp only [Act.put, List.setIfInBounds_toArray, List.set_cons_zero, List.set_cons_succ])
  refine seq_is (v := .agg #[.bool (decide ((1 : Int) < 0)), x6.v]) rfl (run_load2 rfl rfl (Z.bx 0 rfl)) ?_
  (try simp only [Act.put, List.setIfInBounds_toArray, List.set_cons_zero, List.set_cons_succ])
  refine seq_call Z rfl rfl Try.func44 rfl rfl (args2 rfl rfl) (Z.callQ (rat_made.semq (Z.own 1 rfl (Bd.fm (Bd.abs hbp) (by decide))) (Z.own 0 rfl (Bd.fm (Bd.abs (Bd.lit (k := 64) (z := 1) (by decide))) (by decide))) (Bd.mono hbp (by decide)) (Bd.mono (Bd.lit (k := 64) (z := 1) (by decide)) (by decide)) (pos_ne (by decide)))) ?_; clear Z; intro x8 W Z
  (try simp only [Act.put, List.setIfInBounds_toArray, List.set_cons_zero, List.set_cons_succ])
  refine seq_store4 Z 2 rfl rfl rfl rfl rfl ?_; clear Z; intro W Z
  (try simp only [Act.put, List.setIfInBounds_toArray, List.set_cons_zero, List.set_cons_succ])
  refine seq_is (v := .int .i64 (0)) rfl (run_assign rfl rfl) ?_
  (try simp only [Act.put, List.setIfInBounds_toArray, List.set_cons_zero, List.set_cons_succ])
  refine seq_is (v := .int .i64 (0)) rfl (run_assign rfl rfl) ?_
  (try simp only [Act.put, List.setIfInBounds_toArray, List.set_cons_zero, List.set_cons_succ])
  show Code.wp _ _ _ _ _
  refine wp_ret ?_
  exact Z.endsQii (u := .int .i64 (0)) (u2 := .int .i64 (0)) 2 0 1 rfl rfl rfl rfl rfl rfl rfl rfl rfl rfl rfl rfl rfl rfl
set_option maxHeartbeats 4000000 in
set_option maxRecDepth 100000 in
theorem rat_Read.semPQ {w : World} {s : ByteArray} {A : Nat} {p q : Int} (hs : s.size ≤ 131072) (h0 : 0 < s.size) (h1 : bt s ((0 : Nat) : Int) ≠ 45) (hd1 : ∀ W, Calls Try.prog 73 #[.string s, .int .i64 ((0 : Nat) : Int)] W (RetV W (.tuple #[.int .i64 ((A : Nat) : Int), .bool true]))) (hn : ∀ W, Calls Try.prog 74 #[.string (s.extract 0 A)] W (ResI W p)) (hbp : Bd 600000 p) (hA : A + 1 < s.size) (hsl : bt s ((A : Nat) : Int) = 47) (hd2 : ∀ W, Calls Try.prog 73 #[.string s, .int .i64 ((A + 1 : Nat) : Int)] W (RetV W (.tuple #[.int .i64 ((s.size : Nat) : Int), .bool true]))) (h482 : bt s ((A + 1 : Nat) : Int) ≠ 48) (hq : ∀ W, Calls Try.prog 74 #[.string (s.extract (A + 1) s.size)] W (ResI W q)) (hbq : Bd 600000 q) (hqp : 0 < q) : Calls Try.prog 40 #[.string s] w (ResQii w (qn p q) (qd p q) (.int .i64 0) (.int .i64 0)) := by
  have Z := Zt.start w (Has.nil w w)
  obtain ⟨tt, htt⟩ : ∃ b : Bool, b = true := ⟨true, rfl⟩
  obtain ⟨ff, hff⟩ : ∃ b : Bool, b = false := ⟨false, rfl⟩
  go_enter Try.func40, Try.ntmps40
  refine wp_seq ?_
  refine wp_region_list ?_
  refine seq_alloc4 Z rfl rfl ?_; clear Z; intro g1 W Z
  (try simp only [Act.put, List.setIfInBounds_toArray, List.set_cons_zero, List.set_cons_succ])
  refine seq_is (v := .int .i64 (0)) rfl (run_assign rfl rfl) ?_
  (try simp only [Act.put, List.setIfInBounds_toArray, List.set_cons_zero, List.set_cons_succ])
  refine seq_is (v := .int .i64 (0)) rfl (run_assign rfl rfl) ?_
  (try simp only [Act.put, List.setIfInBounds_toArray, List.set_cons_zero, List.set_cons_succ])
  show Code.wp _ _ _ _ _
  refine wp_seq ?_
  refine wp_seq ?_
  refine wp_region_list ?_
  refine seq_is (v := .string s) rfl (run_move rfl rfl) ?_
  (try simp only [Act.put, List.setIfInBounds_toArray, List.set_cons_zero, List.set_cons_succ])
  refine seq_is (v := .int .i64 ((s.size : Nat) : Int)) rfl (run_lenS rfl rfl) ?_
  (try simp only [Act.put, List.setIfInBounds_toArray, List.set_cons_zero, List.set_cons_succ])
  refine seq_is (v := .bool (decide ((131072) < (((s.size : Nat) : Int))))) rfl (run_gtr rfl rfl rfl) ?_
  (try simp only [Act.put, List.setIfInBounds_toArray, List.set_cons_zero, List.set_cons_succ])
  show Code.wp _ _ _ _ _
  refine wp_cond_false ((show _ = Value.bool (decide ((131072) < (((s.size : Nat) : Int)))) from rfl).trans (congrArg Value.bool (decide_eq_false (by omega)))) ?_
  refine wp_skip ?_
  show Code.wp _ _ _ _ _
  refine wp_seq ?_
  refine wp_region_list ?_
  refine seq_is (v := .int .i64 (0)) rfl (run_assign rfl rfl) ?_
  (try simp only [Act.put, List.setIfInBounds_toArray, List.set_cons_zero, List.set_cons_succ])
  show Code.wp _ _ _ _ _
  refine wp_seq ?_
  refine wp_seq ?_
  refine wp_region_list ?_
  refine seq_is (v := .string s) rfl (run_move rfl rfl) ?_
  (try simp only [Act.put, List.setIfInBounds_toArray, List.set_cons_zero, List.set_cons_succ])
  refine seq_call Z rfl rfl Try.func72 rfl rfl (args2 rfl rfl) (Z.callV (strings_HasPrefix.semf h0 h1)) ?_; clear Z; intro x2 W Z
  (try simp only [Act.put, List.setIfInBounds_toArray, List.set_cons_zero, List.set_cons_succ])
  show Code.wp _ _ _ _ _
  refine wp_cond_false rfl ?_
  refine wp_skip ?_
  show Code.wp _ _ _ _ _
  refine wp_seq ?_
  refine wp_region_list ?_
  refine seq_is (v := .string s) rfl (run_move rfl rfl) ?_
  (try simp only [Act.put, List.setIfInBounds_toArray, List.set_cons_zero, List.set_cons_succ])
  refine seq_is (v := .int .i64 (0)) rfl (run_move rfl rfl) ?_
  (try simp only [Act.put, List.setIfInBounds_toArray, List.set_cons_zero, List.set_cons_succ])
  refine seq_call Z rfl rfl Try.func73 rfl rfl (args2 rfl rfl) (Z.callV (hd1 _)) ?_; clear Z; intro x3 W Z
  (try simp only [Act.put, List.setIfInBounds_toArray, List.set_cons_zero, List.set_cons_succ])
  refine seq_is (v := .tuple #[.int .i64 ((A : Nat) : Int), .bool (true)]) rfl (run_move rfl rfl) ?_
  (try simp only [Act.put, List.setIfInBounds_toArray, List.set_cons_zero, List.set_cons_succ])
  refine seq_is (v := .int .i64 ((A : Nat) : Int)) rfl (run_extract rfl rfl rfl) ?_
  (try simp only [Act.put, List.setIfInBounds_toArray, List.set_cons_zero, List.set_cons_succ])
  refine seq_is (v := .bool (true)) rfl (run_extract rfl rfl rfl) ?_
  (try simp only [Act.put, List.setIfInBounds_toArray, List.set_cons_zero, List.set_cons_succ])
  refine seq_is (v := .int .i64 ((A : Nat) : Int)) rfl (run_assign rfl rfl) ?_
  (try simp only [Act.put, List.setIfInBounds_toArray, List.set_cons_zero, List.set_cons_succ])
  refine seq_is (v := .bool (true)) rfl (run_assign rfl rfl) ?_
  (try simp only [Act.put, List.setIfInBounds_toArray, List.set_cons_zero, List.set_cons_succ])
  show Code.wp _ _ _ _ _
  refine wp_seq ?_
  refine wp_seq ?_
  refine wp_region_list ?_
  refine seq_is (v := .bool (true)) rfl (run_move rfl rfl) ?_
  (try simp only [Act.put, List.setIfInBounds_toArray, List.set_cons_zero, List.set_cons_succ])
  refine seq_is (v := .bool (!(true))) rfl (run_not rfl rfl) ?_
  (try simp only [Act.put, List.setIfInBounds_toArray, List.set_cons_zero, List.set_cons_succ])
  refine seq_is (v := .bool (!(true))) rfl (run_move rfl rfl) ?_
  (try simp only [Act.put, List.setIfInBounds_toArray, List.set_cons_zero, List.set_cons_succ])
  refine list_want rfl rfl (congrArg some (congrArg Value.bool (Eq.refl false))) (wp_run (v := .int .i64 (0)) (run_move rfl rfl) ?_)
  (try simp only [Act.put, List.setIfInBounds_toArray, List.set_cons_zero, List.set_cons_succ])
  refine list_want rfl rfl (congrArg some (congrArg Value.bool (Eq.refl false))) (wp_run (v := .bool (decide ((0 : Int) = (1)))) (run_eql rfl rfl rfl) ?_)
  (try simp only [Act.put, List.setIfInBounds_toArray, List.set_cons_zero, List.set_cons_succ])
  refine list_want rfl rfl (congrArg some (congrArg Value.bool (Eq.refl false))) (wp_run (v := .bool (decide ((0 : Int) = (1)))) (run_move rfl rfl) ?_)
  (try simp only [Act.put, List.setIfInBounds_toArray, List.set_cons_zero, List.set_cons_succ])
  refine list_unwant rfl rfl (congrArg some (congrArg Value.bool (Eq.refl false))) (by decide) ?_
  (try simp only [Act.put, List.setIfInBounds_toArray, List.set_cons_zero, List.set_cons_succ])
  refine list_unwant rfl rfl (congrArg some (congrArg Value.bool (Eq.refl false))) (by decide) ?_
  (try simp only [Act.put, List.setIfInBounds_toArray, List.set_cons_zero, List.set_cons_succ])
  refine list_unwant rfl rfl (congrArg some (congrArg Value.bool (Eq.refl false))) (by decide) ?_
  (try simp only [Act.put, List.setIfInBounds_toArray, List.set_cons_zero, List.set_cons_succ])
  refine list_want rfl rfl (congrArg some (congrArg Value.bool (Eq.refl false))) (wp_run (v := .bool (ff)) (run_castR (run_pickF rfl rfl rfl) hff.symm) ?_)
  (try simp only [Act.put, List.setIfInBounds_toArray, List.set_cons_zero, List.set_cons_succ])
  refine seq_is (v := .bool (ff)) rfl (run_pickF rfl rfl rfl) ?_
  (try simp only [Act.put, List.setIfInBounds_toArray, List.set_cons_zero, List.set_cons_succ])
  show Code.wp _ _ _ _ _
  refine wp_cond_false ((show _ = Value.bool (ff) from rfl).trans (congrArg Value.bool hff)) ?_
  refine wp_skip ?_
  show Code.wp _ _ _ _ _
  refine wp_seq ?_
  refine wp_region_list ?_
  refine seq_is (v := .string s) rfl (run_move rfl rfl) ?_
  (try simp only [Act.put, List.setIfInBounds_toArray, List.set_cons_zero, List.set_cons_succ])
  refine seq_is (v := .int .i64 ((A : Nat) : Int)) rfl (run_move rfl rfl) ?_
  (try simp only [Act.put, List.setIfInBounds_toArray, List.set_cons_zero, List.set_cons_succ])
  refine seq_is (v := .string (s.extract 0 (A))) rfl (run_cutT (j := A) (by omega) rfl rfl rfl) ?_
  (try simp only [Act.put, List.setIfInBounds_toArray, List.set_cons_zero, List.set_cons_succ])
  refine seq_call Z rfl rfl Try.func74 rfl rfl (args1 rfl) (Z.callI (hn _)) ?_; clear Z; intro x4 W Z
  (try simp only [Act.put, List.setIfInBounds_toArray, List.set_cons_zero, List.set_cons_succ])
  refine seq_alloc Z rfl rfl ?_; clear Z; intro g5 W Z
  (try simp only [Act.put, List.setIfInBounds_toArray, List.set_cons_zero, List.set_cons_succ])
  refine seq_store Z 0 rfl rfl rfl rfl rfl ?_; clear Z; intro W Z
  (try simp only [Act.put, List.setIfInBounds_toArray, List.set_cons_zero, List.set_cons_succ])
  show Code.wp _ _ _ _ _
  refine wp_seq ?_
  refine wp_region_list ?_
  refine seq_call Z rfl rfl Try.func52 rfl rfl (args1 rfl) (Z.callI (zint_Of.sem (by decide) (by decide))) ?_; clear Z; intro x6 W Z
  (try simp only [Act.put, List.setIfInBounds_toArray, List.set_cons_zero, List.set_cons_succ])
  refine seq_alloc Z rfl rfl ?_; clear Z; intro g7 W Z
  (try simp only [Act.put, List.setIfInBounds_toArray, List.set_cons_zero, List.set_cons_succ])
  refine seq_store Z 0 rfl rfl rfl rfl rfl ?_; clear Z; intro W Z
  (try simp only [Act.put, List.setIfInBounds_toArray, List.set_cons_zero, List.set_cons_succ])
  show Code.wp _ _ _ _ _
  refine wp_seq ?_
  refine wp_seq ?_
  refine wp_region_list ?_
  refine seq_is (v := .int .i64 ((A : Nat) : Int)) rfl (run_move rfl rfl) ?_
  (try simp only [Act.put, List.setIfInBounds_toArray, List.set_cons_zero, List.set_cons_succ])
  refine seq_is (v := .string s) rfl (run_move rfl rfl) ?_
  (try simp only [Act.put, List.setIfInBounds_toArray, List.set_cons_zero, List.set_cons_succ])
  refine seq_is (v := .int .i64 ((s.size : Nat) : Int)) rfl (run_lenS rfl rfl) ?_
  (try simp only [Act.put, List.setIfInBounds_toArray, List.set_cons_zero, List.set_cons_succ])
  refine seq_is (v := .bool (decide ((((A : Nat) : Int)) < (((s.size : Nat) : Int))))) rfl (run_lss rfl rfl rfl) ?_
  (try simp only [Act.put, List.setIfInBounds_toArray, List.set_cons_zero, List.set_cons_succ])
  refine seq_is (v := .bool (decide ((((A : Nat) : Int)) < (((s.size : Nat) : Int))))) rfl (run_move rfl rfl) ?_
  (try simp only [Act.put, List.setIfInBounds_toArray, List.set_cons_zero, List.set_cons_succ])
  refine list_want rfl rfl (congrArg some (congrArg Value.bool (decide_eq_true (by omega)))) (wp_run (v := .string s) (run_move rfl rfl) ?_)
  (try simp only [Act.put, List.setIfInBounds_toArray, List.set_cons_zero, List.set_cons_succ])
  refine list_want rfl rfl (congrArg some (congrArg Value.bool (decide_eq_true (by omega)))) (wp_run (v := .int .i64 ((A : Nat) : Int)) (run_move rfl rfl) ?_)
  (try simp only [Act.put, List.setIfInBounds_toArray, List.set_cons_zero, List.set_cons_succ])
  refine list_want rfl rfl (congrArg some (congrArg Value.bool (decide_eq_true (by omega)))) (wp_run (v := .int .u8 (bt s (((A : Nat) : Int)))) (run_idxS (by omega) (by omega) rfl rfl rfl) ?_)
  (try simp only [Act.put, List.setIfInBounds_toArray, List.set_cons_zero, List.set_cons_succ])
  refine list_want rfl rfl (congrArg some (congrArg Value.bool (decide_eq_true (by omega)))) (wp_run (v := .bool (decide ((bt s (((A : Nat) : Int))) = (47)))) (run_eqlY rfl rfl rfl) ?_)
  (try simp only [Act.put, List.setIfInBounds_toArray, List.set_cons_zero, List.set_cons_succ])
  refine seq_is (v := .bool (decide ((bt s (((A : Nat) : Int))) = (47)))) rfl (run_pickT rfl ((show _ = Value.bool (decide ((((A : Nat) : Int)) < (((s.size : Nat) : Int)))) from rfl).trans (congrArg Value.bool (decide_eq_true (by omega)))) rfl) ?_
  (try simp only [Act.put, List.setIfInBounds_toArray, List.set_cons_zero, List.set_cons_succ])
  show Code.wp _ _ _ _ _
  refine wp_cond_true ((show _ = Value.bool (decide ((bt s (((A : Nat) : Int))) = (47))) from rfl).trans (congrArg Value.bool (decide_eq_true (by omega)))) ?_
  refine wp_seq ?_
  refine wp_region_list ?_
  refine seq_is (v := .string s) rfl (run_move rfl rfl) ?_
  (try simp only [Act.put, List.setIfInBounds_toArray, List.set_cons_zero, List.set_cons_succ])
  refine seq_is (v := .int .i64 ((A : Nat) : Int)) rfl (run_move rfl rfl) ?_
  (try simp only [Act.put, List.setIfInBounds_toArray, List.set_cons_zero, List.set_cons_succ])
  refine seq_is (v := .int .i64 ((A + 1 : Nat) : Int)) rfl (run_incN (i := A) rfl (by omega) rfl rfl rfl) ?_
  (try simp only [Act.put, List.setIfInBounds_toArray, List.set_cons_zero, List.set_cons_succ])
  refine seq_call Z rfl rfl Try.func73 rfl rfl (args2 rfl rfl) (Z.callV (hd2 _)) ?_; clear Z; intro x8 W Z
  (try simp only [Act.put, List.setIfInBounds_toArray, List.set_cons_zero, List.set_cons_succ])
  refine seq_is (v := .tuple #[.int .i64 ((s.size : Nat) : Int), .bool (true)]) rfl (run_move rfl rfl) ?_
  (try simp only [Act.put, List.setIfInBounds_toArray, List.set_cons_zero, List.set_cons_succ])
  refine seq_is (v := .int .i64 ((s.size : Nat) : Int)) rfl (run_extract rfl rfl rfl) ?_
  (try simp only [Act.put, List.setIfInBounds_toArray, List.set_cons_zero, List.set_cons_succ])
  refine seq_is (v := .bool (true)) rfl (run_extract rfl rfl rfl) ?_
  (try simp only [Act.put, List.setIfInBounds_toArray, List.set_cons_zero, List.set_cons_succ])
  refine seq_is (v := .int .i64 ((s.size : Nat) : Int)) rfl (run_assign rfl rfl) ?_
  (try simp only [Act.put, List.setIfInBounds_toArray, List.set_cons_zero, List.set_cons_succ])
  refine seq_is (v := .bool (true)) rfl (run_assign rfl rfl) ?_
  (try simp only [Act.put, List.setIfInBounds_toArray, List.set_cons_zero, List.set_cons_succ])
  show Code.wp _ _ _ _ _
  refine wp_seq ?_
  refine wp_seq ?_
  refine wp_region_list ?_
  refine seq_is (v := .bool (true)) rfl (run_move rfl rfl) ?_
  (try simp only [Act.put, List.setIfInBounds_toArray, List.set_cons_zero, List.set_cons_succ])
  refine seq_is (v := .bool (!(true))) rfl (run_not rfl rfl) ?_
  (try simp only [Act.put, List.setIfInBounds_toArray, List.set_cons_zero, List.set_cons_succ])
  refine seq_is (v := .bool (!(true))) rfl (run_move rfl rfl) ?_
  (try simp only [Act.put, List.setIfInBounds_toArray, List.set_cons_zero, List.set_cons_succ])
  refine list_want rfl rfl (congrArg some (congrArg Value.bool (Eq.refl false))) (wp_run (v := .string s) (run_move rfl rfl) ?_)
  (try simp only [Act.put, List.setIfInBounds_toArray, List.set_cons_zero, List.set_cons_succ])
  refine list_want rfl rfl (congrArg some (congrArg Value.bool (Eq.refl false))) (wp_run (v := .int .i64 ((A : Nat) : Int)) (run_move rfl rfl) ?_)
  (try simp only [Act.put, List.setIfInBounds_toArray, List.set_cons_zero, List.set_cons_succ])
  refine list_want rfl rfl (congrArg some (congrArg Value.bool (Eq.refl false))) (wp_run (v := .int .i64 ((A + 1 : Nat) : Int)) (run_incN (i := A) rfl (by omega) rfl rfl rfl) ?_)
  (try simp only [Act.put, List.setIfInBounds_toArray, List.set_cons_zero, List.set_cons_succ])
  refine list_want rfl rfl (congrArg some (congrArg Value.bool (Eq.refl false))) (wp_run (v := .int .u8 (bt s (((A + 1 : Nat) : Int)))) (run_idxS (by omega) (by omega) rfl rfl rfl) ?_)
  (try simp only [Act.put, List.setIfInBounds_toArray, List.set_cons_zero, List.set_cons_succ])
  refine list_want rfl rfl (congrArg some (congrArg Value.bool (Eq.refl false))) (wp_run (v := .bool (decide ((bt s (((A + 1 : Nat) : Int))) = (48)))) (run_eqlY rfl rfl rfl) ?_)
  (try simp only [Act.put, List.setIfInBounds_toArray, List.set_cons_zero, List.set_cons_succ])
  refine seq_is (v := .bool (decide ((bt s (((A + 1 : Nat) : Int))) = (48)))) rfl (run_pickF rfl rfl rfl) ?_
  (try simp only [Act.put, List.setIfInBounds_toArray, List.set_cons_zero, List.set_cons_succ])
  show Code.wp _ _ _ _ _
  refine wp_cond_false ((show _ = Value.bool (decide ((bt s (((A + 1 : Nat) : Int))) = (48))) from rfl).trans (congrArg Value.bool (decide_eq_false (by omega)))) ?_
  refine wp_skip ?_
  show Code.wp _ _ _ _ _
  refine wp_seq ?_
  refine wp_region_list ?_
  refine seq_is (v := .string s) rfl (run_move rfl rfl) ?_
  (try simp only [Act.put, List.setIfInBounds_toArray, List.set_cons_zero, List.set_cons_succ])
  refine seq_is (v := .int .i64 ((A : Nat) : Int)) rfl (run_move rfl rfl) ?_
  (try simp only [Act.put, List.setIfInBounds_toArray, List.set_cons_zero, List.set_cons_succ])
  refine seq_is (v := .int .i64 ((A + 1 : Nat) : Int)) rfl (run_incN (i := A) rfl (by omega) rfl rfl rfl) ?_
  (try simp only [Act.put, List.setIfInBounds_toArray, List.set_cons_zero, List.set_cons_succ])
  refine seq_is (v := .int .i64 ((s.size : Nat) : Int)) rfl (run_move rfl rfl) ?_
  (try simp only [Act.put, List.setIfInBounds_toArray, List.set_cons_zero, List.set_cons_succ])
  refine seq_is (v := .string (s.extract (A + 1) (s.size))) rfl (run_cutM (i := A + 1) (j := s.size) (by omega) (by omega) rfl rfl rfl rfl) ?_
  (try simp only [Act.put, List.setIfInBounds_toArray, List.set_cons_zero, List.set_cons_succ])
  refine seq_call Z rfl rfl Try.func74 rfl rfl (args1 rfl) (Z.callI (hq _)) ?_; clear Z; intro x9 W Z
  (try simp only [Act.put, List.setIfInBounds_toArray, List.set_cons_zero, List.set_cons_succ])
  refine seq_store Z 0 rfl rfl rfl rfl rfl ?_; clear Z; intro W Z
  (try simp only [Act.put, List.setIfInBounds_toArray, List.set_cons_zero, List.set_cons_succ])
  show Code.wp _ _ _ _ _
  refine wp_region_list ?_
  refine seq_is (v := .int .i64 ((s.size : Nat) : Int)) rfl (run_move rfl rfl) ?_
  (try simp only [Act.put, List.setIfInBounds_toArray, List.set_cons_zero, List.set_cons_succ])
  refine seq_is (v := .int .i64 ((s.size : Nat) : Int)) rfl (run_assign rfl rfl) ?_
  (try simp only [Act.put, List.setIfInBounds_toArray, List.set_cons_zero, List.set_cons_succ])
  show Code.wp _ _ _ _ _
  refine wp_seq ?_
  refine wp_seq ?_
  refine wp_region_list ?_
  refine seq_is (v := .int .i64 ((s.size : Nat) : Int)) rfl (run_move rfl rfl) ?_
  (try simp only [Act.put, List.setIfInBounds_toArray, List.set_cons_zero, List.set_cons_succ])
  refine seq_is (v := .string s) rfl (run_move rfl rfl) ?_
  (try simp only [Act.put, List.setIfInBounds_toArray, List.set_cons_zero, List.set_cons_succ])
  refine seq_is (v := .int .i64 ((s.size : Nat) : Int)) rfl (run_lenS rfl rfl) ?_
  (try simp only [Act.put, List.setIfInBounds_toArray, List.set_cons_zero, List.set_cons_succ])
  refine seq_is (v := .bool (decide ((((s.size : Nat) : Int)) < (((s.size : Nat) : Int))))) rfl (run_lss rfl rfl rfl) ?_
  (try simp only [Act.put, List.setIfInBounds_toArray, List.set_cons_zero, List.set_cons_succ])
  show Code.wp _ _ _ _ _
  refine wp_cond_false ((show _ = Value.bool (decide ((((s.size : Nat) : Int)) < (((s.size : Nat) : Int)))) from rfl).trans (congrArg Value.bool (decide_eq_false (by omega)))) ?_
  refine wp_skip ?_
  show Code.wp _ _ _ _ _
  refine wp_seq ?_
  refine wp_region_list ?_
  refine seq_is (v := .agg #[.bool (decide (p < 0)), x4.v]) rfl (run_load2 rfl rfl (Z.bx 1 rfl)) ?_
  (try simp only [Act.put, List.setIfInBounds_toArray, List.set_cons_zero, List.set_cons_succ])
  refine seq_is (v := .agg #[.bool (decide (q < 0)), x9.v]) rfl (run_load2 rfl rfl (Z.bx 0 rfl)) ?_
  (try simp only [Act.put, List.setIfInBounds_toArray, List.set_cons_zero, List.set_cons_succ])
  refine seq_call Z rfl rfl Try.func44 rfl rfl (args2 rfl rfl) (Z.callQ (rat_made.semq (Z.own 2 rfl (Bd.fm (Bd.abs hbp) (by decide))) (Z.own 0 rfl (Bd.fm (Bd.abs hbq) (by decide))) (Bd.mono hbp (by decide)) (Bd.mono hbq (by decide)) (pos_ne hqp))) ?_; clear Z; intro x10 W Z
  (try simp only [Act.put, List.setIfInBounds_toArray, List.set_cons_zero, List.set_cons_succ])
  refine seq_store4 Z 2 rfl rfl rfl rfl rfl ?_; clear Z; intro W Z
  (try simp only [Act.put, List.setIfInBounds_toArray, List.set_cons_zero, List.set_cons_succ])
  refine seq_is (v := .int .i64 (0)) rfl (run_assign rfl rfl) ?_
  (try simp only [Act.put, List.setIfInBounds_toArray, List.set_cons_zero, List.set_cons_succ])
  refine seq_is (v := .int .i64 (0)) rfl (run_assign rfl rfl) ?_
  (try simp only [Act.put, List.setIfInBounds_toArray, List.set_cons_zero, List.set_cons_succ])
  show Code.wp _ _ _ _ _
  refine wp_ret ?_
  exact Z.endsQii (u := .int .i64 (0)) (u2 := .int .i64 (0)) 2 0 1 rfl rfl rfl rfl rfl rfl rfl rfl rfl rfl rfl rfl rfl rfl
set_option maxHeartbeats 4000000 in
set_option maxRecDepth 100000 in
theorem rat_Read.semMZ {w : World} {s : ByteArray} {A : Nat} {p q : Int} (hs : s.size ≤ 131072) (h0 : 0 < s.size) (h1 : bt s ((0 : Nat) : Int) = 45) (hd1 : ∀ W, Calls Try.prog 73 #[.string s, .int .i64 ((1 : Nat) : Int)] W (RetV W (.tuple #[.int .i64 ((A : Nat) : Int), .bool true]))) (h48 : 1 < s.size ∧ bt s ((1 : Nat) : Int) ≠ 48) (hn : ∀ W, Calls Try.prog 74 #[.string (s.extract 0 A)] W (ResI W p)) (hbp : Bd 600000 p) (hA : A = s.size) : Calls Try.prog 40 #[.string s] w (ResQii w (qn p 1) (qd p 1) (.int .i64 0) (.int .i64 0)) := by
  have Z := Zt.start w (Has.nil w w)
  obtain ⟨tt, htt⟩ : ∃ b : Bool, b = true := ⟨true, rfl⟩
  obtain ⟨ff, hff⟩ : ∃ b : Bool, b = false := ⟨false, rfl⟩
  have h48' : bt s 1 ≠ 48 := h48.2
  have h48'' := h48.1
  go_enter Try.func40, Try.ntmps40
  refine wp_seq ?_
  refine wp_region_list ?_
  refine seq_alloc4 Z rfl rfl ?_; clear Z; intro g1 W Z
  (try simp only [Act.put, List.setIfInBounds_toArray, List.set_cons_zero, List.set_cons_succ])
  refine seq_is (v := .int .i64 (0)) rfl (run_assign rfl rfl) ?_
  (try simp only [Act.put, List.setIfInBounds_toArray, List.set_cons_zero, List.set_cons_succ])
  refine seq_is (v := .int .i64 (0)) rfl (run_assign rfl rfl) ?_
  (try simp only [Act.put, List.setIfInBounds_toArray, List.set_cons_zero, List.set_cons_succ])
  show Code.wp _ _ _ _ _
  refine wp_seq ?_
  refine wp_seq ?_
  refine wp_region_list ?_
  refine seq_is (v := .string s) rfl (run_move rfl rfl) ?_
  (try simp only [Act.put, List.setIfInBounds_toArray, List.set_cons_zero, List.set_cons_succ])
  refine seq_is (v := .int .i64 ((s.size : Nat) : Int)) rfl (run_lenS rfl rfl) ?_
  (try simp only [Act.put, List.setIfInBounds_toArray, List.set_cons_zero, List.set_cons_succ])
  refine seq_is (v := .bool (decide ((131072) < (((s.size : Nat) : Int))))) rfl (run_gtr rfl rfl rfl) ?_
  (try simp only [Act.put, List.setIfInBounds_toArray, List.set_cons_zero, List.set_cons_succ])
  show Code.wp _ _ _ _ _
  refine wp_cond_false ((show _ = Value.bool (decide ((131072) < (((s.size : Nat) : Int)))) from rfl).trans (congrArg Value.bool (decide_eq_false (by omega)))) ?_
  refine wp_skip ?_
  show Code.wp _ _ _ _ _
  refine wp_seq ?_
  refine wp_region_list ?_
  refine seq_is (v := .int .i64 (0)) rfl (run_assign rfl rfl) ?_
  (try simp only [Act.put, List.setIfInBounds_toArray, List.set_cons_zero, List.set_cons_succ])
  show Code.wp _ _ _ _ _
  refine wp_seq ?_
  refine wp_seq ?_
  refine wp_region_list ?_
  refine seq_is (v := .string s) rfl (run_move rfl rfl) ?_
  (try simp only [Act.put, List.setIfInBounds_toArray, List.set_cons_zero, List.set_cons_succ])
  refine seq_call Z rfl rfl Try.func72 rfl rfl (args2 rfl rfl) (Z.callV (strings_HasPrefix.semt h0 h1)) ?_; clear Z; intro x2 W Z
  (try simp only [Act.put, List.setIfInBounds_toArray, List.set_cons_zero, List.set_cons_succ])
  show Code.wp _ _ _ _ _
  refine wp_cond_true rfl ?_
  refine wp_region_list ?_
  refine seq_is (v := .int .i64 (1)) rfl (run_assign rfl rfl) ?_
  (try simp only [Act.put, List.setIfInBounds_toArray, List.set_cons_zero, List.set_cons_succ])
  show Code.wp _ _ _ _ _
  refine wp_seq ?_
  refine wp_region_list ?_
  refine seq_is (v := .string s) rfl (run_move rfl rfl) ?_
  (try simp only [Act.put, List.setIfInBounds_toArray, List.set_cons_zero, List.set_cons_succ])
  refine seq_is (v := .int .i64 (1)) rfl (run_move rfl rfl) ?_
  (try simp only [Act.put, List.setIfInBounds_toArray, List.set_cons_zero, List.set_cons_succ])
  refine seq_call Z rfl rfl Try.func73 rfl rfl (args2 rfl rfl) (Z.callV (hd1 _)) ?_; clear Z; intro x3 W Z
  (try simp only [Act.put, List.setIfInBounds_toArray, List.set_cons_zero, List.set_cons_succ])
  refine seq_is (v := .tuple #[.int .i64 ((A : Nat) : Int), .bool (true)]) rfl (run_move rfl rfl) ?_
  (try simp only [Act.put, List.setIfInBounds_toArray, List.set_cons_zero, List.set_cons_succ])
  refine seq_is (v := .int .i64 ((A : Nat) : Int)) rfl (run_extract rfl rfl rfl) ?_
  (try simp only [Act.put, List.setIfInBounds_toArray, List.set_cons_zero, List.set_cons_succ])
  refine seq_is (v := .bool (true)) rfl (run_extract rfl rfl rfl) ?_
  (try simp only [Act.put, List.setIfInBounds_toArray, List.set_cons_zero, List.set_cons_succ])
  refine seq_is (v := .int .i64 ((A : Nat) : Int)) rfl (run_assign rfl rfl) ?_
  (try simp only [Act.put, List.setIfInBounds_toArray, List.set_cons_zero, List.set_cons_succ])
  refine seq_is (v := .bool (true)) rfl (run_assign rfl rfl) ?_
  (try simp only [Act.put, List.setIfInBounds_toArray, List.set_cons_zero, List.set_cons_succ])
  show Code.wp _ _ _ _ _
  refine wp_seq ?_
  refine wp_seq ?_
  refine wp_region_list ?_
  refine seq_is (v := .bool (true)) rfl (run_move rfl rfl) ?_
  (try simp only [Act.put, List.setIfInBounds_toArray, List.set_cons_zero, List.set_cons_succ])
  refine seq_is (v := .bool (!(true))) rfl (run_not rfl rfl) ?_
  (try simp only [Act.put, List.setIfInBounds_toArray, List.set_cons_zero, List.set_cons_succ])
  refine seq_is (v := .bool (!(true))) rfl (run_move rfl rfl) ?_
  (try simp only [Act.put, List.setIfInBounds_toArray, List.set_cons_zero, List.set_cons_succ])
  refine list_want rfl rfl (congrArg some (congrArg Value.bool (Eq.refl false))) (wp_run (v := .int .i64 (1)) (run_move rfl rfl) ?_)
  (try simp only [Act.put, List.setIfInBounds_toArray, List.set_cons_zero, List.set_cons_succ])
  refine list_want rfl rfl (congrArg some (congrArg Value.bool (Eq.refl false))) (wp_run (v := .bool (decide ((1 : Int) = (1)))) (run_eql rfl rfl rfl) ?_)
  (try simp only [Act.put, List.setIfInBounds_toArray, List.set_cons_zero, List.set_cons_succ])
  refine list_want rfl rfl (congrArg some (congrArg Value.bool (Eq.refl false))) (wp_run (v := .bool (decide ((1 : Int) = (1)))) (run_move rfl rfl) ?_)
  (try simp only [Act.put, List.setIfInBounds_toArray, List.set_cons_zero, List.set_cons_succ])
  refine list_want rfl rfl (congrArg some (congrArg Value.bool (Eq.refl true))) (wp_run (v := .string s) (run_move rfl rfl) ?_)
  (try simp only [Act.put, List.setIfInBounds_toArray, List.set_cons_zero, List.set_cons_succ])
  refine list_want rfl rfl (congrArg some (congrArg Value.bool (Eq.refl true))) (wp_run (v := .int .u8 (bt s (1))) (run_idxS (by omega) (by omega) rfl rfl rfl) ?_)
  (try simp only [Act.put, List.setIfInBounds_toArray, List.set_cons_zero, List.set_cons_succ])
  refine list_want rfl rfl (congrArg some (congrArg Value.bool (Eq.refl true))) (wp_run (v := .bool (decide ((bt s (1)) = (48)))) (run_eqlY rfl rfl rfl) ?_)
  (try simp only [Act.put, List.setIfInBounds_toArray, List.set_cons_zero, List.set_cons_succ])
  refine list_want rfl rfl (congrArg some (congrArg Value.bool (Eq.refl false))) (wp_run (v := .bool (decide ((bt s (1)) = (48)))) (run_pickT rfl rfl rfl) ?_)
  (try simp only [Act.put, List.setIfInBounds_toArray, List.set_cons_zero, List.set_cons_succ])
  refine seq_is (v := .bool (decide ((bt s (1)) = (48)))) rfl (run_pickF rfl rfl rfl) ?_
  (try simp only [Act.put, List.setIfInBounds_toArray, List.set_cons_zero, List.set_cons_succ])
  show Code.wp _ _ _ _ _
  refine wp_cond_false ((show _ = Value.bool (decide ((bt s (1)) = (48))) from rfl).trans (congrArg Value.bool (decide_eq_false (by omega)))) ?_
  refine wp_skip ?_
  show Code.wp _ _ _ _ _
  refine wp_seq ?_
  refine wp_region_list ?_
  refine seq_is (v := .string s) rfl (run_move rfl rfl) ?_
  (try simp only [Act.put, List.setIfInBounds_toArray, List.set_cons_zero, List.set_cons_succ])
  refine seq_is (v := .int .i64 ((A : Nat) : Int)) rfl (run_move rfl rfl) ?_
  (try simp only [Act.put, List.setIfInBounds_toArray, List.set_cons_zero, List.set_cons_succ])
  refine seq_is (v := .string (s.extract 0 (A))) rfl (run_cutT (j := A) (by omega) rfl rfl rfl) ?_
  (try simp only [Act.put, List.setIfInBounds_toArray, List.set_cons_zero, List.set_cons_succ])
  refine seq_call Z rfl rfl Try.func74 rfl rfl (args1 rfl) (Z.callI (hn _)) ?_; clear Z; intro x4 W Z
  (try simp only [Act.put, List.setIfInBounds_toArray, List.set_cons_zero, List.set_cons_succ])
  refine seq_alloc Z rfl rfl ?_; clear Z; intro g5 W Z
  (try simp only [Act.put, List.setIfInBounds_toArray, List.set_cons_zero, List.set_cons_succ])
  refine seq_store Z 0 rfl rfl rfl rfl rfl ?_; clear Z; intro W Z
  (try simp only [Act.put, List.setIfInBounds_toArray, List.set_cons_zero, List.set_cons_succ])
  show Code.wp _ _ _ _ _
  refine wp_seq ?_
  refine wp_region_list ?_
  refine seq_call Z rfl rfl Try.func52 rfl rfl (args1 rfl) (Z.callI (zint_Of.sem (by decide) (by decide))) ?_; clear Z; intro x6 W Z
  (try simp only [Act.put, List.setIfInBounds_toArray, List.set_cons_zero, List.set_cons_succ])
  refine seq_alloc Z rfl rfl ?_; clear Z; intro g7 W Z
  (try simp only [Act.put, List.setIfInBounds_toArray, List.set_cons_zero, List.set_cons_succ])
  refine seq_store Z 0 rfl rfl rfl rfl rfl ?_; clear Z; intro W Z
  (try simp only [Act.put, List.setIfInBounds_toArray, List.set_cons_zero, List.set_cons_succ])
  show Code.wp _ _ _ _ _
  refine wp_seq ?_
  refine wp_seq ?_
  refine wp_region_list ?_
  refine seq_is (v := .int .i64 ((A : Nat) : Int)) rfl (run_move rfl rfl) ?_
  (try simp only [Act.put, List.setIfInBounds_toArray, List.set_cons_zero, List.set_cons_succ])
  refine seq_is (v := .string s) rfl (run_move rfl rfl) ?_
  (try simp only [Act.put, List.setIfInBounds_toArray, List.set_cons_zero, List.set_cons_succ])
  refine seq_is (v := .int .i64 ((s.size : Nat) : Int)) rfl (run_lenS rfl rfl) ?_
  (try simp only [Act.put, List.setIfInBounds_toArray, List.set_cons_zero, List.set_cons_succ])
  refine seq_is (v := .bool (decide ((((A : Nat) : Int)) < (((s.size : Nat) : Int))))) rfl (run_lss rfl rfl rfl) ?_
  (try simp only [Act.put, List.setIfInBounds_toArray, List.set_cons_zero, List.set_cons_succ])
  refine seq_is (v := .bool (decide ((((A : Nat) : Int)) < (((s.size : Nat) : Int))))) rfl (run_move rfl rfl) ?_
  (try simp only [Act.put, List.setIfInBounds_toArray, List.set_cons_zero, List.set_cons_succ])
  refine list_unwant rfl rfl (congrArg some (congrArg Value.bool (decide_eq_false (by omega)))) (by decide) ?_
  (try simp only [Act.put, List.setIfInBounds_toArray, List.set_cons_zero, List.set_cons_succ])
  refine list_unwant rfl rfl (congrArg some (congrArg Value.bool (decide_eq_false (by omega)))) (by decide) ?_
  (try simp only [Act.put, List.setIfInBounds_toArray, List.set_cons_zero, List.set_cons_succ])
  refine list_unwant rfl rfl (congrArg some (congrArg Value.bool (decide_eq_false (by omega)))) (by decide) ?_
  (try simp only [Act.put, List.setIfInBounds_toArray, List.set_cons_zero, List.set_cons_succ])
  refine list_unwant rfl rfl (congrArg some (congrArg Value.bool (decide_eq_false (by omega)))) (by decide) ?_
  (try simp only [Act.put, List.setIfInBounds_toArray, List.set_cons_zero, List.set_cons_succ])
  refine seq_is (v := .bool (ff)) rfl (run_castR (run_pickF rfl ((show _ = Value.bool (decide ((((A : Nat) : Int)) < (((s.size : Nat) : Int)))) from rfl).trans (congrArg Value.bool (decide_eq_false (by omega)))) rfl) hff.symm) ?_
  (try simp only [Act.put, List.setIfInBounds_toArray, List.set_cons_zero, List.set_cons_succ])
  show Code.wp _ _ _ _ _
  refine wp_cond_false ((show _ = Value.bool (ff) from rfl).trans (congrArg Value.bool hff)) ?_
  refine wp_skip ?_
  show Code.wp _ _ _ _ _
  refine wp_seq ?_
  refine wp_seq ?_
  refine wp_region_list ?_
  refine seq_is (v := .int .i64 ((A : Nat) : Int)) rfl (run_move rfl rfl) ?_
  (try simp only [Act.put, List.setIfInBounds_toArray, List.set_cons_zero, List.set_cons_succ])
  refine seq_is (v := .string s) rfl (run_move rfl rfl) ?_
  (try simp only [Act.put, List.setIfInBounds_toArray, List.set_cons_zero, List.set_cons_succ])
  refine seq_is (v := .int .i64 ((s.size : Nat) : Int)) rfl (run_lenS rfl rfl) ?_
  (try simp only [Act.put, List.setIfInBounds_toArray, List.set_cons_zero, List.set_cons_succ])
  refine seq_is (v := .bool (decide ((((A : Nat) : Int)) < (((s.size : Nat) : Int))))) rfl (run_lss rfl rfl rfl) ?_
  (try simp only [Act.put, List.setIfInBounds_toArray, List.set_cons_zero, List.set_cons_succ])
  show Code.wp _ _ _ _ _
  refine wp_cond_false ((show _ = Value.bool (decide ((((A : Nat) : Int)) < (((s.size : Nat) : Int)))) from rfl).trans (congrArg Value.bool (decide_eq_false (by omega)))) ?_
  refine wp_skip ?_
  show Code.wp _ _ _ _ _
  refine wp_seq ?_
  refine wp_region_list ?_
  refine seq_is (v := .agg #[.bool (decide (p < 0)), x4.v]) rfl (run_load2 rfl rfl (Z.bx 1 rfl)) ?_
  (try simp only [Act.put, List.setIfInBounds_toArray, List.set_cons_zero, List.set_cons_succ])
  refine seq_is (v := .agg #[.bool (decide ((1 : Int) < 0)), x6.v]) rfl (run_load2 rfl rfl (Z.bx 0 rfl)) ?_
  (try simp only [Act.put, List.setIfInBounds_toArray, List.set_cons_zero, List.set_cons_succ])
  refine seq_call Z rfl rfl Try.func44 rfl rfl (args2 rfl rfl) (Z.callQ (rat_made.semq (Z.own 1 rfl (Bd.fm (Bd.abs hbp) (by decide))) (Z.own 0 rfl (Bd.fm (Bd.abs (Bd.lit (k := 64) (z := 1) (by decide))) (by decide))) (Bd.mono hbp (by decide)) (Bd.mono (Bd.lit (k := 64) (z := 1) (by decide)) (by decide)) (pos_ne (by decide)))) ?_; clear Z; intro x8 W Z
  (try simp only [Act.put, List.setIfInBounds_toArray, List.set_cons_zero, List.set_cons_succ])
  refine seq_store4 Z 2 rfl rfl rfl rfl rfl ?_; clear Z; intro W Z
  (try simp only [Act.put, List.setIfInBounds_toArray, List.set_cons_zero, List.set_cons_succ])
  refine seq_is (v := .int .i64 (0)) rfl (run_assign rfl rfl) ?_
  (try simp only [Act.put, List.setIfInBounds_toArray, List.set_cons_zero, List.set_cons_succ])
  refine seq_is (v := .int .i64 (0)) rfl (run_assign rfl rfl) ?_
  (try simp only [Act.put, List.setIfInBounds_toArray, List.set_cons_zero, List.set_cons_succ])
  show Code.wp _ _ _ _ _
  refine wp_ret ?_
  exact Z.endsQii (u := .int .i64 (0)) (u2 := .int .i64 (0)) 2 0 1 rfl rfl rfl rfl rfl rfl rfl rfl rfl rfl rfl rfl rfl rfl
set_option maxHeartbeats 4000000 in
set_option maxRecDepth 100000 in
theorem rat_Read.semMQ {w : World} {s : ByteArray} {A : Nat} {p q : Int} (hs : s.size ≤ 131072) (h0 : 0 < s.size) (h1 : bt s ((0 : Nat) : Int) = 45) (hd1 : ∀ W, Calls Try.prog 73 #[.string s, .int .i64 ((1 : Nat) : Int)] W (RetV W (.tuple #[.int .i64 ((A : Nat) : Int), .bool true]))) (h48 : 1 < s.size ∧ bt s ((1 : Nat) : Int) ≠ 48) (hn : ∀ W, Calls Try.prog 74 #[.string (s.extract 0 A)] W (ResI W p)) (hbp : Bd 600000 p) (hA : A + 1 < s.size) (hsl : bt s ((A : Nat) : Int) = 47) (hd2 : ∀ W, Calls Try.prog 73 #[.string s, .int .i64 ((A + 1 : Nat) : Int)] W (RetV W (.tuple #[.int .i64 ((s.size : Nat) : Int), .bool true]))) (h482 : bt s ((A + 1 : Nat) : Int) ≠ 48) (hq : ∀ W, Calls Try.prog 74 #[.string (s.extract (A + 1) s.size)] W (ResI W q)) (hbq : Bd 600000 q) (hqp : 0 < q) : Calls Try.prog 40 #[.string s] w (ResQii w (qn p q) (qd p q) (.int .i64 0) (.int .i64 0)) := by
  have Z := Zt.start w (Has.nil w w)
  obtain ⟨tt, htt⟩ : ∃ b : Bool, b = true := ⟨true, rfl⟩
  obtain ⟨ff, hff⟩ : ∃ b : Bool, b = false := ⟨false, rfl⟩
  have h48' : bt s 1 ≠ 48 := h48.2
  have h48'' := h48.1
  go_enter Try.func40, Try.ntmps40
  refine wp_seq ?_
  refine wp_region_list ?_
  refine seq_alloc4 Z rfl rfl ?_; clear Z; intro g1 W Z
  (try simp only [Act.put, List.setIfInBounds_toArray, List.set_cons_zero, List.set_cons_succ])
  refine seq_is (v := .int .i64 (0)) rfl (run_assign rfl rfl) ?_
  (try simp only [Act.put, List.setIfInBounds_toArray, List.set_cons_zero, List.set_cons_succ])
  refine seq_is (v := .int .i64 (0)) rfl (run_assign rfl rfl) ?_
  (try simp only [Act.put, List.setIfInBounds_toArray, List.set_cons_zero, List.set_cons_succ])
  show Code.wp _ _ _ _ _
  refine wp_seq ?_
  refine wp_seq ?_
  refine wp_region_list ?_
  refine seq_is (v := .string s) rfl (run_move rfl rfl) ?_
  (try simp only [Act.put, List.setIfInBounds_toArray, List.set_cons_zero, List.set_cons_succ])
  refine seq_is (v := .int .i64 ((s.size : Nat) : Int)) rfl (run_lenS rfl rfl) ?_
  (try simp only [Act.put, List.setIfInBounds_toArray, List.set_cons_zero, List.set_cons_succ])
  refine seq_is (v := .bool (decide ((131072) < (((s.size : Nat) : Int))))) rfl (run_gtr rfl rfl rfl) ?_
  (try simp only [Act.put, List.setIfInBounds_toArray, List.set_cons_zero, List.set_cons_succ])
  show Code.wp _ _ _ _ _
  refine wp_cond_false ((show _ = Value.bool (decide ((131072) < (((s.size : Nat) : Int)))) from rfl).trans (congrArg Value.bool (decide_eq_false (by omega)))) ?_
  refine wp_skip ?_
  show Code.wp _ _ _ _ _
  refine wp_seq ?_
  refine wp_region_list ?_
  refine seq_is (v := .int .i64 (0)) rfl (run_assign rfl rfl) ?_
  (try simp only [Act.put, List.setIfInBounds_toArray, List.set_cons_zero, List.set_cons_succ])
  show Code.wp _ _ _ _ _
  refine wp_seq ?_
  refine wp_seq ?_
  refine wp_region_list ?_
  refine seq_is (v := .string s) rfl (run_move rfl rfl) ?_
  (try simp only [Act.put, List.setIfInBounds_toArray, List.set_cons_zero, List.set_cons_succ])
  refine seq_call Z rfl rfl Try.func72 rfl rfl (args2 rfl rfl) (Z.callV (strings_HasPrefix.semt h0 h1)) ?_; clear Z; intro x2 W Z
  (try simp only [Act.put, List.setIfInBounds_toArray, List.set_cons_zero, List.set_cons_succ])
  show Code.wp _ _ _ _ _
  refine wp_cond_true rfl ?_
  refine wp_region_list ?_
  refine seq_is (v := .int .i64 (1)) rfl (run_assign rfl rfl) ?_
  (try simp only [Act.put, List.setIfInBounds_toArray, List.set_cons_zero, List.set_cons_succ])
  show Code.wp _ _ _ _ _
  refine wp_seq ?_
  refine wp_region_list ?_
  refine seq_is (v := .string s) rfl (run_move rfl rfl) ?_
  (try simp only [Act.put, List.setIfInBounds_toArray, List.set_cons_zero, List.set_cons_succ])
  refine seq_is (v := .int .i64 (1)) rfl (run_move rfl rfl) ?_
  (try simp only [Act.put, List.setIfInBounds_toArray, List.set_cons_zero, List.set_cons_succ])
  refine seq_call Z rfl rfl Try.func73 rfl rfl (args2 rfl rfl) (Z.callV (hd1 _)) ?_; clear Z; intro x3 W Z
  (try simp only [Act.put, List.setIfInBounds_toArray, List.set_cons_zero, List.set_cons_succ])
  refine seq_is (v := .tuple #[.int .i64 ((A : Nat) : Int), .bool (true)]) rfl (run_move rfl rfl) ?_
  (try simp only [Act.put, List.setIfInBounds_toArray, List.set_cons_zero, List.set_cons_succ])
  refine seq_is (v := .int .i64 ((A : Nat) : Int)) rfl (run_extract rfl rfl rfl) ?_
  (try simp only [Act.put, List.setIfInBounds_toArray, List.set_cons_zero, List.set_cons_succ])
  refine seq_is (v := .bool (true)) rfl (run_extract rfl rfl rfl) ?_
  (try simp only [Act.put, List.setIfInBounds_toArray, List.set_cons_zero, List.set_cons_succ])
  refine seq_is (v := .int .i64 ((A : Nat) : Int)) rfl (run_assign rfl rfl) ?_
  (try simp only [Act.put, List.setIfInBounds_toArray, List.set_cons_zero, List.set_cons_succ])
  refine seq_is (v := .bool (true)) rfl (run_assign rfl rfl) ?_
  (try simp only [Act.put, List.setIfInBounds_toArray, List.set_cons_zero, List.set_cons_succ])
  show Code.wp _ _ _ _ _
  refine wp_seq ?_
  refine wp_seq ?_
  refine wp_region_list ?_
  refine seq_is (v := .bool (true)) rfl (run_move rfl rfl) ?_
  (try simp only [Act.put, List.setIfInBounds_toArray, List.set_cons_zero, List.set_cons_succ])
  refine seq_is (v := .bool (!(true))) rfl (run_not rfl rfl) ?_
  (try simp only [Act.put, List.setIfInBounds_toArray, List.set_cons_zero, List.set_cons_succ])
  refine seq_is (v := .bool (!(true))) rfl (run_move rfl rfl) ?_
  (try simp only [Act.put, List.setIfInBounds_toArray, List.set_cons_zero, List.set_cons_succ])
  refine list_want rfl rfl (congrArg some (congrArg Value.bool (Eq.refl false))) (wp_run (v := .int .i64 (1)) (run_move rfl rfl) ?_)
  (try simp only [Act.put, List.setIfInBounds_toArray, List.set_cons_zero, List.set_cons_succ])
  refine list_want rfl rfl (congrArg some (congrArg Value.bool (Eq.refl false))) (wp_run (v := .bool (decide ((1 : Int) = (1)))) (run_eql rfl rfl rfl) ?_)
  (try simp only [Act.put, List.setIfInBounds_toArray, List.set_cons_zero, List.set_cons_succ])
  refine list_want rfl rfl (congrArg some (congrArg Value.bool (Eq.refl false))) (wp_run (v := .bool (decide ((1 : Int) = (1)))) (run_move rfl rfl) ?_)
  (try simp only [Act.put, List.setIfInBounds_toArray, List.set_cons_zero, List.set_cons_succ])
  refine list_want rfl rfl (congrArg some (congrArg Value.bool (Eq.refl true))) (wp_run (v := .string s) (run_move rfl rfl) ?_)
  (try simp only [Act.put, List.setIfInBounds_toArray, List.set_cons_zero, List.set_cons_succ])
  refine list_want rfl rfl (congrArg some (congrArg Value.bool (Eq.refl true))) (wp_run (v := .int .u8 (bt s (1))) (run_idxS (by omega) (by omega) rfl rfl rfl) ?_)
  (try simp only [Act.put, List.setIfInBounds_toArray, List.set_cons_zero, List.set_cons_succ])
  refine list_want rfl rfl (congrArg some (congrArg Value.bool (Eq.refl true))) (wp_run (v := .bool (decide ((bt s (1)) = (48)))) (run_eqlY rfl rfl rfl) ?_)
  (try simp only [Act.put, List.setIfInBounds_toArray, List.set_cons_zero, List.set_cons_succ])
  refine list_want rfl rfl (congrArg some (congrArg Value.bool (Eq.refl false))) (wp_run (v := .bool (decide ((bt s (1)) = (48)))) (run_pickT rfl rfl rfl) ?_)
  (try simp only [Act.put, List.setIfInBounds_toArray, List.set_cons_zero, List.set_cons_succ])
  refine seq_is (v := .bool (decide ((bt s (1)) = (48)))) rfl (run_pickF rfl rfl rfl) ?_
  (try simp only [Act.put, List.setIfInBounds_toArray, List.set_cons_zero, List.set_cons_succ])
  show Code.wp _ _ _ _ _
  refine wp_cond_false ((show _ = Value.bool (decide ((bt s (1)) = (48))) from rfl).trans (congrArg Value.bool (decide_eq_false (by omega)))) ?_
  refine wp_skip ?_
  show Code.wp _ _ _ _ _
  refine wp_seq ?_
  refine wp_region_list ?_
  refine seq_is (v := .string s) rfl (run_move rfl rfl) ?_
  (try simp only [Act.put, List.setIfInBounds_toArray, List.set_cons_zero, List.set_cons_succ])
  refine seq_is (v := .int .i64 ((A : Nat) : Int)) rfl (run_move rfl rfl) ?_
  (try simp only [Act.put, List.setIfInBounds_toArray, List.set_cons_zero, List.set_cons_succ])
  refine seq_is (v := .string (s.extract 0 (A))) rfl (run_cutT (j := A) (by omega) rfl rfl rfl) ?_
  (try simp only [Act.put, List.setIfInBounds_toArray, List.set_cons_zero, List.set_cons_succ])
  refine seq_call Z rfl rfl Try.func74 rfl rfl (args1 rfl) (Z.callI (hn _)) ?_; clear Z; intro x4 W Z
  (try simp only [Act.put, List.setIfInBounds_toArray, List.set_cons_zero, List.set_cons_succ])
  refine seq_alloc Z rfl rfl ?_; clear Z; intro g5 W Z
  (try simp only [Act.put, List.setIfInBounds_toArray, List.set_cons_zero, List.set_cons_succ])
  refine seq_store Z 0 rfl rfl rfl rfl rfl ?_; clear Z; intro W Z
  (try simp only [Act.put, List.setIfInBounds_toArray, List.set_cons_zero, List.set_cons_succ])
  show Code.wp _ _ _ _ _
  refine wp_seq ?_
  refine wp_region_list ?_
  refine seq_call Z rfl rfl Try.func52 rfl rfl (args1 rfl) (Z.callI (zint_Of.sem (by decide) (by decide))) ?_; clear Z; intro x6 W Z
  (try simp only [Act.put, List.setIfInBounds_toArray, List.set_cons_zero, List.set_cons_succ])
  refine seq_alloc Z rfl rfl ?_; clear Z; intro g7 W Z
  (try simp only [Act.put, List.setIfInBounds_toArray, List.set_cons_zero, List.set_cons_succ])
  refine seq_store Z 0 rfl rfl rfl rfl rfl ?_; clear Z; intro W Z
  (try simp only [Act.put, List.setIfInBounds_toArray, List.set_cons_zero, List.set_cons_succ])
  show Code.wp _ _ _ _ _
  refine wp_seq ?_
  refine wp_seq ?_
  refine wp_region_list ?_
  refine seq_is (v := .int .i64 ((A : Nat) : Int)) rfl (run_move rfl rfl) ?_
  (try simp only [Act.put, List.setIfInBounds_toArray, List.set_cons_zero, List.set_cons_succ])
  refine seq_is (v := .string s) rfl (run_move rfl rfl) ?_
  (try simp only [Act.put, List.setIfInBounds_toArray, List.set_cons_zero, List.set_cons_succ])
  refine seq_is (v := .int .i64 ((s.size : Nat) : Int)) rfl (run_lenS rfl rfl) ?_
  (try simp only [Act.put, List.setIfInBounds_toArray, List.set_cons_zero, List.set_cons_succ])
  refine seq_is (v := .bool (decide ((((A : Nat) : Int)) < (((s.size : Nat) : Int))))) rfl (run_lss rfl rfl rfl) ?_
  (try simp only [Act.put, List.setIfInBounds_toArray, List.set_cons_zero, List.set_cons_succ])
  refine seq_is (v := .bool (decide ((((A : Nat) : Int)) < (((s.size : Nat) : Int))))) rfl (run_move rfl rfl) ?_
  (try simp only [Act.put, List.setIfInBounds_toArray, List.set_cons_zero, List.set_cons_succ])
  refine list_want rfl rfl (congrArg some (congrArg Value.bool (decide_eq_true (by omega)))) (wp_run (v := .string s) (run_move rfl rfl) ?_)
  (try simp only [Act.put, List.setIfInBounds_toArray, List.set_cons_zero, List.set_cons_succ])
  refine list_want rfl rfl (congrArg some (congrArg Value.bool (decide_eq_true (by omega)))) (wp_run (v := .int .i64 ((A : Nat) : Int)) (run_move rfl rfl) ?_)
  (try simp only [Act.put, List.setIfInBounds_toArray, List.set_cons_zero, List.set_cons_succ])
  refine list_want rfl rfl (congrArg some (congrArg Value.bool (decide_eq_true (by omega)))) (wp_run (v := .int .u8 (bt s (((A : Nat) : Int)))) (run_idxS (by omega) (by omega) rfl rfl rfl) ?_)
  (try simp only [Act.put, List.setIfInBounds_toArray, List.set_cons_zero, List.set_cons_succ])
  refine list_want rfl rfl (congrArg some (congrArg Value.bool (decide_eq_true (by omega)))) (wp_run (v := .bool (decide ((bt s (((A : Nat) : Int))) = (47)))) (run_eqlY rfl rfl rfl) ?_)
  (try simp only [Act.put, List.setIfInBounds_toArray, List.set_cons_zero, List.set_cons_succ])
  refine seq_is (v := .bool (decide ((bt s (((A : Nat) : Int))) = (47)))) rfl (run_pickT rfl ((show _ = Value.bool (decide ((((A : Nat) : Int)) < (((s.size : Nat) : Int)))) from rfl).trans (congrArg Value.bool (decide_eq_true (by omega)))) rfl) ?_
  (try simp only [Act.put, List.setIfInBounds_toArray, List.set_cons_zero, List.set_cons_succ])
  show Code.wp _ _ _ _ _
  refine wp_cond_true ((show _ = Value.bool (decide ((bt s (((A : Nat) : Int))) = (47))) from rfl).trans (congrArg Value.bool (decide_eq_true (by omega)))) ?_
  refine wp_seq ?_
  refine wp_region_list ?_
  refine seq_is (v := .string s) rfl (run_move rfl rfl) ?_
  (try simp only [Act.put, List.setIfInBounds_toArray, List.set_cons_zero, List.set_cons_succ])
  refine seq_is (v := .int .i64 ((A : Nat) : Int)) rfl (run_move rfl rfl) ?_
  (try simp only [Act.put, List.setIfInBounds_toArray, List.set_cons_zero, List.set_cons_succ])
  refine seq_is (v := .int .i64 ((A + 1 : Nat) : Int)) rfl (run_incN (i := A) rfl (by omega) rfl rfl rfl) ?_
  (try simp only [Act.put, List.setIfInBounds_toArray, List.set_cons_zero, List.set_cons_succ])
  refine seq_call Z rfl rfl Try.func73 rfl rfl (args2 rfl rfl) (Z.callV (hd2 _)) ?_; clear Z; intro x8 W Z
  (try simp only [Act.put, List.setIfInBounds_toArray, List.set_cons_zero, List.set_cons_succ])
  refine seq_is (v := .tuple #[.int .i64 ((s.size : Nat) : Int), .bool (true)]) rfl (run_move rfl rfl) ?_
  (try simp only [Act.put, List.setIfInBounds_toArray, List.set_cons_zero, List.set_cons_succ])
  refine seq_is (v := .int .i64 ((s.size : Nat) : Int)) rfl (run_extract rfl rfl rfl) ?_
  (try simp only [Act.put, List.setIfInBounds_toArray, List.set_cons_zero, List.set_cons_succ])
  refine seq_is (v := .bool (true)) rfl (run_extract rfl rfl rfl) ?_
  (try simp only [Act.put, List.setIfInBounds_toArray, List.set_cons_zero, List.set_cons_succ])
  refine seq_is (v := .int .i64 ((s.size : Nat) : Int)) rfl (run_assign rfl rfl) ?_
  (try simp only [Act.put, List.setIfInBounds_toArray, List.set_cons_zero, List.set_cons_succ])
  refine seq_is (v := .bool (true)) rfl (run_assign rfl rfl) ?_
  (try simp only [Act.put, List.setIfInBounds_toArray, List.set_cons_zero, List.set_cons_succ])
  show Code.wp _ _ _ _ _
  refine wp_seq ?_
  refine wp_seq ?_
  refine wp_region_list ?_
  refine seq_is (v := .bool (true)) rfl (run_move rfl rfl) ?_
  (try simp only [Act.put, List.setIfInBounds_toArray, List.set_cons_zero, List.set_cons_succ])
  refine seq_is (v := .bool (!(true))) rfl (run_not rfl rfl) ?_
  (try simp only [Act.put, List.setIfInBounds_toArray, List.set_cons_zero, List.set_cons_succ])
  refine seq_is (v := .bool (!(true))) rfl (run_move rfl rfl) ?_
  (try simp only [Act.put, List.setIfInBounds_toArray, List.set_cons_zero, List.set_cons_succ])
  refine list_want rfl rfl (congrArg some (congrArg Value.bool (Eq.refl false))) (wp_run (v := .string s) (run_move rfl rfl) ?_)
  (try simp only [Act.put, List.setIfInBounds_toArray, List.set_cons_zero, List.set_cons_succ])
  refine list_want rfl rfl (congrArg some (congrArg Value.bool (Eq.refl false))) (wp_run (v := .int .i64 ((A : Nat) : Int)) (run_move rfl rfl) ?_)
  (try simp only [Act.put, List.setIfInBounds_toArray, List.set_cons_zero, List.set_cons_succ])
  refine list_want rfl rfl (congrArg some (congrArg Value.bool (Eq.refl false))) (wp_run (v := .int .i64 ((A + 1 : Nat) : Int)) (run_incN (i := A) rfl (by omega) rfl rfl rfl) ?_)
  (try simp only [Act.put, List.setIfInBounds_toArray, List.set_cons_zero, List.set_cons_succ])
  refine list_want rfl rfl (congrArg some (congrArg Value.bool (Eq.refl false))) (wp_run (v := .int .u8 (bt s (((A + 1 : Nat) : Int)))) (run_idxS (by omega) (by omega) rfl rfl rfl) ?_)
  (try simp only [Act.put, List.setIfInBounds_toArray, List.set_cons_zero, List.set_cons_succ])
  refine list_want rfl rfl (congrArg some (congrArg Value.bool (Eq.refl false))) (wp_run (v := .bool (decide ((bt s (((A + 1 : Nat) : Int))) = (48)))) (run_eqlY rfl rfl rfl) ?_)
  (try simp only [Act.put, List.setIfInBounds_toArray, List.set_cons_zero, List.set_cons_succ])
  refine seq_is (v := .bool (decide ((bt s (((A + 1 : Nat) : Int))) = (48)))) rfl (run_pickF rfl rfl rfl) ?_
  (try simp only [Act.put, List.setIfInBounds_toArray, List.set_cons_zero, List.set_cons_succ])
  show Code.wp _ _ _ _ _
  refine wp_cond_false ((show _ = Value.bool (decide ((bt s (((A + 1 : Nat) : Int))) = (48))) from rfl).trans (congrArg Value.bool (decide_eq_false (by omega)))) ?_
  refine wp_skip ?_
  show Code.wp _ _ _ _ _
  refine wp_seq ?_
  refine wp_region_list ?_
  refine seq_is (v := .string s) rfl (run_move rfl rfl) ?_
  (try simp only [Act.put, List.setIfInBounds_toArray, List.set_cons_zero, List.set_cons_succ])
  refine seq_is (v := .int .i64 ((A : Nat) : Int)) rfl (run_move rfl rfl) ?_
  (try simp only [Act.put, List.setIfInBounds_toArray, List.set_cons_zero, List.set_cons_succ])
  refine seq_is (v := .int .i64 ((A + 1 : Nat) : Int)) rfl (run_incN (i := A) rfl (by omega) rfl rfl rfl) ?_
  (try simp only [Act.put, List.setIfInBounds_toArray, List.set_cons_zero, List.set_cons_succ])
  refine seq_is (v := .int .i64 ((s.size : Nat) : Int)) rfl (run_move rfl rfl) ?_
  (try simp only [Act.put, List.setIfInBounds_toArray, List.set_cons_zero, List.set_cons_succ])
  refine seq_is (v := .string (s.extract (A + 1) (s.size))) rfl (run_cutM (i := A + 1) (j := s.size) (by omega) (by omega) rfl rfl rfl rfl) ?_
  (try simp only [Act.put, List.setIfInBounds_toArray, List.set_cons_zero, List.set_cons_succ])
  refine seq_call Z rfl rfl Try.func74 rfl rfl (args1 rfl) (Z.callI (hq _)) ?_; clear Z; intro x9 W Z
  (try simp only [Act.put, List.setIfInBounds_toArray, List.set_cons_zero, List.set_cons_succ])
  refine seq_store Z 0 rfl rfl rfl rfl rfl ?_; clear Z; intro W Z
  (try simp only [Act.put, List.setIfInBounds_toArray, List.set_cons_zero, List.set_cons_succ])
  show Code.wp _ _ _ _ _
  refine wp_region_list ?_
  refine seq_is (v := .int .i64 ((s.size : Nat) : Int)) rfl (run_move rfl rfl) ?_
  (try simp only [Act.put, List.setIfInBounds_toArray, List.set_cons_zero, List.set_cons_succ])
  refine seq_is (v := .int .i64 ((s.size : Nat) : Int)) rfl (run_assign rfl rfl) ?_
  (try simp only [Act.put, List.setIfInBounds_toArray, List.set_cons_zero, List.set_cons_succ])
  show Code.wp _ _ _ _ _
  refine wp_seq ?_
  refine wp_seq ?_
  refine wp_region_list ?_
  refine seq_is (v := .int .i64 ((s.size : Nat) : Int)) rfl (run_move rfl rfl) ?_
  (try simp only [Act.put, List.setIfInBounds_toArray, List.set_cons_zero, List.set_cons_succ])
  refine seq_is (v := .string s) rfl (run_move rfl rfl) ?_
  (try simp only [Act.put, List.setIfInBounds_toArray, List.set_cons_zero, List.set_cons_succ])
  refine seq_is (v := .int .i64 ((s.size : Nat) : Int)) rfl (run_lenS rfl rfl) ?_
  (try simp only [Act.put, List.setIfInBounds_toArray, List.set_cons_zero, List.set_cons_succ])
  refine seq_is (v := .bool (decide ((((s.size : Nat) : Int)) < (((s.size : Nat) : Int))))) rfl (run_lss rfl rfl rfl) ?_
  (try simp only [Act.put, List.setIfInBounds_toArray, List.set_cons_zero, List.set_cons_succ])
  show Code.wp _ _ _ _ _
  refine wp_cond_false ((show _ = Value.bool (decide ((((s.size : Nat) : Int)) < (((s.size : Nat) : Int)))) from rfl).trans (congrArg Value.bool (decide_eq_false (by omega)))) ?_
  refine wp_skip ?_
  show Code.wp _ _ _ _ _
  refine wp_seq ?_
  refine wp_region_list ?_
  refine seq_is (v := .agg #[.bool (decide (p < 0)), x4.v]) rfl (run_load2 rfl rfl (Z.bx 1 rfl)) ?_
  (try simp only [Act.put, List.setIfInBounds_toArray, List.set_cons_zero, List.set_cons_succ])
  refine seq_is (v := .agg #[.bool (decide (q < 0)), x9.v]) rfl (run_load2 rfl rfl (Z.bx 0 rfl)) ?_
  (try simp only [Act.put, List.setIfInBounds_toArray, List.set_cons_zero, List.set_cons_succ])
  refine seq_call Z rfl rfl Try.func44 rfl rfl (args2 rfl rfl) (Z.callQ (rat_made.semq (Z.own 2 rfl (Bd.fm (Bd.abs hbp) (by decide))) (Z.own 0 rfl (Bd.fm (Bd.abs hbq) (by decide))) (Bd.mono hbp (by decide)) (Bd.mono hbq (by decide)) (pos_ne hqp))) ?_; clear Z; intro x10 W Z
  (try simp only [Act.put, List.setIfInBounds_toArray, List.set_cons_zero, List.set_cons_succ])
  refine seq_store4 Z 2 rfl rfl rfl rfl rfl ?_; clear Z; intro W Z
  (try simp only [Act.put, List.setIfInBounds_toArray, List.set_cons_zero, List.set_cons_succ])
  refine seq_is (v := .int .i64 (0)) rfl (run_assign rfl rfl) ?_
  (try simp only [Act.put, List.setIfInBounds_toArray, List.set_cons_zero, List.set_cons_succ])
  refine seq_is (v := .int .i64 (0)) rfl (run_assign rfl rfl) ?_
  (try simp only [Act.put, List.setIfInBounds_toArray, List.set_cons_zero, List.set_cons_succ])
  show Code.wp _ _ _ _ _
  refine wp_ret ?_
  exact Z.endsQii (u := .int .i64 (0)) (u2 := .int .i64 (0)) 2 0 1 rfl rfl rfl rfl rfl rfl rfl rfl rfl rfl rfl rfl rfl rfl
end Go.Proofs.Ytndopanohhdfgaa.PA


/- Read gives a rational back from its text. -/
namespace Go.Proofs.Ytndopanohhdfgaa.PA
open Go Go.Proofs.Ytndopanohhdfgaa.Nums Go.RowKit Go.Proofs.YtndopanohhdfgaaW.PrintWords Go.Proofs.YtndopanohhdfgaaW.PrintLast Go.Proofs.YtndopanohhdfgaaW.PrintMore
set_option linter.unusedVariables false
theorem Dg.dz {s : ByteArray} {k L : Nat} {x : Int} (h : Dg s k L x) (hs : k + L = s.size ∨ k + L < s.size ∧ bt s ((k + L : Nat) : Int) = 47) : Dz s k L :=
  ⟨h.fit, h.pos, fun i hi => h.rng hi, fun hl => h.first (.inl hl), hs⟩
theorem digits_at {s : ByteArray} {k L B : Nat} {x : Int} (h : Dg s k L x) (hs : k + L = s.size ∨ k + L < s.size ∧ bt s ((k + L : Nat) : Int) = 47) (hl : s.size ≤ 131072) (hB : k + L = B) (w : World) : Calls Try.prog 73 #[.string s, .int .i64 ((k : Nat) : Int)] w (RetV w (.tuple #[.int .i64 ((B : Nat) : Int), .bool true])) := by
  subst hB
  exact rat_digits.sem hl (h.dz hs)
theorem ex_left {s t : ByteArray} : (s ++ t).extract 0 s.size = s := by
  have h : s.size ≤ (s ++ t).size := by rw [ByteArray.size_append]; omega
  refine bytes_ext (by rw [ex_size h]; omega) (fun i hi => ?_)
  rw [ex_size h] at hi
  rw [bt_ex (by omega) h, Nat.zero_add, bt_l (by omega)]
/-- a number's text: where its digits lie -/
theorem textZ_dg (p : Int) : (0 ≤ p ∧ Dg (textZ p) 0 (textZ p).size p ∧ bt (textZ p) ((0 : Nat) : Int) ≠ 45) ∨ (p < 0 ∧ bt (textZ p) ((0 : Nat) : Int) = 45 ∧ ∃ L, 1 + L = (textZ p).size ∧ Dg (textZ p) 1 L (-p)) := by
  by_cases hz : p < 0
  · refine .inr ⟨hz, ?_, (textOf (-p)).size, ?_, ?_⟩
    · rw [text_neg hz, bt_l (by show 0 < 1; omega)]
      decide
    · rw [text_neg hz, ByteArray.size_append]
      rfl
    · rw [text_neg hz]
      exact (text_dg (x := -p) (by omega)).right (s := ⟨#[45]⟩)
  · rw [textZ_nn (by omega)]
    have h := text_dg (x := p) (by omega)
    exact .inl ⟨by omega, h, h.ne45⟩
theorem bt_app {s t : ByteArray} {b : Int} {k : Nat} (hk : k < s.size) (h : bt s (k : Int) = b) : bt (s ++ t) (k : Int) = b := by rw [bt_l hk]; exact h
theorem bt_app' {s t : ByteArray} {b : Int} {k : Nat} (hk : k < s.size) (h : bt s (k : Int) ≠ b) : bt (s ++ t) (k : Int) ≠ b := by rw [bt_l hk]; exact h
theorem bd_text {p : Int} (h : (textZ p).size ≤ 131072) : Bd 600000 p := by
  rcases textZ_dg p with ⟨h0, hD, -⟩ | ⟨h0, -, L, hL, hD⟩
  · exact ten_bd6 h0 hD.lt h
  · have h1 := (ten_bd6 hD.nn hD.lt (by omega)).neg
    rwa [Int.neg_neg] at h1
theorem read_one {p : Int} (hs : (textZ p).size ≤ 131072) (w : World) : Calls Try.prog 40 #[.string (textZ p)] w (ResQii w p 1 (.int .i64 0) (.int .i64 0)) := by
  have hb := bd_text hs
  have hn : ∀ W, Calls Try.prog 74 #[.string ((textZ p).extract 0 (textZ p).size)] W (ResI W p) := fun W => by
    rw [ex_all]
    exact rat_number.semZ hs W
  have q1 := qn_one p
  have e1 : ResQii w p 1 (.int .i64 0) (.int .i64 0) = ResQii w (qn p 1) (qd p 1) (.int .i64 0) (.int .i64 0) := by rw [q1.1, q1.2]
  rw [e1]
  rcases textZ_dg p with ⟨h0, hD, h45⟩ | ⟨h0, h45, L, hL, hD⟩
  · exact rat_Read.semPZ (q := 1) hs hD.pos h45 (fun W => digits_at hD (.inl (by omega)) hs (by omega) W) hn hb rfl
  · have hp := hD.pos
    exact rat_Read.semMZ (q := 1) hs (by omega) h45 (fun W => digits_at hD (.inl hL) hs hL W) ⟨by omega, hD.first (.inr (by omega))⟩ hn hb rfl
theorem read_two {p q : Int} (hq : 0 < q) (hs : (textZ p ++ ⟨#[47]⟩ ++ textZ q).size ≤ 131072) (w : World) : Calls Try.prog 40 #[.string (textZ p ++ ⟨#[47]⟩ ++ textZ q)] w (ResQii w (qn p q) (qd p q) (.int .i64 0) (.int .i64 0)) := by
  rw [textZ_nn (Int.le_of_lt hq)] at hs ⊢
  have hDq := text_dg (Int.le_of_lt hq)
  have hS : (textZ p ++ ⟨#[47]⟩ ++ textOf q).size = (textZ p).size + 1 + (textOf q).size := by
    rw [ByteArray.size_append, ByteArray.size_append]
    rfl
  have hsp : (textZ p).size ≤ 131072 := by omega
  have hb := bd_text hsp
  have hbq : Bd 600000 q := ten_bd6 hDq.nn hDq.lt (by omega)
  have hpq := hDq.pos
  have hR : Dg (textZ p ++ ⟨#[47]⟩ ++ textOf q) ((textZ p).size + 1) (textOf q).size q := by
    have h := hDq.right (s := textZ p ++ ⟨#[47]⟩)
    rw [ByteArray.size_append] at h
    exact h
  have hsl : bt (textZ p ++ ⟨#[47]⟩ ++ textOf q) (((textZ p).size : Nat) : Int) = 47 := by
    refine bt_app (by rw [ByteArray.size_append]; show _ < _ + 1; omega) ?_
    have h := bt_r (s := textZ p) (t := (⟨#[47]⟩ : ByteArray)) (k := 0) (by show 0 < 1; omega)
    rw [Nat.add_zero] at h
    rw [h]
    decide
  have hn : ∀ W, Calls Try.prog 74 #[.string ((textZ p ++ ⟨#[47]⟩ ++ textOf q).extract 0 (textZ p).size)] W (ResI W p) := fun W => by
    have e : (textZ p ++ ⟨#[47]⟩ ++ textOf q).extract 0 (textZ p).size = textZ p := by
      rw [ByteArray.append_assoc]
      exact ex_left
    rw [e]
    exact rat_number.semZ hsp W
  have hnq : ∀ W, Calls Try.prog 74 #[.string ((textZ p ++ ⟨#[47]⟩ ++ textOf q).extract ((textZ p).size + 1) (textZ p ++ ⟨#[47]⟩ ++ textOf q).size)] W (ResI W q) := fun W => by
    have e := hR.cut
    rw [hS, e]
    exact rat_number.semT 131072 (Int.le_of_lt hq) (by omega) (Nat.le_refl _) W
  have hd2 := fun W => digits_at hR (.inl (by omega)) hs hS.symm W
  have h482 := hR.first (.inr hq)
  rcases textZ_dg p with ⟨h0, hD, h45⟩ | ⟨h0, h45, L, hL, hD⟩
  · have hD2 : Dg (textZ p ++ ⟨#[47]⟩ ++ textOf q) 0 (textZ p).size p := hD.left.left
    have hp := hD.pos
    exact rat_Read.semPQ hs (by omega) (bt_app' (by rw [ByteArray.size_append]; omega) (bt_app' hp h45)) (fun W => digits_at hD2 (.inr ⟨by omega, by rw [Nat.zero_add]; exact hsl⟩) hs (by omega) W) hn hb (by omega) hsl hd2 h482 hnq hbq hq
  · have hD2 : Dg (textZ p ++ ⟨#[47]⟩ ++ textOf q) 1 L (-p) := hD.left.left
    have hp := hD.pos
    exact rat_Read.semMQ hs (by omega) (bt_app (by rw [ByteArray.size_append]; omega) (bt_app (by omega) h45)) (fun W => digits_at hD2 (.inr ⟨by omega, by rw [hL]; exact hsl⟩) hs hL W) ⟨by omega, hD2.first (.inr (by omega))⟩ hn hb (by omega) hsl hd2 h482 hnq hbq hq
theorem rat_Read.back {n d : Int} (hd : 0 < d) (hs : (textQ n d).size ≤ 131072) (w : World) : Calls Try.prog 40 #[.string (textQ n d)] w (ResQii w (qn n d) (qd n d) (.int .i64 0) (.int .i64 0)) := by
  have h0 := qn_idem (x := n) hd
  have hq := qd_pos (x := n) (pos_ne hd)
  unfold textQ at hs ⊢
  by_cases h1 : qd n d = 1
  · rw [if_pos h1] at hs ⊢
    rw [h1]
    exact read_one hs w
  · rw [if_neg h1] at hs ⊢
    have r := read_two (p := qn n d) hq hs w
    rw [h0.1, h0.2] at r
    exact r
end Go.Proofs.Ytndopanohhdfgaa.PA

