/- zint.word: a magnitude of at most two words as a number of 64 bits. -/
import Derived.Test.YtmbmbmkmjbpcpaaZEK
import Derived.Test.YtmbmbmkmjbpcpaaZDK
import Derived.Test.YtmbmbmkmjbpcpaaPAx7K
import Derived.Outline
import Derived.Test.YtmbmbmkmjbpcpaaPAx0K
namespace Go.Proofs.Ytmbmbmkmjbpcpaa.PA
open Go Go.Proofs.Ytmbmbmkmjbpcpaa.Nums Go.RowKit Go.Proofs.YtmbmbmkmjbpcpaaW.PrintWords Go.Proofs.YtmbmbmkmjbpcpaaW.PrintLast Go.Proofs.YtmbmbmkmjbpcpaaW.PrintMore
set_option linter.unusedVariables false
set_option linter.unusedSimpArgs false
def wordV (v : Int) : Int := if v < 18446744073709551616 then v else 0
def wordB (v : Int) : Bool := decide (v < 18446744073709551616)
theorem shl0 {x : Int} (h0 : 0 ≤ x) (h1 : x < 4294967296) : shl .u64 (IntKind.u64.wrap x) (wrap64 (32 * 0)) = x := by
  rw [u64w h0 (by omega), show wrap64 (32 * 0) = 0 from w64 (by omega) (by omega)]
  unfold shl
  simp [u64w (n := x) h0 (by omega)]
theorem shl32 {x : Int} (h0 : 0 ≤ x) (h1 : x < 4294967296) : shl .u64 (IntKind.u64.wrap x) (wrap64 (32 * 1)) = x * 4294967296 := by
  rw [u64w h0 (by omega), show wrap64 (32 * 1) = 32 from w64 (by omega) (by omega)]
  unfold shl
  rw [show min (Int.toNat 32) IntKind.u64.bits = 32 from rfl]
  exact u64w (by omega) (by omega)
theorem or0 {x : Int} (h0 : 0 ≤ x) (h1 : x < 4294967296) : Go.bits .or .u64 0 x = x := by
  have := or_hi2 (x := x) (y := 0) h0 h1 (by omega) (by omega)
  rw [or_swap] at this
  simpa using this
theorem word_l (t : List Int) (ho : Ok t) (hn : Nrm t) (hl : t.length ≤ 1000000000) : Ev (fun k => zint_word.l0 k 0 t (t.length : Int) 0) (wordV (val t), wordB (val t)) := by
  match t, ho, hn, hl with
  | [], _, _, _ =>
    refine Ev.of (fun k => (zint_word.mono_l k) _ _ _ _) (k := 1) ?_
    simp [zint_word.l0, wordV, wordB, val]
  | [x], ho, _, _ =>
    have hx := ho x (by simp)
    refine Ev.of (fun k => (zint_word.mono_l k) _ _ _ _) (k := 2) ?_
    have e1 : rd [x] 0 = x := rfl
    have e2 : wrap64 (0 + 1) = 1 := w64 (by omega) (by omega)
    have e3 : wrap64 (32 * 0) = 0 := w64 (by omega) (by omega)
    have hv : val [x] = x := by simp [val]
    have e4 : (0 : Int) ≤ wrap64 (32 * 0) := by rw [e3]; omega
    rw [zint_word.l0, if_pos (by simp), if_pos (by omega), if_pos (by simp), if_neg (by omega), if_pos e4, e1, shl0 hx.1 hx.2, or0 hx.1 hx.2, e2, zint_word.l0, if_neg (by simp), hv]
    unfold wordV wordB
    rw [if_pos (by omega), decide_eq_true (by omega)]
  | [x, y], ho, _, _ =>
    have hx := ho x (by simp)
    have hy := ho y (by simp)
    refine Ev.of (fun k => (zint_word.mono_l k) _ _ _ _) (k := 3) ?_
    have e1 : rd [x, y] 0 = x := rfl
    have e5 : rd [x, y] 1 = y := rfl
    have e2 : wrap64 (0 + 1) = 1 := w64 (by omega) (by omega)
    have e6 : wrap64 (1 + 1) = 2 := w64 (by omega) (by omega)
    have e4 : (0 : Int) ≤ wrap64 (32 * 0) := by rw [show wrap64 (32 * 0) = 0 from w64 (by omega) (by omega)]; omega
    have e7 : (0 : Int) ≤ wrap64 (32 * 1) := by rw [show wrap64 (32 * 1) = 32 from w64 (by omega) (by omega)]; omega
    have hv : val [x, y] = x + y * 4294967296 := by simp [val]; omega
    rw [zint_word.l0, if_pos (by simp), if_pos (by omega), if_pos (by simp), if_neg (by omega), if_pos e4, e1, shl0 hx.1 hx.2, or0 hx.1 hx.2, e2, zint_word.l0, if_pos (by simp), if_pos (by omega), if_pos (by simp), if_neg (by omega), if_pos e7, e5, shl32 hy.1 hy.2, or_hi2 hx.1 hx.2 hy.1 hy.2, e6, zint_word.l0, if_neg (by simp), hv]
    unfold wordV wordB
    rw [if_pos (by omega), decide_eq_true (by omega)]
  | x :: y :: z :: r, ho, hn, hl =>
    refine Ev.of (fun k => (zint_word.mono_l k) _ _ _ _) (k := 3) ?_
    have hge : 18446744073709551616 ≤ val (x :: y :: z :: r) := by
      have hx := ho x (by simp)
      have hy := ho y (by simp)
      have h3 : Ok (z :: r) := fun q hq => ho q (by simp at hq ⊢; rcases hq with h | h <;> simp [h])
      have hp := val_nonneg h3
      have hz : val (z :: r) ≠ 0 := by
        intro h0
        have h4 : trim (z :: r) = z :: r := trim_of_nrm h3 (fun q hq => hn q (by simpa [List.getLast?_cons_cons] using hq))
        have h5 := trim_lm h3
        rw [h0, lm_zero, h4] at h5
        cases h5
      have e : val (x :: y :: z :: r) = x + 4294967296 * (y + 4294967296 * val (z :: r)) := by simp only [val]
      rw [e]
      omega
    have e2 : wrap64 (0 + 1) = 1 := w64 (by omega) (by omega)
    have e6 : wrap64 (1 + 1) = 2 := w64 (by omega) (by omega)
    have e4 : (0 : Int) ≤ wrap64 (32 * 0) := by rw [show wrap64 (32 * 0) = 0 from w64 (by omega) (by omega)]; omega
    have e7 : (0 : Int) ≤ wrap64 (32 * 1) := by rw [show wrap64 (32 * 1) = 32 from w64 (by omega) (by omega)]; omega
    have hlen : (((x :: y :: z :: r).length : Nat) : Int) = (r.length : Int) + 3 := by simp; omega
    rw [hlen]
    rw [zint_word.l0, if_pos (by omega), if_pos (by omega), if_pos (by rw [hlen]; omega), if_neg (by omega), if_pos e4, e2, zint_word.l0, if_pos (by omega), if_pos (by omega), if_pos (by rw [hlen]; omega), if_neg (by omega), if_pos e7, e6, zint_word.l0, if_pos (by omega), if_pos (by omega), if_pos (by rw [hlen]; omega), if_pos (by omega)]
    unfold wordV wordB
    rw [if_neg (by omega), decide_eq_false (by omega)]
theorem word_f (l : List Int) (ho : Ok l) (hl : l.length ≤ 10000000) : Ev (fun k => zint_word.f k l) (wordV (val l), wordB (val l)) := by
  unfold zint_word.f
  refine Ev.bind (norm_f l (by omega)) ?_
  have h := word_l (trim l) (trim_ok ho) (trim_nrm l) (by have := trim_len l; omega)
  rw [trim_val] at h
  exact h
theorem zint_word.sem {w : World} {v1 : Value} {x : Int} (m1 : MagV w v1 x) : Calls Try.prog 79 #[v1] w (RetV w (.tuple #[.int .u64 (wordV x), .bool (wordB x)])) := by
  obtain ⟨l1, ⟨A1, c1, rfl, h1, g1⟩, o1, b1, rfl⟩ := m1
  obtain ⟨k, e⟩ := (word_f l1 o1 b1).rounds
  exact (zint_word.calls k A1 c1 l1 _ _ w g1 h1 e).mono fun e w' ⟨he, hb⟩ => ⟨he, hb⟩
section
variable {a : Act} {o : Oper} {W : World} {p q : Operand}
end
theorem Zt.endsVV {w0 W : World} {ts : List (Value × (World → Value → Prop))} {bs : List (Nat × TypeId × Array Value)} {a : Act} {fn : Func} {p q : Tmp} {u v t : Value} {P : Program} (Z : Zt w0 W ts bs) (h : fn.results = #[.tmp p, .tmp q]) (hd : a.defers = []) (hp : a.tmps.getD p undef = u) (hq : a.tmps.getD q undef = v) (hu : .tuple #[u, v] = t) : bodyPost P fn (RetV w0 t) .ret a W := by
  refine bodyPost_ret (v := .tuple #[a.tmps.getD p undef, a.tmps.getD q undef]) ?_ hd ⟨by rw [hp, hq, hu], Z.below⟩
  clear hp hq hu
  unfold results
  rw [h]
  go_simp
end Go.Proofs.Ytmbmbmkmjbpcpaa.PA


/- The walk of zint.Small. -/
namespace Go.Proofs.Ytmbmbmkmjbpcpaa.PA
open Go Go.Proofs.Ytmbmbmkmjbpcpaa.Nums Go.RowKit Go.Proofs.YtmbmbmkmjbpcpaaW.PrintWords Go.Proofs.YtmbmbmkmjbpcpaaW.PrintLast Go.Proofs.YtmbmbmkmjbpcpaaW.PrintMore
set_option linter.unusedVariables false
set_option linter.unusedSimpArgs false
def smallB (z : Int) : Bool := decide (-9223372036854775808 ≤ z ∧ z ≤ 9223372036854775807)
def smallV (z : Int) : Int := if -9223372036854775808 ≤ z ∧ z ≤ 9223372036854775807 then z else 0
theorem small_out {z : Int} (h : ¬ (-9223372036854775808 ≤ z ∧ z ≤ 9223372036854775807)) : Value.tuple #[.int .i64 0, .bool false] = .tuple #[.int .i64 (smallV z), .bool (smallB z)] := by
  unfold smallV smallB
  rw [if_neg h, decide_eq_false h]
theorem small_in {z v : Int} (h : -9223372036854775808 ≤ z ∧ z ≤ 9223372036854775807) (hv : v = z) : Value.tuple #[.int .i64 v, .bool true] = .tuple #[.int .i64 (smallV z), .bool (smallB z)] := by
  unfold smallV smallB
  rw [if_pos h, decide_eq_true h, hv]
theorem i64s {x : Int} (h0 : -9223372036854775808 ≤ x) (h1 : x ≤ 9223372036854775807) : IntKind.i64.wrap x = x := (i64_w x).trans (w64 (by omega) (by omega))
end Go.Proofs.Ytmbmbmkmjbpcpaa.PA


/- More of single operations, with what they come to. -/
namespace Go.Proofs.Ytmbmbmkmjbpcpaa.PA
open Go Go.Proofs.Ytmbmbmkmjbpcpaa.Nums Go.RowKit Go.Proofs.YtmbmbmkmjbpcpaaW.PrintWords Go.Proofs.YtmbmbmkmjbpcpaaW.PrintLast Go.Proofs.YtmbmbmkmjbpcpaaW.PrintMore
set_option linter.unusedVariables false
section
variable {a : Act} {o : Oper} {W : World} {p q : Operand}
theorem run_shlU {x y : Int} (h : IntKind.u64.wrap (x * 4294967296) = y) (ho : o.op = .binOp .shl 50 p (.const (.int .u64 32)) 77) (he : a.eval p = .int .u64 x) : (execOp a.eval o).run Try.prog W = .ok (.value (.int .u64 y)) W := by
  subst h
  have e2 : a.eval (.const (.int .u64 32)) = .int .u64 32 := rfl
  unfold execOp
  simp only [ho, he, e2]
  go_simp
  try rfl
theorem run_addU {x y z : Int} (h : IntKind.u64.wrap (x + y) = z) (ho : o.op = .binOp .add 50 p q 50) (he : a.eval p = .int .u64 x) (he2 : a.eval q = .int .u64 y) : (execOp a.eval o).run Try.prog W = .ok (.value (.int .u64 z)) W := by
  subst h
  unfold execOp
  simp only [ho, he, he2]
  go_simp
theorem run_convX' {x y : Int} (h : IntKind.u64.wrap x = y) (ho : o.op = .convert 68 50 p) (he : a.eval p = .int .u32 x) : (execOp a.eval o).run Try.prog W = .ok (.value (.int .u64 y)) W := by
  subst h
  exact run_convX ho he
theorem run_sub' {x y z : Int} (h : wrap64 (x - y) = z) (ho : o.op = .binOp .sub 3 p q 3) (he : a.eval p = .int .i64 x) (he2 : a.eval q = .int .i64 y) : (execOp a.eval o).run Try.prog W = .ok (.value (.int .i64 z)) W := by
  subst h
  exact run_sub ho he he2
end
theorem val_drop_lt {l : List Int} (ho : Ok l) (j : Nat) : val (l.drop j) ≤ val l := by
  have h := val_split l j
  have h1 := val_nonneg (ok_take ho j)
  have h2 := val_nonneg (ok_drop ho j)
  have h3 := Bp_pos j
  have : 1 * val (l.drop j) ≤ Bp j * val (l.drop j) := Int.mul_le_mul_of_nonneg_right (by omega) h2
  omega
theorem val_drop_cons {l : List Int} {j : Nat} (hj : j < l.length) : val (l.drop j) = l.getD j 0 + 4294967296 * val (l.drop (j + 1)) := by
  rw [List.drop_eq_getElem_cons hj]
  simp only [val]
  rw [show l.getD j 0 = l[j] by simp [List.getD, hj]]
end Go.Proofs.Ytmbmbmkmjbpcpaa.PA


/- The walk of the reference's Small. -/
namespace Go.Proofs.Ytmbmbmkmjbpcpaa.PA
open Go Go.Proofs.Ytmbmbmkmjbpcpaa.Nums Go.RowKit Go.Proofs.YtmbmbmkmjbpcpaaW.PrintWords Go.Proofs.YtmbmbmkmjbpcpaaW.PrintLast Go.Proofs.YtmbmbmkmjbpcpaaW.PrintMore
set_option linter.unusedVariables false
set_option linter.unusedSimpArgs false
theorem small_rng {z : Int} (h1 : decide (cmp z (-9223372036854775808 : Int) < 0) = false) (h2 : decide (0 < cmp z (9223372036854775807 : Int)) = false) : -9223372036854775808 ≤ z ∧ z ≤ 9223372036854775807 := by
  have h1 := of_decide_eq_false h1
  have h2 := of_decide_eq_false h2
  unfold cmp at h1 h2
  constructor
  · split at h1
    · omega
    · omega
  · split at h2
    · omega
    · split at h2 <;> omega
theorem small_lo {z : Int} (h1 : decide (cmp z (-9223372036854775808 : Int) < 0) = true) : ¬ (-9223372036854775808 ≤ z ∧ z ≤ 9223372036854775807) := by
  have h1 := of_decide_eq_true h1
  unfold cmp at h1
  split at h1
  · omega
  · split at h1 <;> omega
theorem small_hi {z : Int} (h1 : decide (0 < cmp z (9223372036854775807 : Int)) = true) : ¬ (-9223372036854775808 ≤ z ∧ z ≤ 9223372036854775807) := by
  have h1 := of_decide_eq_true h1
  unfold cmp at h1
  split at h1
  · omega
  · split at h1 <;> omega
theorem small_end {w : World} {b : Bool} {v : Value} {z : Int} (m : NumV w b v z) (hr : -9223372036854775808 ≤ z ∧ z ≤ 9223372036854775807) (i : Int) (k : Nat) (h : decide (0 ≤ i) = false) (hI : i = (k : Int) - 1 ∧ k ≤ (lm (((z).natAbs : Nat) : Int)).length) : val ((lm (((z).natAbs : Nat) : Int)).drop k) = ((z.natAbs : Nat) : Int) := by
  have h := of_decide_eq_false h
  have : k = 0 := by omega
  subst this
  rw [List.drop_zero, lm_val (by omega)]
theorem small_t {w : World} {b : Bool} {v : Value} {z : Int} (m : NumV w b v z) (hb : b = true) (hr : -9223372036854775808 ≤ z ∧ z ≤ 9223372036854775807) : IntKind.i64.wrap (IntKind.u64.wrap (-((z.natAbs : Nat) : Int))) = z := by
  subst hb
  rcases m.cases with ⟨e, -⟩ | ⟨-, e⟩
  · cases e
  · rw [u64_def, i64_w, wrap64]
    omega
theorem small_f {w : World} {b : Bool} {v : Value} {z : Int} (m : NumV w b v z) (hb : b = false) (hr : -9223372036854775808 ≤ z ∧ z ≤ 9223372036854775807) : IntKind.i64.wrap ((z.natAbs : Nat) : Int) = z := by
  subst hb
  rcases m.cases with ⟨-, e⟩ | ⟨e, -⟩
  · rw [i64s (by omega) (by omega)]
    omega
  · cases e
set_option maxHeartbeats 4000000 in
set_option maxRecDepth 100000 in
theorem trammelref02_Small.sem {w : World} {b1 : Bool} {v1 : Value} {z1 : Int} (m1 : NumV w b1 v1 z1) (hf0 : Fm ((((((z1)))).natAbs : Nat) + (((-((((-9223372036854775808 : Int)))))).natAbs : Nat))) (hf1 : Fm ((((((z1)))).natAbs : Nat) - (((-((((-9223372036854775808 : Int)))))).natAbs : Nat))) (hf2 : Fm ((((-((((-9223372036854775808 : Int)))))).natAbs : Nat) - (((((z1)))).natAbs : Nat))) (hf3 : Fm (((((z1)) - (((-9223372036854775808 : Int)))).natAbs : Nat))) (hf4 : Fm ((((((z1)))).natAbs : Nat) + (((-((((9223372036854775807 : Int)))))).natAbs : Nat))) (hf5 : Fm ((((((z1)))).natAbs : Nat) - (((-((((9223372036854775807 : Int)))))).natAbs : Nat))) (hf6 : Fm ((((-((((9223372036854775807 : Int)))))).natAbs : Nat) - (((((z1)))).natAbs : Nat))) (hf7 : Fm (((((z1)) - (((9223372036854775807 : Int)))).natAbs : Nat))) (hf8 : Fm (((z1).natAbs : Nat))) : Calls Try.prog 35 #[.agg #[.bool b1, v1]] w (RetV w (.tuple #[.int .i64 (smallV z1), .bool (smallB z1)])) := by
  obtain ⟨A1, n1, c1, rfl⟩ := m1.form
  have Z := Zt.begin1 m1
  go_enter Try.func35, Try.ntmps35
  refine wp_seq ?_
  refine wp_region_list ?_
  refine seq_box Z rfl rfl rfl ?_; clear Z; intro g1 W Z
  (try simp only [Act.put, List.setIfInBounds_toArray, List.set_cons_zero, List.set_cons_succ])
  refine seq_is (v := .int .i64 (0)) rfl (run_assign rfl rfl) ?_
  (try simp only [Act.put, List.setIfInBounds_toArray, List.set_cons_zero, List.set_cons_succ])
  refine seq_is (v := .bool (false)) rfl (run_assign rfl rfl) ?_
  (try simp only [Act.put, List.setIfInBounds_toArray, List.set_cons_zero, List.set_cons_succ])
  show Code.wp _ _ _ _ _
  refine wp_seq ?_
  refine wp_seq ?_
  rcases Bool.eq_false_or_eq_true (decide ((cmp (z1) ((-9223372036854775808 : Int))) < (0))) with hk19 | hk19
  · refine wp_dag (pre := [_, _, _, _, _, _, _, _, _, _]) (sps := [.is (.agg #[.bool (b1), .slice A1 n1 c1]), spI w ((-9223372036854775808 : Int)), .is (.int .i64 (cmp (z1) ((-9223372036854775808 : Int)))), .is (.bool (decide ((cmp (z1) ((-9223372036854775808 : Int))) < (0)))), .is (.bool (decide ((cmp (z1) ((-9223372036854775808 : Int))) < (0)))), .is undef, .is undef, .is undef, .is undef, .is (.bool (true))]) Z (by kernel_rfl) _ rfl (by kernel_rfl) (by kernel_rfl) rfl ⟨?_, ?_, ?_, ?_, ?_, ?_, ?_, ?_, ?_, ?_, trivial⟩ ?_
    · intro a e20 W Q Z; exact step_is (fun _ h => op_plain rfl rfl h) (run_load2 rfl (ev e20) (Z.bx 0 rfl))
    · intro a W Q Z; exact step_call (fun _ h => op_plain rfl rfl h) rfl Try.func31 rfl rfl (args1 rfl) (Z.callI (trammelref02_Of.sem (by omega) (by omega)))
    · intro a x23 e24 x25 e26 W Q Z; exact step_call (fun _ h => op_plain rfl rfl h) rfl Try.func39 rfl rfl (args2 (ev e24) (ev e26)) (Z.callV (trammelref02_Cmp.sem (Z.num 1 rfl) (Z.own 0 rfl (Bd.fm (Bd.abs (Bd.lit (k := 64) (z := -9223372036854775808) (by decide))) (by decide))) (Bd.fm (Bd.abs (Bd.neg (Bd.lit (k := 64) (z := -9223372036854775808) (by decide)))) (by decide)) hf0 hf1 hf2 hf3 ))
    · intro a x28 e29 W Q Z; exact step_is (fun _ h => op_plain rfl rfl h) (run_lss rfl (ev e29) rfl)
    · intro a x31 e32 W Q Z; exact step_is (fun _ h => op_plain rfl rfl h) (run_move rfl (ev e32))
    · intro a x34 e35 e36 W Q Z; exact step_un rfl rfl rfl (e35.trans (congrArg some (congrArg Value.bool hk19))) (by decide)
    · intro a x38 e39 W Q Z; exact step_un rfl rfl rfl (e39.trans (congrArg some (congrArg Value.bool hk19))) (by decide)
    · intro a x41 e42 x43 e44 x45 e46 W Q Z; exact step_un rfl rfl rfl (e42.trans (congrArg some (congrArg Value.bool hk19))) (by decide)
    · intro a x48 e49 x50 e51 W Q Z; exact step_un rfl rfl rfl (e49.trans (congrArg some (congrArg Value.bool hk19))) (by decide)
    · intro a x53 e54 x55 e56 W Q Z; exact step_is (fun _ h => op_plain rfl rfl h) (run_pickT rfl ((show _ = Value.bool (decide ((cmp (z1) ((-9223372036854775808 : Int))) < (0))) from (ev e54)).trans (congrArg Value.bool hk19)) rfl)
    clear Z; intro x21 x22 x27 x30 x33 x37 x40 x47 x52 x57 W Z
    (try simp only [Act.put, List.setIfInBounds_toArray, List.set_cons_zero, List.set_cons_succ])
    show Code.wp _ _ _ _ _
    refine wp_cond_true rfl ?_
    refine wp_seq ?_
    refine wp_region_list ?_
    refine seq_is (v := .int .i64 (0)) rfl (run_assign rfl rfl) ?_
    (try simp only [Act.put, List.setIfInBounds_toArray, List.set_cons_zero, List.set_cons_succ])
    refine seq_is (v := .bool (false)) rfl (run_assign rfl rfl) ?_
    (try simp only [Act.put, List.setIfInBounds_toArray, List.set_cons_zero, List.set_cons_succ])
    show Code.wp _ _ _ _ _
    refine wp_ret ?_
    exact Z.endsVV (u := .int .i64 (0)) (v := .bool (false)) rfl rfl rfl rfl (by exact small_out (small_lo hk19))
  · refine wp_dag (pre := [_, _, _, _, _, _, _, _, _, _]) (sps := [.is (.agg #[.bool (b1), .slice A1 n1 c1]), spI w ((-9223372036854775808 : Int)), .is (.int .i64 (cmp (z1) ((-9223372036854775808 : Int)))), .is (.bool (decide ((cmp (z1) ((-9223372036854775808 : Int))) < (0)))), .is (.bool (decide ((cmp (z1) ((-9223372036854775808 : Int))) < (0)))), .is (.agg #[.bool (b1), .slice A1 n1 c1]), spI w ((9223372036854775807 : Int)), .is (.int .i64 (cmp (z1) ((9223372036854775807 : Int)))), .is (.bool (decide ((0) < (cmp (z1) ((9223372036854775807 : Int)))))), .is (.bool (decide ((0) < (cmp (z1) ((9223372036854775807 : Int))))))]) Z (by kernel_rfl) _ rfl (by kernel_rfl) (by kernel_rfl) rfl ⟨?_, ?_, ?_, ?_, ?_, ?_, ?_, ?_, ?_, ?_, trivial⟩ ?_
    · intro a e58 W Q Z; exact step_is (fun _ h => op_plain rfl rfl h) (run_load2 rfl (ev e58) (Z.bx 0 rfl))
    · intro a W Q Z; exact step_call (fun _ h => op_plain rfl rfl h) rfl Try.func31 rfl rfl (args1 rfl) (Z.callI (trammelref02_Of.sem (by omega) (by omega)))
    · intro a x61 e62 x63 e64 W Q Z; exact step_call (fun _ h => op_plain rfl rfl h) rfl Try.func39 rfl rfl (args2 (ev e62) (ev e64)) (Z.callV (trammelref02_Cmp.sem (Z.num 1 rfl) (Z.own 0 rfl (Bd.fm (Bd.abs (Bd.lit (k := 64) (z := -9223372036854775808) (by decide))) (by decide))) (Bd.fm (Bd.abs (Bd.neg (Bd.lit (k := 64) (z := -9223372036854775808) (by decide)))) (by decide)) hf0 hf1 hf2 hf3 ))
    · intro a x66 e67 W Q Z; exact step_is (fun _ h => op_plain rfl rfl h) (run_lss rfl (ev e67) rfl)
    · intro a x69 e70 W Q Z; exact step_is (fun _ h => op_plain rfl rfl h) (run_move rfl (ev e70))
    · intro a x72 e73 e74 W Q Z; exact step_is (fun _ h => op_want rfl rfl rfl (e73.trans (congrArg some (congrArg Value.bool hk19))) h) (run_load2 rfl (ev e74) (Z.bx 0 rfl))
    · intro a x76 e77 W Q Z; exact step_call (fun _ h => op_want rfl rfl rfl (e77.trans (congrArg some (congrArg Value.bool hk19))) h) rfl Try.func31 rfl rfl (args1 rfl) (Z.callI (trammelref02_Of.sem (by omega) (by omega)))
    · intro a x79 e80 x81 e82 x83 e84 W Q Z; exact step_call (fun _ h => op_want rfl rfl rfl (e80.trans (congrArg some (congrArg Value.bool hk19))) h) rfl Try.func39 rfl rfl (args2 (ev e82) (ev e84)) (Z.callV (trammelref02_Cmp.sem (Z.num 1 rfl) (Z.own 0 rfl (Bd.fm (Bd.abs (Bd.lit (k := 64) (z := 9223372036854775807) (by decide))) (by decide))) (Bd.fm (Bd.abs (Bd.neg (Bd.lit (k := 64) (z := 9223372036854775807) (by decide)))) (by decide)) hf4 hf5 hf6 hf7 ))
    · intro a x86 e87 x88 e89 W Q Z; exact step_is (fun _ h => op_want rfl rfl rfl (e87.trans (congrArg some (congrArg Value.bool hk19))) h) (run_gtr rfl (ev e89) rfl)
    · intro a x91 e92 x93 e94 W Q Z; exact step_is (fun _ h => op_plain rfl rfl h) (run_pickF rfl ((show _ = Value.bool (decide ((cmp (z1) ((-9223372036854775808 : Int))) < (0))) from (ev e92)).trans (congrArg Value.bool hk19)) (ev e94))
    clear Z; intro x59 x60 x65 x68 x71 x75 x78 x85 x90 x95 W Z
    (try simp only [Act.put, List.setIfInBounds_toArray, List.set_cons_zero, List.set_cons_succ])
    show Code.wp _ _ _ _ _
    refine wp_cond_split (t := decide ((0) < (cmp (z1) ((9223372036854775807 : Int))))) rfl ?_ ?_
    · intro hc96
      refine wp_seq ?_
      refine wp_region_list ?_
      refine seq_is (v := .int .i64 (0)) rfl (run_assign rfl rfl) ?_
      (try simp only [Act.put, List.setIfInBounds_toArray, List.set_cons_zero, List.set_cons_succ])
      refine seq_is (v := .bool (false)) rfl (run_assign rfl rfl) ?_
      (try simp only [Act.put, List.setIfInBounds_toArray, List.set_cons_zero, List.set_cons_succ])
      show Code.wp _ _ _ _ _
      refine wp_ret ?_
      exact Z.endsVV (u := .int .i64 (0)) (v := .bool (false)) rfl rfl rfl rfl (by exact small_out (small_hi hc96))
    · intro hc96
      refine wp_skip ?_
      show Code.wp _ _ _ _ _
      refine wp_seq ?_
      refine wp_region_list ?_
      refine seq_is (v := .pointer (some ⟨g1, 1, none⟩)) rfl (run_field1 rfl rfl) ?_
      (try simp only [Act.put, List.setIfInBounds_toArray, List.set_cons_zero, List.set_cons_succ])
      refine seq_is (v := .slice A1 n1 c1) rfl (run_loadM rfl rfl (Z.bx 0 rfl)) ?_
      (try simp only [Act.put, List.setIfInBounds_toArray, List.set_cons_zero, List.set_cons_succ])
      refine seq_call Z rfl rfl Try.func80 rfl rfl (args1 rfl) (Z.callM (trammelref01_Norm.sem (Z.num 2 rfl).mag)) ?_; clear Z; intro x97 W Z
      (try simp only [Act.put, List.setIfInBounds_toArray, List.set_cons_zero, List.set_cons_succ])
      refine seq_is (v := x97.v) rfl (run_assign rfl rfl) ?_
      (try simp only [Act.put, List.setIfInBounds_toArray, List.set_cons_zero, List.set_cons_succ])
      show Code.wp _ _ _ _ _
      refine wp_seq ?_
      have hz0 : (0 : Int) = val ((lm (((z1).natAbs : Nat) : Int)).drop (lm (((z1).natAbs : Nat) : Int)).length) := by rw [List.drop_length, val_nil]
      refine wp_region_list ?_
      refine seq_is (v := .int .u64 (val ((lm (((z1).natAbs : Nat) : Int)).drop (lm (((z1).natAbs : Nat) : Int)).length))) rfl (run_assign rfl (congrArg (Value.int .u64) hz0)) ?_
      (try simp only [Act.put, List.setIfInBounds_toArray, List.set_cons_zero, List.set_cons_succ])
      show Code.wp _ _ _ _ _
      refine wp_seq ?_
      refine wp_seq ?_
      have hN := (Kd.R_reads' (Z.row 0 rfl)).1
      have hNb : (lm (((z1).natAbs : Nat) : Int)).length ≤ 10000000 := m1.fit
      have hrng := small_rng hk19 hc96
      have hn64 : ((z1.natAbs : Nat) : Int) < 18446744073709551616 := by omega
      refine wp_region_list ?_
      refine seq_is (v := x97.v) rfl (run_move rfl rfl) ?_
      (try simp only [Act.put, List.setIfInBounds_toArray, List.set_cons_zero, List.set_cons_succ])
      refine seq_is (v := .int .i64 (((x97.2.1 : Nat) : Int))) rfl (run_len rfl rfl) ?_
      (try simp only [Act.put, List.setIfInBounds_toArray, List.set_cons_zero, List.set_cons_succ])
      refine seq_is (v := .int .i64 (((x97.2.1 : Nat) : Int) - 1)) rfl (run_sub' (w64 (by omega) (by omega)) rfl rfl rfl) ?_
      (try simp only [Act.put, List.setIfInBounds_toArray, List.set_cons_zero, List.set_cons_succ])
      refine seq_is (v := .int .i64 (((x97.2.1 : Nat) : Int) - 1)) rfl (run_assign rfl rfl) ?_
      (try simp only [Act.put, List.setIfInBounds_toArray, List.set_cons_zero, List.set_cons_succ])
      show Code.wp _ _ _ _ _
      refine wp_block ?_
      refine wp_loop_s (α := Int × Nat) (fun (i, k) a W => ∃ (j23_6 j24_6 j25_6 j26_6 j27_6 j28_6 j29_6 j30_6 j31_6 j32_6 j33_6 j34_6 : Value), a = { tmps := #[.agg #[.bool (b1), .slice A1 n1 c1], .pointer (some ⟨g1, 0, none⟩), .int .i64 (0), .bool (false), x97.v, .int .u64 (val ((lm (((z1).natAbs : Nat) : Int)).drop k)), .int .i64 (i), .agg #[.bool (b1), .slice A1 n1 c1], .agg #[.bool (decide ((-9223372036854775808 : Int) < 0)), x60.v], .int .i64 (cmp (z1) ((-9223372036854775808 : Int))), .bool (decide ((cmp (z1) ((-9223372036854775808 : Int))) < (0))), .bool (decide ((cmp (z1) ((-9223372036854775808 : Int))) < (0))), .agg #[.bool (b1), .slice A1 n1 c1], .agg #[.bool (decide ((9223372036854775807 : Int) < 0)), x78.v], .int .i64 (cmp (z1) ((9223372036854775807 : Int))), .bool (decide ((0) < (cmp (z1) ((9223372036854775807 : Int))))), .bool (decide ((0) < (cmp (z1) ((9223372036854775807 : Int))))), .pointer (some ⟨g1, 1, none⟩), .slice A1 n1 c1, x97.v, x97.v, .int .i64 (((x97.2.1 : Nat) : Int)), .int .i64 (((x97.2.1 : Nat) : Int) - 1), j23_6, j24_6, j25_6, j26_6, j27_6, j28_6, j29_6, j30_6, j31_6, j32_6, j33_6, j34_6, undef, undef, undef, undef, undef, undef], defers := [] } ∧ Zt w W [(x97.v, tyO w (lm (((z1).natAbs : Nat)))), (x78.v, tyO w (mg ((9223372036854775807 : Int)))), (x60.v, tyO w (mg ((-9223372036854775808 : Int)))), (.slice A1 n1 c1, tyN b1 z1)] [(g1, 25, #[.bool (b1), .slice A1 n1 c1])] ∧ (i = (k : Int) - 1 ∧ k ≤ (lm (((z1).natAbs : Nat) : Int)).length)) (fun (i, k) => k) (((x97.2.1 : Nat) : Int) - 1, (lm (((z1).natAbs : Nat) : Int)).length) ⟨_, _, _, _, _, _, _, _, _, _, _, _, rfl, (Z.retype (has_cons (Z.has 0 rfl) (has_cons (Z.has 1 rfl) (has_cons (Z.has 2 rfl) (has_cons (Z.has 3 rfl) (Has.nil _ _)))))), ⟨by have := hN; omega, Nat.le_refl _⟩⟩ ?_
      clear Z; rintro ⟨i, k⟩ a W ⟨j23_6, j24_6, j25_6, j26_6, j27_6, j28_6, j29_6, j30_6, j31_6, j32_6, j33_6, j34_6, rfl, Z, hI⟩
      refine wp_seq ?_
      refine wp_seq ?_
      refine wp_region_list ?_
      refine seq_is (v := .int .i64 (i)) rfl (run_move rfl rfl) ?_
      (try simp only [Act.put, List.setIfInBounds_toArray, List.set_cons_zero, List.set_cons_succ])
      refine seq_is (v := .bool (decide ((0) ≤ (i)))) rfl (run_geq rfl rfl rfl) ?_
      (try simp only [Act.put, List.setIfInBounds_toArray, List.set_cons_zero, List.set_cons_succ])
      show Code.wp _ _ _ _ _
      refine wp_cond_split (t := decide ((0) ≤ (i))) rfl ?_ ?_
      · intro hc98
        refine wp_skip ?_
        show Code.wp _ _ _ _ _
        refine wp_seq ?_
        obtain ⟨j, rfl⟩ := Int.eq_ofNat_of_zero_le (of_decide_eq_true hc98)
        obtain rfl : k = j + 1 := by have := hI.1; omega
        have hj : j < (lm (((z1).natAbs : Nat) : Int)).length := hI.2
        have hrow := (Kd.R_reads' (Z.row 0 rfl)).1
        obtain ⟨ad1, had⟩ := (Z.rdO 0 rfl).nonnil hj
        obtain ⟨A5, n5, c5⟩ := x97
        dsimp only at had hrow; subst had
        have hj5 : j < n5 := by omega
        have hd0 := val_nonneg (ok_drop (lm_ok (((z1).natAbs : Nat) : Int)) (j + 1))
        have hd1 := val_drop_cons hj
        have hd2 := val_drop_lt (lm_ok (((z1).natAbs : Nat) : Int)) j
        rw [lm_val (by omega)] at hd2
        have hd3 := ok_getD (lm_ok (((z1).natAbs : Nat) : Int)) j
        have hs1 : IntKind.u64.wrap (val ((lm (((z1).natAbs : Nat) : Int)).drop (j + 1)) * 4294967296) = val ((lm (((z1).natAbs : Nat) : Int)).drop (j + 1)) * 4294967296 := u64w (by omega) (by omega)
        have hs2 : IntKind.u64.wrap ((lm (((z1).natAbs : Nat) : Int)).getD j 0) = (lm (((z1).natAbs : Nat) : Int)).getD j 0 := u64w (by omega) (by omega)
        have hs3 : IntKind.u64.wrap (val ((lm (((z1).natAbs : Nat) : Int)).drop (j + 1)) * 4294967296 + (lm (((z1).natAbs : Nat) : Int)).getD j 0) = val ((lm (((z1).natAbs : Nat) : Int)).drop j) := by rw [hd1, u64w (by omega) (by omega)]; omega
        refine wp_block ?_
        refine wp_region_list ?_
        refine seq_is (v := .int .u64 (val ((lm (((z1).natAbs : Nat) : Int)).drop (j + 1)))) rfl (run_move rfl rfl) ?_
        (try simp only [Act.put, List.setIfInBounds_toArray, List.set_cons_zero, List.set_cons_succ])
        refine seq_is (v := .int .u64 (val ((lm (((z1).natAbs : Nat) : Int)).drop (j + 1)) * 4294967296)) rfl (run_shlU hs1 rfl rfl) ?_
        (try simp only [Act.put, List.setIfInBounds_toArray, List.set_cons_zero, List.set_cons_succ])
        refine seq_is (v := .slice (some ad1) n5 c5) rfl (run_move rfl rfl) ?_
        (try simp only [Act.put, List.setIfInBounds_toArray, List.set_cons_zero, List.set_cons_succ])
        refine seq_is (v := .int .i64 ((j : Nat) : Int)) rfl (run_move rfl rfl) ?_
        (try simp only [Act.put, List.setIfInBounds_toArray, List.set_cons_zero, List.set_cons_succ])
        refine seq_is (v := .pointer (some (ad1.add j))) rfl (run_index rfl rfl rfl hj5) ?_
        (try simp only [Act.put, List.setIfInBounds_toArray, List.set_cons_zero, List.set_cons_succ])
        refine seq_is (v := .int .u32 ((lm (((z1).natAbs : Nat) : Int)).getD j 0)) rfl (run_loadU rfl rfl ((Z.rdO 0 rfl).cell hj)) ?_
        (try simp only [Act.put, List.setIfInBounds_toArray, List.set_cons_zero, List.set_cons_succ])
        refine seq_is (v := .int .u64 ((lm (((z1).natAbs : Nat) : Int)).getD j 0)) rfl (run_convX' hs2 rfl rfl) ?_
        (try simp only [Act.put, List.setIfInBounds_toArray, List.set_cons_zero, List.set_cons_succ])
        refine seq_is (v := .int .u64 (val ((lm (((z1).natAbs : Nat) : Int)).drop j))) rfl (run_addU hs3 rfl rfl rfl) ?_
        (try simp only [Act.put, List.setIfInBounds_toArray, List.set_cons_zero, List.set_cons_succ])
        refine seq_is (v := .int .u64 (val ((lm (((z1).natAbs : Nat) : Int)).drop j))) rfl (run_assign rfl rfl) ?_
        (try simp only [Act.put, List.setIfInBounds_toArray, List.set_cons_zero, List.set_cons_succ])
        show Code.wp _ _ _ _ _
        refine wp_region_list ?_
        refine seq_is (v := .int .i64 ((j : Nat) : Int)) rfl (run_move rfl rfl) ?_
        (try simp only [Act.put, List.setIfInBounds_toArray, List.set_cons_zero, List.set_cons_succ])
        refine seq_is (v := .int .i64 ((j : Nat) - 1 : Int)) rfl (run_sub' (w64 (by omega) (by omega)) rfl rfl rfl) ?_
        (try simp only [Act.put, List.setIfInBounds_toArray, List.set_cons_zero, List.set_cons_succ])
        refine seq_is (v := .int .i64 ((j : Nat) - 1 : Int)) rfl (run_assign rfl rfl) ?_
        (try simp only [Act.put, List.setIfInBounds_toArray, List.set_cons_zero, List.set_cons_succ])
        exact ⟨(((j : Nat) : Int) - 1, j), (Nat.lt_succ_self j), _, _, _, _, _, _, _, _, _, _, _, _, rfl, (Z.retype (has_cons (Z.has 0 rfl) (has_cons (Z.has 1 rfl) (has_cons (Z.has 2 rfl) (has_cons (Z.has 3 rfl) (Has.nil _ _)))))), ⟨rfl, by have := hI.2; omega⟩⟩
      · intro hc98
        refine wp_exit ?_
        show Code.wp _ _ _ _ _
        refine wp_seq ?_
        refine wp_seq ?_
        refine wp_region_list ?_
        refine seq_is (v := .pointer (some ⟨g1, 0, none⟩)) rfl (run_field0 rfl rfl) ?_
        (try simp only [Act.put, List.setIfInBounds_toArray, List.set_cons_zero, List.set_cons_succ])
        refine seq_is (v := .bool (b1)) rfl (run_loadN rfl rfl (Z.bx 0 rfl)) ?_
        (try simp only [Act.put, List.setIfInBounds_toArray, List.set_cons_zero, List.set_cons_succ])
        show Code.wp _ _ _ _ _
        refine wp_cond_split (t := b1) rfl ?_ ?_
        · intro hc99
          refine wp_region_list ?_
          refine seq_is (v := .int .u64 (val ((lm (((z1).natAbs : Nat) : Int)).drop k))) rfl (run_move rfl rfl) ?_
          (try simp only [Act.put, List.setIfInBounds_toArray, List.set_cons_zero, List.set_cons_succ])
          refine seq_is (v := .int .u64 (IntKind.u64.wrap (-(val ((lm (((z1).natAbs : Nat) : Int)).drop k))))) rfl (run_negU rfl rfl) ?_
          (try simp only [Act.put, List.setIfInBounds_toArray, List.set_cons_zero, List.set_cons_succ])
          refine seq_is (v := .int .u64 (IntKind.u64.wrap (-(val ((lm (((z1).natAbs : Nat) : Int)).drop k))))) rfl (run_assign rfl rfl) ?_
          (try simp only [Act.put, List.setIfInBounds_toArray, List.set_cons_zero, List.set_cons_succ])
          show Code.wp _ _ _ _ _
          refine wp_seq ?_
          refine wp_region_list ?_
          refine seq_is (v := .int .u64 (IntKind.u64.wrap (-(val ((lm (((z1).natAbs : Nat) : Int)).drop k))))) rfl (run_move rfl rfl) ?_
          (try simp only [Act.put, List.setIfInBounds_toArray, List.set_cons_zero, List.set_cons_succ])
          refine seq_is (v := .int .i64 (IntKind.i64.wrap (IntKind.u64.wrap (-(val ((lm (((z1).natAbs : Nat) : Int)).drop k)))))) rfl (run_convI rfl rfl) ?_
          (try simp only [Act.put, List.setIfInBounds_toArray, List.set_cons_zero, List.set_cons_succ])
          refine seq_is (v := .int .i64 (IntKind.i64.wrap (IntKind.u64.wrap (-(val ((lm (((z1).natAbs : Nat) : Int)).drop k)))))) rfl (run_assign rfl rfl) ?_
          (try simp only [Act.put, List.setIfInBounds_toArray, List.set_cons_zero, List.set_cons_succ])
          refine seq_is (v := .bool (true)) rfl (run_assign rfl rfl) ?_
          (try simp only [Act.put, List.setIfInBounds_toArray, List.set_cons_zero, List.set_cons_succ])
          show Code.wp _ _ _ _ _
          refine wp_ret ?_
          exact Z.endsVV (u := .int .i64 (IntKind.i64.wrap (IntKind.u64.wrap (-(val ((lm (((z1).natAbs : Nat) : Int)).drop k)))))) (v := .bool (true)) rfl rfl rfl rfl (by exact small_in hrng (by rw [small_end m1 hrng i k hc98 hI]; exact small_t m1 hc99 hrng))
        · intro hc99
          refine wp_skip ?_
          show Code.wp _ _ _ _ _
          refine wp_seq ?_
          refine wp_region_list ?_
          refine seq_is (v := .int .u64 (val ((lm (((z1).natAbs : Nat) : Int)).drop k))) rfl (run_move rfl rfl) ?_
          (try simp only [Act.put, List.setIfInBounds_toArray, List.set_cons_zero, List.set_cons_succ])
          refine seq_is (v := .int .i64 (IntKind.i64.wrap (val ((lm (((z1).natAbs : Nat) : Int)).drop k)))) rfl (run_convI rfl rfl) ?_
          (try simp only [Act.put, List.setIfInBounds_toArray, List.set_cons_zero, List.set_cons_succ])
          refine seq_is (v := .int .i64 (IntKind.i64.wrap (val ((lm (((z1).natAbs : Nat) : Int)).drop k)))) rfl (run_assign rfl rfl) ?_
          (try simp only [Act.put, List.setIfInBounds_toArray, List.set_cons_zero, List.set_cons_succ])
          refine seq_is (v := .bool (true)) rfl (run_assign rfl rfl) ?_
          (try simp only [Act.put, List.setIfInBounds_toArray, List.set_cons_zero, List.set_cons_succ])
          show Code.wp _ _ _ _ _
          refine wp_ret ?_
          exact Z.endsVV (u := .int .i64 (IntKind.i64.wrap (val ((lm (((z1).natAbs : Nat) : Int)).drop k)))) (v := .bool (true)) rfl rfl rfl rfl (by exact small_in hrng (by rw [small_end m1 hrng i k hc98 hI]; exact small_f m1 hc99 hrng))
end Go.Proofs.Ytmbmbmkmjbpcpaa.PA

