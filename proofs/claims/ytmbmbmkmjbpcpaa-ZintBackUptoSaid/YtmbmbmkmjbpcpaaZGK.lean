/- zint.word: a magnitude of at most two words as a number of 64 bits. -/
import Derived.Test.YtmbmbmkmjbpcpaaZEK
import Derived.Test.YtmbmbmkmjbpcpaaZDK
import Derived.Test.YtmbmbmkmjbpcpaaPAx7K
import Derived.Outline
import Derived.Test.YtmbmbmkmjbpcpaaPAx0K
namespace Go.Proofs.Ytmbmbmkmjbpcpaa.PA
open Go Go.Proofs.Ytmbmbmkmjbpcpaa.Nums Go.RowKit Go.Proofs.YtmbmbmkmjbpcpaaW.PrintWords Go.Proofs.YtmbmbmkmjbpcpaaW.PrintLast Go.Proofs.YtmbmbmkmjbpcpaaW.PrintMore
set_option linter.unusedVariables false
set_option linter.unusedSimpArgs false
def wordV (v : Int) : Int := if v < 18446744073709551616 then v else 0
def wordB (v : Int) : Bool := decide (v < 18446744073709551616)
theorem shl0 {x : Int} (h0 : 0 ≤ x) (h1 : x < 4294967296) : shl .u64 (IntKind.u64.wrap x) (wrap64 (32 * 0)) = x := by
  rw [u64w h0 (by omega), show wrap64 (32 * 0) = 0 from w64 (by omega) (by omega)]
  unfold shl
  simp [u64w (n := x) h0 (by omega)]
theorem shl32 {x : Int} (h0 : 0 ≤ x) (h1 : x < 4294967296) : shl .u64 (IntKind.u64.wrap x) (wrap64 (32 * 1)) = x * 4294967296 := by
  rw [u64w h0 (by omega), show wrap64 (32 * 1) = 32 from w64 (by omega) (by omega)]
  unfold shl
  rw [show min (Int.toNat 32) IntKind.u64.bits = 32 from rfl]
  exact u64w (by omega) (by omega)
theorem or0 {x : Int} (h0 : 0 ≤ x) (h1 : x < 4294967296) : Go.bits .or .u64 0 x = x := by
  have := or_hi2 (x := x) (y := 0) h0 h1 (by omega) (by omega)
  rw [or_swap] at this
  simpa using this
theorem word_l (t : List Int) (ho : Ok t) (hn : Nrm t) (hl : t.length ≤ 1000000000) : Ev (fun k => zint_word.l0 k 0 t (t.length : Int) 0) (wordV (val t), wordB (val t)) := by
  match t, ho, hn, hl with
  | [], _, _, _ =>
    refine Ev.of (fun k => (zint_word.mono_l k) _ _ _ _) (k := 1) ?_
    simp [zint_word.l0, wordV, wordB, val]
  | [x], ho, _, _ =>
    have hx := ho x (by simp)
    refine Ev.of (fun k => (zint_word.mono_l k) _ _ _ _) (k := 2) ?_
    have e1 : rd [x] 0 = x := rfl
    have e2 : wrap64 (0 + 1) = 1 := w64 (by omega) (by omega)
    have e3 : wrap64 (32 * 0) = 0 := w64 (by omega) (by omega)
    have hv : val [x] = x := by simp [val]
    have e4 : (0 : Int) ≤ wrap64 (32 * 0) := by rw [e3]; omega
    rw [zint_word.l0, if_pos (by simp), if_pos (by omega), if_pos (by simp), if_neg (by omega), if_pos e4, e1, shl0 hx.1 hx.2, or0 hx.1 hx.2, e2, zint_word.l0, if_neg (by simp), hv]
    unfold wordV wordB
    rw [if_pos (by omega), decide_eq_true (by omega)]
  | [x, y], ho, _, _ =>
    have hx := ho x (by simp)
    have hy := ho y (by simp)
    refine Ev.of (fun k => (zint_word.mono_l k) _ _ _ _) (k := 3) ?_
    have e1 : rd [x, y] 0 = x := rfl
    have e5 : rd [x, y] 1 = y := rfl
    have e2 : wrap64 (0 + 1) = 1 := w64 (by omega) (by omega)
    have e6 : wrap64 (1 + 1) = 2 := w64 (by omega) (by omega)
    have e4 : (0 : Int) ≤ wrap64 (32 * 0) := by rw [show wrap64 (32 * 0) = 0 from w64 (by omega) (by omega)]; omega
    have e7 : (0 : Int) ≤ wrap64 (32 * 1) := by rw [show wrap64 (32 * 1) = 32 from w64 (by omega) (by omega)]; omega
    have hv : val [x, y] = x + y * 4294967296 := by simp [val]; omega
    rw [zint_word.l0, if_pos (by simp), if_pos (by omega), if_pos (by simp), if_neg (by omega), if_pos e4, e1, shl0 hx.1 hx.2, or0 hx.1 hx.2, e2, zint_word.l0, if_pos (by simp), if_pos (by omega), if_pos (by simp), if_neg (by omega), if_pos e7, e5, shl32 hy.1 hy.2, or_hi2 hx.1 hx.2 hy.1 hy.2, e6, zint_word.l0, if_neg (by simp), hv]
    unfold wordV wordB
    rw [if_pos (by omega), decide_eq_true (by omega)]
  | x :: y :: z :: r, ho, hn, hl =>
    refine Ev.of (fun k => (zint_word.mono_l k) _ _ _ _) (k := 3) ?_
    have hge : 18446744073709551616 ≤ val (x :: y :: z :: r) := by
      have hx := ho x (by simp)
      have hy := ho y (by simp)
      have h3 : Ok (z :: r) := fun q hq => ho q (by simp at hq ⊢; rcases hq with h | h <;> simp [h])
      have hp := val_nonneg h3
      have hz : val (z :: r) ≠ 0 := by
        intro h0
        have h4 : trim (z :: r) = z :: r := trim_of_nrm h3 (fun q hq => hn q (by simpa [List.getLast?_cons_cons] using hq))
        have h5 := trim_lm h3
        rw [h0, lm_zero, h4] at h5
        cases h5
      have e : val (x :: y :: z :: r) = x + 4294967296 * (y + 4294967296 * val (z :: r)) := by simp only [val]
      rw [e]
      omega
    have e2 : wrap64 (0 + 1) = 1 := w64 (by omega) (by omega)
    have e6 : wrap64 (1 + 1) = 2 := w64 (by omega) (by omega)
    have e4 : (0 : Int) ≤ wrap64 (32 * 0) := by rw [show wrap64 (32 * 0) = 0 from w64 (by omega) (by omega)]; omega
    have e7 : (0 : Int) ≤ wrap64 (32 * 1) := by rw [show wrap64 (32 * 1) = 32 from w64 (by omega) (by omega)]; omega
    have hlen : (((x :: y :: z :: r).length : Nat) : Int) = (r.length : Int) + 3 := by simp; omega
    rw [hlen]
    rw [zint_word.l0, if_pos (by omega), if_pos (by omega), if_pos (by rw [hlen]; omega), if_neg (by omega), if_pos e4, e2, zint_word.l0, if_pos (by omega), if_pos (by omega), if_pos (by rw [hlen]; omega), if_neg (by omega), if_pos e7, e6, zint_word.l0, if_pos (by omega), if_pos (by omega), if_pos (by rw [hlen]; omega), if_pos (by omega)]
    unfold wordV wordB
    rw [if_neg (by omega), decide_eq_false (by omega)]
theorem word_f (l : List Int) (ho : Ok l) (hl : l.length ≤ 10000000) : Ev (fun k => zint_word.f k l) (wordV (val l), wordB (val l)) := by
  unfold zint_word.f
  refine Ev.bind (norm_f l (by omega)) ?_
  have h := word_l (trim l) (trim_ok ho) (trim_nrm l) (by have := trim_len l; omega)
  rw [trim_val] at h
  exact h
theorem zint_word.sem {w : World} {v1 : Value} {x : Int} (m1 : MagV w v1 x) : Calls Try.prog 79 #[v1] w (RetV w (.tuple #[.int .u64 (wordV x), .bool (wordB x)])) := by
  obtain ⟨l1, ⟨A1, c1, rfl, h1, g1⟩, o1, b1, rfl⟩ := m1
  obtain ⟨k, e⟩ := (word_f l1 o1 b1).rounds
  exact (zint_word.calls k A1 c1 l1 _ _ w g1 h1 e).mono fun e w' ⟨he, hb⟩ => ⟨he, hb⟩
theorem list_unwantU {P : Program} {a : Act} {o : Oper} {W : World} {Q : Exit → Act → World → Prop} {ops : Array Oper} {r : List Oper} {j d : Nat} {b : Bool} (hg : o.guard = some (j, b)) (hs : (ops[j]?).bind (·.dst) = some d) (he : a.tmps[d]? = some undef) (h : wpList P ops Q r (a.put o.dst undef) W) : wpList P ops Q (o :: r) a W := by
  have e : Region.wanted o (yielded ops a.tmps) = false := by
    unfold Region.wanted yielded
    rw [hg]
    simp only
    rw [hs]
    simp only [Option.bind_some, he]
    rfl
  unfold wpList
  simp only [e]
  exact h
section
variable {a : Act} {o : Oper} {W : World} {p q : Operand}
end
end Go.Proofs.Ytmbmbmkmjbpcpaa.PA


/- The walk of zint.Small. -/
namespace Go.Proofs.Ytmbmbmkmjbpcpaa.PA
open Go Go.Proofs.Ytmbmbmkmjbpcpaa.Nums Go.RowKit Go.Proofs.YtmbmbmkmjbpcpaaW.PrintWords Go.Proofs.YtmbmbmkmjbpcpaaW.PrintLast Go.Proofs.YtmbmbmkmjbpcpaaW.PrintMore
set_option linter.unusedVariables false
set_option linter.unusedSimpArgs false
theorem i64s {x : Int} (h0 : -9223372036854775808 ≤ x) (h1 : x ≤ 9223372036854775807) : IntKind.i64.wrap x = x := (i64_w x).trans (w64 (by omega) (by omega))
end Go.Proofs.Ytmbmbmkmjbpcpaa.PA


/- More of single operations, with what they come to. -/
namespace Go.Proofs.Ytmbmbmkmjbpcpaa.PA
open Go Go.Proofs.Ytmbmbmkmjbpcpaa.Nums Go.RowKit Go.Proofs.YtmbmbmkmjbpcpaaW.PrintWords Go.Proofs.YtmbmbmkmjbpcpaaW.PrintLast Go.Proofs.YtmbmbmkmjbpcpaaW.PrintMore
set_option linter.unusedVariables false
section
variable {a : Act} {o : Oper} {W : World} {p q : Operand}
theorem run_sub' {x y z : Int} (h : wrap64 (x - y) = z) (ho : o.op = .binOp .sub 3 p q 3) (he : a.eval p = .int .i64 x) (he2 : a.eval q = .int .i64 y) : (execOp a.eval o).run Try.prog W = .ok (.value (.int .i64 z)) W := by
  subst h
  exact run_sub ho he he2
end
theorem val_drop_cons {l : List Int} {j : Nat} (hj : j < l.length) : val (l.drop j) = l.getD j 0 + 4294967296 * val (l.drop (j + 1)) := by
  rw [List.drop_eq_getElem_cons hj]
  simp only [val]
  rw [show l.getD j 0 = l[j] by simp [List.getD, hj]]
end Go.Proofs.Ytmbmbmkmjbpcpaa.PA


/- The walk of the reference's Small. -/
namespace Go.Proofs.Ytmbmbmkmjbpcpaa.PA
open Go Go.Proofs.Ytmbmbmkmjbpcpaa.Nums Go.RowKit Go.Proofs.YtmbmbmkmjbpcpaaW.PrintWords Go.Proofs.YtmbmbmkmjbpcpaaW.PrintLast Go.Proofs.YtmbmbmkmjbpcpaaW.PrintMore
set_option linter.unusedVariables false
set_option linter.unusedSimpArgs false
end Go.Proofs.Ytmbmbmkmjbpcpaa.PA

