/- Contracts of the calls behind ZintTotals in the printed form: own, the two sums, the reference's Of, eq. -/
import Derived.Outline
import Derived.Test.YtmbmbmkmjbpcpaaZDK
import Derived.Test.YtmbmbmkmjbpcpaaZEK
import Derived.Test.YtmbmbmkmjbpcpaaPAx0K
namespace Go.Proofs.Ytmbmbmkmjbpcpaa.PT
open Go Go.Proofs.Ytmbmbmkmjbpcpaa.Nums Go.RowKit Go.Proofs.YtmbmbmkmjbpcpaaW.PrintWords Go.Proofs.YtmbmbmkmjbpcpaaW.PrintLast Go.Proofs.YtmbmbmkmjbpcpaaW.PrintMore Go.Proofs.Ytmbmbmkmjbpcpaa.PA
set_option linter.unusedVariables false
def okB (l : List Int) : Bool := decide (l.length ≤ 5000000) && l.all (fun x => decide (0 ≤ x) && decide (x < 4294967296))
theorem okB_len {l : List Int} (h : okB l = true) : l.length ≤ 5000000 := by
  unfold okB at h
  rw [Bool.and_eq_true] at h
  exact of_decide_eq_true h.1
theorem okB_ok {l : List Int} (h : okB l = true) : Ok l := by
  unfold okB at h
  rw [Bool.and_eq_true, List.all_eq_true] at h
  intro x hx
  have := h.2 x hx
  rw [Bool.and_eq_true, decide_eq_true_eq, decide_eq_true_eq] at this
  exact this
theorem okB_mk {l : List Int} (ho : Ok l) (hl : l.length ≤ 5000000) : okB l = true := by
  unfold okB
  rw [Bool.and_eq_true, List.all_eq_true]
  refine ⟨decide_eq_true hl, fun x hx => ?_⟩
  have := ho x hx
  rw [Bool.and_eq_true, decide_eq_true_eq, decide_eq_true_eq]
  exact this
/-- the number of a sign and limbs -/
def numF (b : Bool) (l : List Int) : Int := zof b (val l)
def addF (b0 : Bool) (l0 : List Int) (b1 : Bool) (l1 : List Int) : Option (Bool × List Int) :=
  if (okB l0 && okB l1) = true then some (decide (numF b0 l0 + numF b1 l1 < 0), mg (numF b0 l0 + numF b1 l1)) else none
theorem rd_of {w : World} {A : Option Addr} {c : Nat} {l : List Int} (h : Kd.C (Kd.int .u32) w A l.length l) (hc : l.length ≤ c) : Rd w (.slice A l.length c) l := ⟨A, c, rfl, hc, h⟩
theorem num_of {w : World} {b : Bool} {A : Option Addr} {c : Nat} {l : List Int} (h : Kd.C (Kd.int .u32) w A l.length l) (hc : l.length ≤ c) (ho : okB l = true) : NumV w b (.slice A l.length c) (numF b l) :=
  (rd_of h hc).num (okB_ok ho) (by have := okB_len ho; omega)
theorem bd_num {l : List Int} (h : okB l = true) (b : Bool) : Bd 160000000 (numF b l) := by
  have h1 := bl_len (okB_ok h) (okB_len h)
  have h2 := bl_lt (val l).toNat
  have h3 := val_nonneg (okB_ok h)
  refine Bd.zof ?_
  have h4 : Bd (bl (val l).toNat) (val l) := by
    unfold Bd
    rw [show (val l).natAbs = (val l).toNat by omega]
    exact h2
  exact h4.mono h1
def trammellaw02_own.f (b : Bool) (l : List Int) : Option (Bool × List Int) := if l.length ≤ 1048576 then some (b, l) else none
theorem trammellaw02_own.calls (a0_0 : Bool) (A0_1 : Option Addr) (c0_1 : Nat) (l0_1 : List Int) (r1 : Bool) (r2 : List Int) (w : World) (hr0_1 : Kd.C (Kd.int .u32) w A0_1 l0_1.length l0_1) (hc0_1 : l0_1.length ≤ c0_1) (h : trammellaw02_own.f a0_0 l0_1 = some (r1, r2)) :
    Calls Try.prog 15 #[.agg #[.bool a0_0, .slice A0_1 l0_1.length c0_1]] w fun e w' => ∃ v1_ : Value, e = .returned (.agg #[.bool r1, v1_]) ∧ Kd.R (Kd.int .u32) 68 w' w.heap.size (fun _ => True) v1_ r2 ∧ Below w.heap.size w w' := by
  unfold trammellaw02_own.f at h
  split at h
  · rename_i hl
    simp only [Option.some.injEq, Prod.mk.injEq] at h
    obtain ⟨rfl, rfl⟩ := h
    exact trammellaw02_own.res (rd_of hr0_1 hc0_1) hl
  · cases h
def trammellaw02_eq.f (b0 : Bool) (l0 : List Int) (b1 : Bool) (l1 : List Int) : Option Bool := if l0.length ≤ 5000000 ∧ l1.length ≤ 5000000 then some (decide (b0 = b1 ∧ l0 = l1)) else none
theorem trammellaw02_eq.calls (a0_0 : Bool) (A0_1 : Option Addr) (c0_1 : Nat) (l0_1 : List Int) (a1_0 : Bool) (A1_1 : Option Addr) (c1_1 : Nat) (l1_1 : List Int) (r : Bool) (w : World) (hr0_1 : Kd.C (Kd.int .u32) w A0_1 l0_1.length l0_1) (hc0_1 : l0_1.length ≤ c0_1) (hr1_1 : Kd.C (Kd.int .u32) w A1_1 l1_1.length l1_1) (hc1_1 : l1_1.length ≤ c1_1) (h : trammellaw02_eq.f a0_0 l0_1 a1_0 l1_1 = some r) :
    Calls Try.prog 16 #[.agg #[.bool a0_0, .slice A0_1 l0_1.length c0_1], .agg #[.bool a1_0, .slice A1_1 l1_1.length c1_1]] w fun e w' => e = .returned (.bool r) ∧ Below w.heap.size w w' := by
  unfold trammellaw02_eq.f at h
  split at h
  · rename_i hl
    have h := Option.some.inj h
    have k := trammellaw02_eq.sem (b1 := a0_0) (b2 := a1_0) (rd_of hr0_1 hc0_1) (rd_of hr1_1 hc1_1) (by omega)
    rw [h] at k
    exact k
  · cases h
def zint_Add.f (b0 : Bool) (l0 : List Int) (b1 : Bool) (l1 : List Int) : Option (Bool × List Int) := addF b0 l0 b1 l1
theorem zint_Add.calls (a0_0 : Bool) (A0_1 : Option Addr) (c0_1 : Nat) (l0_1 : List Int) (a1_0 : Bool) (A1_1 : Option Addr) (c1_1 : Nat) (l1_1 : List Int) (r1 : Bool) (r2 : List Int) (w : World) (hr0_1 : Kd.C (Kd.int .u32) w A0_1 l0_1.length l0_1) (hc0_1 : l0_1.length ≤ c0_1) (hr1_1 : Kd.C (Kd.int .u32) w A1_1 l1_1.length l1_1) (hc1_1 : l1_1.length ≤ c1_1) (h : zint_Add.f a0_0 l0_1 a1_0 l1_1 = some (r1, r2)) :
    Calls Try.prog 19 #[.agg #[.bool a0_0, .slice A0_1 l0_1.length c0_1], .agg #[.bool a1_0, .slice A1_1 l1_1.length c1_1]] w fun e w' => ∃ v1_ : Value, e = .returned (.agg #[.bool r1, v1_]) ∧ Kd.R (Kd.int .u32) 68 w' w.heap.size (fun _ => True) v1_ r2 ∧ Below w.heap.size w w' := by
  unfold zint_Add.f addF at h
  split at h
  · rename_i hl
    rw [Bool.and_eq_true] at hl
    simp only [Option.some.injEq, Prod.mk.injEq] at h
    obtain ⟨rfl, rfl⟩ := h
    have B0 := bd_num hl.1 a0_0
    have B1 := bd_num hl.2 a1_0
    exact zint_Add.sem (num_of hr0_1 hc0_1 hl.1) (num_of hr1_1 hc1_1 hl.2) (Bd.fm (Bd.add (Bd.abs B0) (Bd.abs B1)) (by decide)) (Bd.fm (Bd.sub (Bd.abs B1) (Bd.abs B0)) (by decide)) (Bd.fm (Bd.sub (Bd.abs B0) (Bd.abs B1)) (by decide))
  · cases h
def trammelref02_Add.f (b0 : Bool) (l0 : List Int) (b1 : Bool) (l1 : List Int) : Option (Bool × List Int) := addF b0 l0 b1 l1
theorem trammelref02_Add.calls (a0_0 : Bool) (A0_1 : Option Addr) (c0_1 : Nat) (l0_1 : List Int) (a1_0 : Bool) (A1_1 : Option Addr) (c1_1 : Nat) (l1_1 : List Int) (r1 : Bool) (r2 : List Int) (w : World) (hr0_1 : Kd.C (Kd.int .u32) w A0_1 l0_1.length l0_1) (hc0_1 : l0_1.length ≤ c0_1) (hr1_1 : Kd.C (Kd.int .u32) w A1_1 l1_1.length l1_1) (hc1_1 : l1_1.length ≤ c1_1) (h : trammelref02_Add.f a0_0 l0_1 a1_0 l1_1 = some (r1, r2)) :
    Calls Try.prog 20 #[.agg #[.bool a0_0, .slice A0_1 l0_1.length c0_1], .agg #[.bool a1_0, .slice A1_1 l1_1.length c1_1]] w fun e w' => ∃ v1_ : Value, e = .returned (.agg #[.bool r1, v1_]) ∧ Kd.R (Kd.int .u32) 68 w' w.heap.size (fun _ => True) v1_ r2 ∧ Below w.heap.size w w' := by
  unfold trammelref02_Add.f addF at h
  split at h
  · rename_i hl
    rw [Bool.and_eq_true] at hl
    simp only [Option.some.injEq, Prod.mk.injEq] at h
    obtain ⟨rfl, rfl⟩ := h
    have B0 := bd_num hl.1 a0_0
    have B1 := bd_num hl.2 a1_0
    exact trammelref02_Add.sem (num_of hr0_1 hc0_1 hl.1) (num_of hr1_1 hc1_1 hl.2) (Bd.fm (Bd.add (Bd.abs B0) (Bd.abs B1)) (by decide)) (Bd.fm (Bd.sub (Bd.abs B0) (Bd.abs B1)) (by decide)) (Bd.fm (Bd.sub (Bd.abs B1) (Bd.abs B0)) (by decide))
  · cases h
def trammelref02_Of.f (n : Int) : Option (Bool × List Int) := if -9223372036854775808 ≤ n ∧ n ≤ 9223372036854775807 then some (decide (n < 0), mg n) else none
theorem trammelref02_Of.calls (a0 : Int) (r1 : Bool) (r2 : List Int) (w : World) (h : trammelref02_Of.f a0 = some (r1, r2)) :
    Calls Try.prog 31 #[.int .i64 a0] w fun e w' => ∃ v1_ : Value, e = .returned (.agg #[.bool r1, v1_]) ∧ Kd.R (Kd.int .u32) 68 w' w.heap.size (fun _ => True) v1_ r2 ∧ Below w.heap.size w w' := by
  unfold trammelref02_Of.f at h
  split at h
  · rename_i hl
    simp only [Option.some.injEq, Prod.mk.injEq] at h
    obtain ⟨rfl, rfl⟩ := h
    exact trammelref02_Of.sem hl.1 hl.2
  · cases h
end Go.Proofs.Ytmbmbmkmjbpcpaa.PT

