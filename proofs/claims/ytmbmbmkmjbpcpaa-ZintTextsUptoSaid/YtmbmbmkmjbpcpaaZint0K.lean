/- Whole numbers with a sign in memory, and how a call hands one back; no program's code is named but zint.made's. -/
import Derived.Test.YtmbmbmkmjbpcpaaZnatK
import Derived.Test.YtmbmbmkmjbpcpaaZMadeK
import Derived.Test.YtmbmbmkmjbpcpaaPAx0K
namespace Go.Proofs.Ytmbmbmkmjbpcpaa.PA
open Go Go.Proofs.Ytmbmbmkmjbpcpaa.Nums Go.RowKit Go.Proofs.YtmbmbmkmjbpcpaaW.PrintWords Go.Proofs.YtmbmbmkmjbpcpaaW.PrintLast Go.Proofs.YtmbmbmkmjbpcpaaW.PrintMore
set_option linter.unusedVariables false
/-- the sign and the limbs of the number z, whatever noughts stand at the end -/
def zof (b : Bool) (x : Int) : Int := if b then -x else x
/-- the limbs of z in its one form -/
def mg (z : Int) : List Int := lm (z.natAbs : Nat)
/-- a call's end: the number z in its one form, its limbs the call's own -/
def ResI (w : World) (z : Int) (e : Ending) (w' : World) : Prop := ∃ v, e = .returned (.agg #[.bool (decide (z < 0)), v]) ∧ Kd.R (Kd.int .u32) 68 w' w.heap.size (fun _ => True) v (mg z) ∧ Below w.heap.size w w'
theorem zof_abs {b : Bool} {x : Int} (h : 0 ≤ x) : ((zof b x).natAbs : Int) = x := by unfold zof; cases b <;> simp <;> omega
theorem zof_neg {b : Bool} {x : Int} (h : 0 ≤ x) : decide (zof b x < 0) = sg b x := by
  cases b with
  | false => show decide (x < 0) = (false && _); rw [Bool.false_and]; exact decide_eq_false (by omega)
  | true => show decide (-x < 0) = (true && decide (x ≠ 0)); rw [Bool.true_and]; exact decide_eq_decide.mpr (by omega)
theorem zof_self (z : Int) : zof (decide (z < 0)) (z.natAbs : Int) = z := by
  unfold zof
  by_cases h : z < 0
  · simp [h]; omega
  · simp [h]; omega
theorem zint_made.res {w : World} {b : Bool} {v : Value} {x : Int} (m : MagV w v x) : Calls Try.prog 69 #[.bool b, v] w (ResI w (zof b x)) := by
  obtain ⟨l, h, o, hl, rfl⟩ := m
  have hv := val_nonneg o
  exact (zint_made.sem b v l w h o (by omega)).mono fun e w' ⟨v', he, hr, hb⟩ => ⟨v', by rw [zof_neg hv]; exact he, by unfold mg; rw [zof_abs hv]; exact hr, hb⟩
end Go.Proofs.Ytmbmbmkmjbpcpaa.PA

