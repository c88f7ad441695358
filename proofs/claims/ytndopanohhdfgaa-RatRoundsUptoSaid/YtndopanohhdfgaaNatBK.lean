/- Lengths of sums' and products' limbs; the row's words are 32-bit words. -/
import Derived.Test.YtndopanohhdfgaaNatAK
import Derived.Test.YtndopanohhdfgaaPAx0K
namespace Go.Proofs.Ytndopanohhdfgaa.PA
open Go Go.RowKit Go.Proofs.YtndopanohhdfgaaW.PrintWords Go.Proofs.YtndopanohhdfgaaW.PrintLast Go.Proofs.YtndopanohhdfgaaW.PrintMore
open Go.Proofs.Ytndopanohhdfgaa.Nums
theorem ok_of {l : List Int} (h : ∀ x ∈ l, (Lit.int .u32 x).wf = true) : Ok l := by
  intro x hx
  have := h x hx
  simp [Lit.wf, IntKind.min, IntKind.max, IntKind.signed, IntKind.bits] at this
  omega
theorem val_mul_lt {a b : List Int} (ha : Ok a) (hb : Ok b) : val a * val b < Bp (a.length + b.length) := by
  rw [Bp_add]
  have h1 := val_lt ha
  have h2 := val_lt hb
  have h3 := val_nonneg ha
  have h4 := val_nonneg hb
  have h5 := Bp_pos a.length
  calc val a * val b ≤ val a * Bp b.length := Int.mul_le_mul_of_nonneg_left (by omega) h3
    _ < Bp a.length * Bp b.length := Int.mul_lt_mul_of_pos_right h1 (by omega)
theorem lm_mul_len {a b : List Int} (ha : Ok a) (hb : Ok b) : (lm (val a * val b)).length ≤ a.length + b.length :=
  lm_len_le (Int.mul_nonneg (val_nonneg ha) (val_nonneg hb)) (val_mul_lt ha hb)

end Go.Proofs.Ytndopanohhdfgaa.PA

