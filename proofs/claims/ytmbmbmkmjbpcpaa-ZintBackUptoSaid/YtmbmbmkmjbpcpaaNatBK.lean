/- Lengths of sums' and products' limbs; the row's words are 32-bit words. -/
import Derived.Test.YtmbmbmkmjbpcpaaNatAK
import Derived.Test.YtmbmbmkmjbpcpaaPAx0K
namespace Go.Proofs.Ytmbmbmkmjbpcpaa.PA
open Go Go.RowKit Go.Proofs.YtmbmbmkmjbpcpaaW.PrintWords Go.Proofs.YtmbmbmkmjbpcpaaW.PrintLast Go.Proofs.YtmbmbmkmjbpcpaaW.PrintMore
open Go.Proofs.Ytmbmbmkmjbpcpaa.Nums
theorem ok_of {l : List Int} (h : ∀ x ∈ l, (Lit.int .u32 x).wf = true) : Ok l := by
  intro x hx
  have := h x hx
  simp [Lit.wf, IntKind.min, IntKind.max, IntKind.signed, IntKind.bits] at this
  omega
theorem val_add_lt {a b : List Int} (ha : Ok a) (hb : Ok b) {n : Nat} (h1 : a.length ≤ n) (h2 : b.length ≤ n) : val a + val b < Bp (n + 1) := by
  have := val_lt ha
  have := val_lt hb
  have := Bp_le h1
  have := Bp_le h2
  rw [Bp_succ]
  have := Bp_pos n
  omega
theorem lm_add_len {a b : List Int} (ha : Ok a) (hb : Ok b) {n : Nat} (h1 : a.length ≤ n) (h2 : b.length ≤ n) : (lm (val a + val b)).length ≤ n + 1 :=
  lm_len_le (by have := val_nonneg ha; have := val_nonneg hb; omega) (val_add_lt ha hb h1 h2)
end Go.Proofs.Ytmbmbmkmjbpcpaa.PA

