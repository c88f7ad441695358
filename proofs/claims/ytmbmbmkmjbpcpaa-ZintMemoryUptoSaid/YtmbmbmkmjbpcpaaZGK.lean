/- zint.word: a magnitude of at most two words as a number of 64 bits. -/
import Derived.Test.YtmbmbmkmjbpcpaaZEK
import Derived.Test.YtmbmbmkmjbpcpaaZDK
import Derived.Test.YtmbmbmkmjbpcpaaPAx7K
import Derived.Outline
import Derived.Test.YtmbmbmkmjbpcpaaPAx0K
namespace Go.Proofs.Ytmbmbmkmjbpcpaa.PA
open Go Go.Proofs.Ytmbmbmkmjbpcpaa.Nums Go.RowKit Go.Proofs.YtmbmbmkmjbpcpaaW.PrintWords Go.Proofs.YtmbmbmkmjbpcpaaW.PrintLast Go.Proofs.YtmbmbmkmjbpcpaaW.PrintMore
set_option linter.unusedVariables false
set_option linter.unusedSimpArgs false
section
variable {a : Act} {o : Oper} {W : World} {p q : Operand}
end
end Go.Proofs.Ytmbmbmkmjbpcpaa.PA


/- The walk of zint.Small. -/
namespace Go.Proofs.Ytmbmbmkmjbpcpaa.PA
open Go Go.Proofs.Ytmbmbmkmjbpcpaa.Nums Go.RowKit Go.Proofs.YtmbmbmkmjbpcpaaW.PrintWords Go.Proofs.YtmbmbmkmjbpcpaaW.PrintLast Go.Proofs.YtmbmbmkmjbpcpaaW.PrintMore
set_option linter.unusedVariables false
set_option linter.unusedSimpArgs false
theorem i64s {x : Int} (h0 : -9223372036854775808 ≤ x) (h1 : x ≤ 9223372036854775807) : IntKind.i64.wrap x = x := (i64_w x).trans (w64 (by omega) (by omega))
end Go.Proofs.Ytmbmbmkmjbpcpaa.PA


/- More of single operations, with what they come to. -/
namespace Go.Proofs.Ytmbmbmkmjbpcpaa.PA
open Go Go.Proofs.Ytmbmbmkmjbpcpaa.Nums Go.RowKit Go.Proofs.YtmbmbmkmjbpcpaaW.PrintWords Go.Proofs.YtmbmbmkmjbpcpaaW.PrintLast Go.Proofs.YtmbmbmkmjbpcpaaW.PrintMore
set_option linter.unusedVariables false
section
variable {a : Act} {o : Oper} {W : World} {p q : Operand}
end
theorem val_drop_cons {l : List Int} {j : Nat} (hj : j < l.length) : val (l.drop j) = l.getD j 0 + 4294967296 * val (l.drop (j + 1)) := by
  rw [List.drop_eq_getElem_cons hj]
  simp only [val]
  rw [show l.getD j 0 = l[j] by simp [List.getD, hj]]
end Go.Proofs.Ytmbmbmkmjbpcpaa.PA


/- The walk of the reference's Small. -/
namespace Go.Proofs.Ytmbmbmkmjbpcpaa.PA
open Go Go.Proofs.Ytmbmbmkmjbpcpaa.Nums Go.RowKit Go.Proofs.YtmbmbmkmjbpcpaaW.PrintWords Go.Proofs.YtmbmbmkmjbpcpaaW.PrintLast Go.Proofs.YtmbmbmkmjbpcpaaW.PrintMore
set_option linter.unusedVariables false
set_option linter.unusedSimpArgs false
end Go.Proofs.Ytmbmbmkmjbpcpaa.PA

