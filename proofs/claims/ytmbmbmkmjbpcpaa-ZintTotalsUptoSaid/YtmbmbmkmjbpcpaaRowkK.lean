/- Rows of words in memory: where they lie, what a store leaves of them; no program's code is named. -/
import Derived.Test.YtmbmbmkmjbpcpaaNumsK
import Derived.Test.YtmbmbmkmjbpcpaaPAx0K
namespace Go.Proofs.Ytmbmbmkmjbpcpaa.PA
open Go Go.Proofs.Ytmbmbmkmjbpcpaa.Nums Go.RowKit Go.Proofs.YtmbmbmkmjbpcpaaW.PrintWords Go.Proofs.YtmbmbmkmjbpcpaaW.PrintLast Go.Proofs.YtmbmbmkmjbpcpaaW.PrintMore
set_option linter.unusedVariables false
set_option linter.unusedSimpArgs false
theorem C_ints {w : World} {a : Option Addr} {l : List Int} (hr : ReadsInt w .u32 a l.length l) : Kd.C (Kd.int .u32) w a l.length l := Kd.C_of_reads (d := (0 : Int)) (h1 := fun _ => rfl) hr
end Go.Proofs.Ytmbmbmkmjbpcpaa.PA

