/- The printed awake of layer 1's laws answers true. -/
import Derived.Test.YtnlkafjhbjlhaaaNumsK
import Derived.Test.YtnlkafjhbjlhaaaPAx16K
namespace Go.Proofs.Ytnlkafjhbjlhaaa.PA
open Go Go.RowKit Go.Proofs.YtnlkafjhbjlhaaaW.PrintWords Go.Proofs.YtnlkafjhbjlhaaaW.PrintLast Go.Proofs.YtnlkafjhbjlhaaaW.PrintMore
open Go.Proofs.Ytnlkafjhbjlhaaa.Nums
theorem awake_ev : Ev (fun k => trammellaw01_awake.f k) true := Ev.of (fun k => trammellaw01_awake.mono k) (k := 30) (by kernel_rfl)
end Go.Proofs.Ytnlkafjhbjlhaaa.PA
