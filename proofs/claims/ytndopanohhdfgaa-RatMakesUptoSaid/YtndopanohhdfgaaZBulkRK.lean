/- What a row gives of an argument that is a rational: two numbers; no further condition. -/
import Derived.ChangeSlices
import Derived.ChangeSame
import Derived.RowKit
import Derived.Test.YtndopanohhdfgaaRows
import Derived.Test.YtndopanohhdfgaaZDK
namespace Go.Proofs.Ytndopanohhdfgaa.bulks
open Go.ChangeShapes Go.WideShapes Go.ChangeAt Go.RowKit
end Go.Proofs.Ytndopanohhdfgaa.bulks

