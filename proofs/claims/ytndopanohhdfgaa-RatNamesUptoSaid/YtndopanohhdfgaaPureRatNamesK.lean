/- The statement RatNames, over its printed code alone: a rational without a denominator is refused with the number 30. -/
import Derived.Outline
import Derived.Test.YtndopanohhdfgaaPAx8K
namespace Go.Proofs.Ytndopanohhdfgaa.Pure
open Go Go.RowKit Go.Proofs.YtndopanohhdfgaaW.PrintWords Go.Proofs.Ytndopanohhdfgaa.PA
theorem RatNames : trammellaw03_RatNames.Pure := ⟨20, by kernel_rfl⟩
end Go.Proofs.Ytndopanohhdfgaa.Pure
