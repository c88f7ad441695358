/- The statement NatPowers, over numbers and lists alone, for lists of at most 1048576 words and every number n. -/
import Derived.Test.YtnlkafjhbjlhaaaNatPow
import Derived.Test.YtnlkafjhbjlhaaaNatAwake
import Derived.Test.YtnlkafjhbjlhaaaPAx11
import Derived.Test.YtnlkafjhbjlhaaaPAx20
namespace Go.Proofs.Ytnlkafjhbjlhaaa.PA
open Go Go.RowKit Go.Proofs.YtnlkafjhbjlhaaaW.PrintWords Go.Proofs.YtnlkafjhbjlhaaaW.PrintLast Go.Proofs.YtnlkafjhbjlhaaaW.PrintMore
open Go.Proofs.Ytnlkafjhbjlhaaa.Nums
theorem powers_ev (haw : Ev (fun k => trammellaw01_awake.f k) true) (l : List Int) (ho : Ok l) (hl : l.length ≤ 1048576) (n : Int) (hn : n < 9223372036854775808) : Ev (fun k => trammellaw01_NatPowers.f k l n) true := by
  unfold trammellaw01_NatPowers.f
  refine Ev.bind (pow_f l ho hl n hn) ?_
  refine Ev.bind (rpow_f l ho hl n hn) ?_
  refine Ev.bind (same_f _ _ rfl (by have := powR_len l ho hl n; omega)) ?_
  refine ev_pos rfl ?_
  refine ev_pos rfl ?_
  exact Ev.bind haw (ev_now rfl)
end Go.Proofs.Ytnlkafjhbjlhaaa.PA
namespace Go.Proofs.Ytnlkafjhbjlhaaa.Pure
open Go Go.RowKit Go.Proofs.YtnlkafjhbjlhaaaW.PrintWords Go.Proofs.Ytnlkafjhbjlhaaa.PA
theorem NatPowers : trammellaw01_NatPowers.Pure := by
  intro a n _ la ha hn
  have h := hn
  simp [Lit.wf, IntKind.min, IntKind.max, IntKind.signed, IntKind.bits] at h
  exact (powers_ev awake_ev a (ok_of ha) la n (by omega)).rounds
end Go.Proofs.Ytnlkafjhbjlhaaa.Pure
