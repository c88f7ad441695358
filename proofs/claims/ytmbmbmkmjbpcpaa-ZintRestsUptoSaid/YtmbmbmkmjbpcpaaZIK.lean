/- Powers: plain; and how a call forgets a box. -/
import Derived.Test.YtmbmbmkmjbpcpaaZHK
import Derived.Test.YtmbmbmkmjbpcpaaPAx0K
namespace Go.Proofs.Ytmbmbmkmjbpcpaa.PA
open Go Go.Proofs.Ytmbmbmkmjbpcpaa.Nums Go.RowKit Go.Proofs.YtmbmbmkmjbpcpaaW.PrintWords Go.Proofs.YtmbmbmkmjbpcpaaW.PrintLast Go.Proofs.YtmbmbmkmjbpcpaaW.PrintMore
set_option linter.unusedVariables false
theorem Zt.forget {w0 w : World} {ts : List (Value × (World → Value → Prop))} {bs : List (Nat × TypeId × Array Value)} (Z : Zt w0 w ts bs) (i : Nat) : Zt w0 w ts (bs.eraseIdx i) := by
  have hget : ∀ (n : Nat) (q : Nat × TypeId × Array Value), (bs.eraseIdx i)[n]? = some q → bs[if n < i then n else n + 1]? = some q := by
    intro n q h
    rw [List.getElem?_eraseIdx] at h
    split at h
    · rename_i h1
      rw [if_pos h1]
      exact h
    · rename_i h1
      rw [if_neg h1]
      exact h
  refine ⟨Z.below, Z.typ, fun p hp => Z.box p (List.mem_of_mem_eraseIdx hp), fun a b p q hne ha hb => Z.apart _ _ p q ?_ (hget a p ha) (hget b q hb)⟩
  split <;> split <;> omega
end Go.Proofs.Ytmbmbmkmjbpcpaa.PA

