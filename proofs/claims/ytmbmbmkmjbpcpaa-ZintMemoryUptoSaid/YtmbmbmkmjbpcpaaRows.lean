/-
  No cell of these rows narrows 'for every input' (looked for: loops, veiled, ifaces, maps, wideKeys, modest, calm, conditions, laid).
  DERIVED. THE GIVEN ROWS OF THIS SEAT. 12 by the template 'for every input the law returns true; each argument reads behind the call as it read before'; 0 by the template 'total and deterministic' (their statements: YtmbmbmkmjbpcpaaTotals.lean).
  GIVEN WITH THE SEED: the statements are not yours to turn. If you find one false, say at which input.
  Laid BY PROGRAM, IN A SANDBOX (cutbox-rows.mjs): the forced cells as the released guide's own fill.sh prints them over the translation 4c107c1a65726665… (all of the seat's roots in one cut). By AI agents, Wed Nov 11 2026. No macro, syntax, notation, axiom, sorry.
-/
import Derived.Test.YtmbmbmkmjbpcpaaChecked
import GoSem.Claim
import GoSem.ClaimJoined
import GoSem.ClaimMapViews
import Derived.JoinedTies
import Derived.KernelRfl
namespace Go.Proofs.Ytmbmbmkmjbpcpaa
/- THE CELL 'sum', in the pinned program and in every row, IS THE sha256 OF THE DUMP (.gsa) THAT YtmbmbmkmjbpcpaaProg.lean LOADS. Nothing in Lean hashes anything: it is a label: what it is worth is what the hold of that sum in a sandbox is worth. -/
noncomputable def Try.pinned : Pinned := { name := "ytmbmbmkmjbpcpaa", sum := "4c107c1a65726665020c068d10abbca8a4b75c039add2cbf4869b9634bbd6c99", checked := Try.checked }
namespace Rows
def none {H : Type} : Left H := { results := [], args := [] }

/-- 'trammellaw02.ZintTotals': WHATEVER THE INPUT: true; the input reads as it did. -/
def zintTotalsSpec : ChangeSpec := { name := "zintTotals", fn := fun _ => fun
  | [d] => { results := [.lit (.bool true)], args := [d] }
  | _ => none }
def zintTotalsRow : OpenClaim := { program := "ytmbmbmkmjbpcpaa", sum := "4c107c1a65726665020c068d10abbca8a4b75c039add2cbf4869b9634bbd6c99", func := "trammel/trammellaw02.ZintTotals", spec := "zintTotals", apart := false }
def ZintTotalsSaid : Prop := zintTotalsRow.holds Try.pinned (OpenSpec.ofChange zintTotalsSpec)

/-- ITS FALSE NEIGHBOUR: 'it returns false'. Refute it at one input. -/
def zintTotalsWrong : ChangeSpec := { name := "zintTotals", fn := fun _ => fun
  | [d] => { results := [.lit (.bool false)], args := [d] }
  | _ => none }
def ZintTotalsWrongFalsely : Prop := zintTotalsRow.holds Try.pinned (OpenSpec.ofChange zintTotalsWrong)

/-- 'trammellaw02.ZintSums': WHATEVER THE INPUT: true; the input reads as it did. -/
def zintSumsSpec : ChangeSpec := { name := "zintSums", fn := fun _ => fun
  | [d1, d2] => { results := [.lit (.bool true)], args := [d1, d2] }
  | _ => none }
def zintSumsRow : OpenClaim := { program := "ytmbmbmkmjbpcpaa", sum := "4c107c1a65726665020c068d10abbca8a4b75c039add2cbf4869b9634bbd6c99", func := "trammel/trammellaw02.ZintSums", spec := "zintSums", apart := false }
def ZintSumsSaid : Prop := zintSumsRow.holds Try.pinned (OpenSpec.ofChange zintSumsSpec)

/-- ITS FALSE NEIGHBOUR: 'it returns false'. Refute it at one input. -/
def zintSumsWrong : ChangeSpec := { name := "zintSums", fn := fun _ => fun
  | [d1, d2] => { results := [.lit (.bool false)], args := [d1, d2] }
  | _ => none }
def ZintSumsWrongFalsely : Prop := zintSumsRow.holds Try.pinned (OpenSpec.ofChange zintSumsWrong)

/-- 'trammellaw02.ZintForms': WHATEVER THE INPUT: true; the input reads as it did. -/
def zintFormsSpec : ChangeSpec := { name := "zintForms", fn := fun _ => fun
  | [d1, d2, d3] => { results := [.lit (.bool true)], args := [d1, d2, d3] }
  | _ => none }
def zintFormsRow : OpenClaim := { program := "ytmbmbmkmjbpcpaa", sum := "4c107c1a65726665020c068d10abbca8a4b75c039add2cbf4869b9634bbd6c99", func := "trammel/trammellaw02.ZintForms", spec := "zintForms", apart := false }
def ZintFormsSaid : Prop := zintFormsRow.holds Try.pinned (OpenSpec.ofChange zintFormsSpec)

/-- ITS FALSE NEIGHBOUR: 'it returns false'. Refute it at one input. -/
def zintFormsWrong : ChangeSpec := { name := "zintForms", fn := fun _ => fun
  | [d1, d2, d3] => { results := [.lit (.bool false)], args := [d1, d2, d3] }
  | _ => none }
def ZintFormsWrongFalsely : Prop := zintFormsRow.holds Try.pinned (OpenSpec.ofChange zintFormsWrong)

/-- 'trammellaw02.ZintTexts': WHATEVER THE INPUT: true; the input reads as it did. -/
def zintTextsSpec : ChangeSpec := { name := "zintTexts", fn := fun _ => fun
  | [d1, d2] => { results := [.lit (.bool true)], args := [d1, d2] }
  | _ => none }
def zintTextsRow : OpenClaim := { program := "ytmbmbmkmjbpcpaa", sum := "4c107c1a65726665020c068d10abbca8a4b75c039add2cbf4869b9634bbd6c99", func := "trammel/trammellaw02.ZintTexts", spec := "zintTexts", apart := false }
def ZintTextsSaid : Prop := zintTextsRow.holds Try.pinned (OpenSpec.ofChange zintTextsSpec)

/-- ITS FALSE NEIGHBOUR: 'it returns false'. Refute it at one input. -/
def zintTextsWrong : ChangeSpec := { name := "zintTexts", fn := fun _ => fun
  | [d1, d2] => { results := [.lit (.bool false)], args := [d1, d2] }
  | _ => none }
def ZintTextsWrongFalsely : Prop := zintTextsRow.holds Try.pinned (OpenSpec.ofChange zintTextsWrong)

/-- 'trammellaw02.ZintRing': WHATEVER THE INPUT: true; the input reads as it did. -/
def zintRingSpec : ChangeSpec := { name := "zintRing", fn := fun _ => fun
  | [d1, d2, d3] => { results := [.lit (.bool true)], args := [d1, d2, d3] }
  | _ => none }
def zintRingRow : OpenClaim := { program := "ytmbmbmkmjbpcpaa", sum := "4c107c1a65726665020c068d10abbca8a4b75c039add2cbf4869b9634bbd6c99", func := "trammel/trammellaw02.ZintRing", spec := "zintRing", apart := false }
def ZintRingSaid : Prop := zintRingRow.holds Try.pinned (OpenSpec.ofChange zintRingSpec)

/-- ITS FALSE NEIGHBOUR: 'it returns false'. Refute it at one input. -/
def zintRingWrong : ChangeSpec := { name := "zintRing", fn := fun _ => fun
  | [d1, d2, d3] => { results := [.lit (.bool false)], args := [d1, d2, d3] }
  | _ => none }
def ZintRingWrongFalsely : Prop := zintRingRow.holds Try.pinned (OpenSpec.ofChange zintRingWrong)

/-- 'trammellaw02.ZintTops': WHATEVER THE INPUT: true; the input reads as it did. -/
def zintTopsSpec : ChangeSpec := { name := "zintTops", fn := fun _ => fun
  | [d] => { results := [.lit (.bool true)], args := [d] }
  | _ => none }
def zintTopsRow : OpenClaim := { program := "ytmbmbmkmjbpcpaa", sum := "4c107c1a65726665020c068d10abbca8a4b75c039add2cbf4869b9634bbd6c99", func := "trammel/trammellaw02.ZintTops", spec := "zintTops", apart := false }
def ZintTopsSaid : Prop := zintTopsRow.holds Try.pinned (OpenSpec.ofChange zintTopsSpec)

/-- ITS FALSE NEIGHBOUR: 'it returns false'. Refute it at one input. -/
def zintTopsWrong : ChangeSpec := { name := "zintTops", fn := fun _ => fun
  | [d] => { results := [.lit (.bool false)], args := [d] }
  | _ => none }
def ZintTopsWrongFalsely : Prop := zintTopsRow.holds Try.pinned (OpenSpec.ofChange zintTopsWrong)

/-- 'trammellaw02.ZintQuotients': WHATEVER THE INPUT: true; the input reads as it did. -/
def zintQuotientsSpec : ChangeSpec := { name := "zintQuotients", fn := fun _ => fun
  | [d1, d2] => { results := [.lit (.bool true)], args := [d1, d2] }
  | _ => none }
def zintQuotientsRow : OpenClaim := { program := "ytmbmbmkmjbpcpaa", sum := "4c107c1a65726665020c068d10abbca8a4b75c039add2cbf4869b9634bbd6c99", func := "trammel/trammellaw02.ZintQuotients", spec := "zintQuotients", apart := false }
def ZintQuotientsSaid : Prop := zintQuotientsRow.holds Try.pinned (OpenSpec.ofChange zintQuotientsSpec)

/-- ITS FALSE NEIGHBOUR: 'it returns false'. Refute it at one input. -/
def zintQuotientsWrong : ChangeSpec := { name := "zintQuotients", fn := fun _ => fun
  | [d1, d2] => { results := [.lit (.bool false)], args := [d1, d2] }
  | _ => none }
def ZintQuotientsWrongFalsely : Prop := zintQuotientsRow.holds Try.pinned (OpenSpec.ofChange zintQuotientsWrong)

/-- 'trammellaw02.ZintDivisors': WHATEVER THE INPUT: true; the input reads as it did. -/
def zintDivisorsSpec : ChangeSpec := { name := "zintDivisors", fn := fun _ => fun
  | [d1, d2] => { results := [.lit (.bool true)], args := [d1, d2] }
  | _ => none }
def zintDivisorsRow : OpenClaim := { program := "ytmbmbmkmjbpcpaa", sum := "4c107c1a65726665020c068d10abbca8a4b75c039add2cbf4869b9634bbd6c99", func := "trammel/trammellaw02.ZintDivisors", spec := "zintDivisors", apart := false }
def ZintDivisorsSaid : Prop := zintDivisorsRow.holds Try.pinned (OpenSpec.ofChange zintDivisorsSpec)

/-- ITS FALSE NEIGHBOUR: 'it returns false'. Refute it at one input. -/
def zintDivisorsWrong : ChangeSpec := { name := "zintDivisors", fn := fun _ => fun
  | [d1, d2] => { results := [.lit (.bool false)], args := [d1, d2] }
  | _ => none }
def ZintDivisorsWrongFalsely : Prop := zintDivisorsRow.holds Try.pinned (OpenSpec.ofChange zintDivisorsWrong)

/-- 'trammellaw02.ZintPowers': WHATEVER THE INPUT: true; the input reads as it did. -/
def zintPowersSpec : ChangeSpec := { name := "zintPowers", fn := fun _ => fun
  | [d1, d2] => { results := [.lit (.bool true)], args := [d1, d2] }
  | _ => none }
def zintPowersRow : OpenClaim := { program := "ytmbmbmkmjbpcpaa", sum := "4c107c1a65726665020c068d10abbca8a4b75c039add2cbf4869b9634bbd6c99", func := "trammel/trammellaw02.ZintPowers", spec := "zintPowers", apart := false }
def ZintPowersSaid : Prop := zintPowersRow.holds Try.pinned (OpenSpec.ofChange zintPowersSpec)

/-- ITS FALSE NEIGHBOUR: 'it returns false'. Refute it at one input. -/
def zintPowersWrong : ChangeSpec := { name := "zintPowers", fn := fun _ => fun
  | [d1, d2] => { results := [.lit (.bool false)], args := [d1, d2] }
  | _ => none }
def ZintPowersWrongFalsely : Prop := zintPowersRow.holds Try.pinned (OpenSpec.ofChange zintPowersWrong)

/-- 'trammellaw02.ZintRests': WHATEVER THE INPUT: true; the input reads as it did. -/
def zintRestsSpec : ChangeSpec := { name := "zintRests", fn := fun _ => fun
  | [d1, d2] => { results := [.lit (.bool true)], args := [d1, d2] }
  | _ => none }
def zintRestsRow : OpenClaim := { program := "ytmbmbmkmjbpcpaa", sum := "4c107c1a65726665020c068d10abbca8a4b75c039add2cbf4869b9634bbd6c99", func := "trammel/trammellaw02.ZintRests", spec := "zintRests", apart := false }
def ZintRestsSaid : Prop := zintRestsRow.holds Try.pinned (OpenSpec.ofChange zintRestsSpec)

/-- ITS FALSE NEIGHBOUR: 'it returns false'. Refute it at one input. -/
def zintRestsWrong : ChangeSpec := { name := "zintRests", fn := fun _ => fun
  | [d1, d2] => { results := [.lit (.bool false)], args := [d1, d2] }
  | _ => none }
def ZintRestsWrongFalsely : Prop := zintRestsRow.holds Try.pinned (OpenSpec.ofChange zintRestsWrong)

/-- 'trammellaw02.ZintMemory': WHATEVER THE INPUT: true; the input reads as it did. -/
def zintMemorySpec : ChangeSpec := { name := "zintMemory", fn := fun _ => fun
  | [d1, d2] => { results := [.lit (.bool true)], args := [d1, d2] }
  | _ => none }
def zintMemoryRow : OpenClaim := { program := "ytmbmbmkmjbpcpaa", sum := "4c107c1a65726665020c068d10abbca8a4b75c039add2cbf4869b9634bbd6c99", func := "trammel/trammellaw02.ZintMemory", spec := "zintMemory", apart := false }
def ZintMemorySaid : Prop := zintMemoryRow.holds Try.pinned (OpenSpec.ofChange zintMemorySpec)

/-- ITS FALSE NEIGHBOUR: 'it returns false'. Refute it at one input. -/
def zintMemoryWrong : ChangeSpec := { name := "zintMemory", fn := fun _ => fun
  | [d1, d2] => { results := [.lit (.bool false)], args := [d1, d2] }
  | _ => none }
def ZintMemoryWrongFalsely : Prop := zintMemoryRow.holds Try.pinned (OpenSpec.ofChange zintMemoryWrong)

/-- 'trammellaw02.ZintBack': WHATEVER THE INPUT: true; the input reads as it did. -/
def zintBackSpec : ChangeSpec := { name := "zintBack", fn := fun _ => fun
  | [d1, d2] => { results := [.lit (.bool true)], args := [d1, d2] }
  | _ => none }
def zintBackRow : OpenClaim := { program := "ytmbmbmkmjbpcpaa", sum := "4c107c1a65726665020c068d10abbca8a4b75c039add2cbf4869b9634bbd6c99", func := "trammel/trammellaw02.ZintBack", spec := "zintBack", apart := false }
def ZintBackSaid : Prop := zintBackRow.holds Try.pinned (OpenSpec.ofChange zintBackSpec)

/-- ITS FALSE NEIGHBOUR: 'it returns false'. Refute it at one input. -/
def zintBackWrong : ChangeSpec := { name := "zintBack", fn := fun _ => fun
  | [d1, d2] => { results := [.lit (.bool false)], args := [d1, d2] }
  | _ => none }
def ZintBackWrongFalsely : Prop := zintBackRow.holds Try.pinned (OpenSpec.ofChange zintBackWrong)

/- THE SECOND FORM. 'bulk': how many values and letters a reading holds, each counted each time it is reached (what is shared counts as often as it is met; a slice's spare places count too). A statement '..UptoSaid' is the law's where the arguments, and the package variables that the reading takes, are together of bulk at most 1048576: NARROWER than '..Said'. Prove '..Said' where nothing that the law and all that it calls make is longer than what came in: it says more and counts as full. Else prove '..UptoSaid'. A law counts once. -/
mutual
def uptoBulk {H : Type} : DataW H → Nat
  | .lit (.string bytes) => bytes.length + 1
  | .lit _ => 1
  | .nil => 1
  | .ptr d => uptoBulk d + 1
  | .slice elems spare => uptoBulkAll elems + uptoBulkAll spare + 1
  | .agg parts => uptoBulkAll parts + 1
  | .iface _ d => uptoBulk d + 1
  | .map entries => uptoBulkEntries entries + 1
  | .held _ => 1
def uptoBulkAll {H : Type} : List (DataW H) → Nat
  | [] => 0
  | d :: r => uptoBulk d + uptoBulkAll r
def uptoBulkEntries {H : Type} : List (Lit × DataW H) → Nat
  | [] => 0
  | x :: r => uptoBulkEntry x + uptoBulkEntries r
def uptoBulkEntry {H : Type} : Lit × DataW H → Nat
  | (.string bytes, d) => bytes.length + uptoBulk d + 1
  | (_, d) => uptoBulk d + 1
 end
def uptoSmall : (H : Type) → List (DataW H) → Bool := fun _ ds => decide (uptoBulkAll ds ≤ 1048576)
def OpenSpec.upto (s : _root_.Go.ChangeSpec) : _root_.Go.OpenSpec := { _root_.Go.OpenSpec.ofChange s with cond := some uptoSmall }

/-- 'trammellaw02.ZintTotals', WHERE WHAT IT READS IS OF BULK AT MOST 1048576: true; the input reads as it did. -/
def zintTotalsUptoRow : OpenClaim := { program := "ytmbmbmkmjbpcpaa", sum := "4c107c1a65726665020c068d10abbca8a4b75c039add2cbf4869b9634bbd6c99", func := "trammel/trammellaw02.ZintTotals", spec := "zintTotals", apart := false, narrowed := true }
def ZintTotalsUptoSaid : Prop := zintTotalsUptoRow.holds Try.pinned (OpenSpec.upto zintTotalsSpec)

/-- 'trammellaw02.ZintSums', WHERE WHAT IT READS IS OF BULK AT MOST 1048576: true; the input reads as it did. -/
def zintSumsUptoRow : OpenClaim := { program := "ytmbmbmkmjbpcpaa", sum := "4c107c1a65726665020c068d10abbca8a4b75c039add2cbf4869b9634bbd6c99", func := "trammel/trammellaw02.ZintSums", spec := "zintSums", apart := false, narrowed := true }
def ZintSumsUptoSaid : Prop := zintSumsUptoRow.holds Try.pinned (OpenSpec.upto zintSumsSpec)

/-- 'trammellaw02.ZintForms', WHERE WHAT IT READS IS OF BULK AT MOST 1048576: true; the input reads as it did. -/
def zintFormsUptoRow : OpenClaim := { program := "ytmbmbmkmjbpcpaa", sum := "4c107c1a65726665020c068d10abbca8a4b75c039add2cbf4869b9634bbd6c99", func := "trammel/trammellaw02.ZintForms", spec := "zintForms", apart := false, narrowed := true }
def ZintFormsUptoSaid : Prop := zintFormsUptoRow.holds Try.pinned (OpenSpec.upto zintFormsSpec)

/-- 'trammellaw02.ZintTexts', WHERE WHAT IT READS IS OF BULK AT MOST 1048576: true; the input reads as it did. -/
def zintTextsUptoRow : OpenClaim := { program := "ytmbmbmkmjbpcpaa", sum := "4c107c1a65726665020c068d10abbca8a4b75c039add2cbf4869b9634bbd6c99", func := "trammel/trammellaw02.ZintTexts", spec := "zintTexts", apart := false, narrowed := true }
def ZintTextsUptoSaid : Prop := zintTextsUptoRow.holds Try.pinned (OpenSpec.upto zintTextsSpec)

/-- 'trammellaw02.ZintRing', WHERE WHAT IT READS IS OF BULK AT MOST 1048576: true; the input reads as it did. -/
def zintRingUptoRow : OpenClaim := { program := "ytmbmbmkmjbpcpaa", sum := "4c107c1a65726665020c068d10abbca8a4b75c039add2cbf4869b9634bbd6c99", func := "trammel/trammellaw02.ZintRing", spec := "zintRing", apart := false, narrowed := true }
def ZintRingUptoSaid : Prop := zintRingUptoRow.holds Try.pinned (OpenSpec.upto zintRingSpec)

/-- 'trammellaw02.ZintTops', WHERE WHAT IT READS IS OF BULK AT MOST 1048576: true; the input reads as it did. -/
def zintTopsUptoRow : OpenClaim := { program := "ytmbmbmkmjbpcpaa", sum := "4c107c1a65726665020c068d10abbca8a4b75c039add2cbf4869b9634bbd6c99", func := "trammel/trammellaw02.ZintTops", spec := "zintTops", apart := false, narrowed := true }
def ZintTopsUptoSaid : Prop := zintTopsUptoRow.holds Try.pinned (OpenSpec.upto zintTopsSpec)

/-- 'trammellaw02.ZintQuotients', WHERE WHAT IT READS IS OF BULK AT MOST 1048576: true; the input reads as it did. -/
def zintQuotientsUptoRow : OpenClaim := { program := "ytmbmbmkmjbpcpaa", sum := "4c107c1a65726665020c068d10abbca8a4b75c039add2cbf4869b9634bbd6c99", func := "trammel/trammellaw02.ZintQuotients", spec := "zintQuotients", apart := false, narrowed := true }
def ZintQuotientsUptoSaid : Prop := zintQuotientsUptoRow.holds Try.pinned (OpenSpec.upto zintQuotientsSpec)

/-- 'trammellaw02.ZintDivisors', WHERE WHAT IT READS IS OF BULK AT MOST 1048576: true; the input reads as it did. -/
def zintDivisorsUptoRow : OpenClaim := { program := "ytmbmbmkmjbpcpaa", sum := "4c107c1a65726665020c068d10abbca8a4b75c039add2cbf4869b9634bbd6c99", func := "trammel/trammellaw02.ZintDivisors", spec := "zintDivisors", apart := false, narrowed := true }
def ZintDivisorsUptoSaid : Prop := zintDivisorsUptoRow.holds Try.pinned (OpenSpec.upto zintDivisorsSpec)

/-- 'trammellaw02.ZintPowers', WHERE WHAT IT READS IS OF BULK AT MOST 1048576: true; the input reads as it did. -/
def zintPowersUptoRow : OpenClaim := { program := "ytmbmbmkmjbpcpaa", sum := "4c107c1a65726665020c068d10abbca8a4b75c039add2cbf4869b9634bbd6c99", func := "trammel/trammellaw02.ZintPowers", spec := "zintPowers", apart := false, narrowed := true }
def ZintPowersUptoSaid : Prop := zintPowersUptoRow.holds Try.pinned (OpenSpec.upto zintPowersSpec)

/-- 'trammellaw02.ZintRests', WHERE WHAT IT READS IS OF BULK AT MOST 1048576: true; the input reads as it did. -/
def zintRestsUptoRow : OpenClaim := { program := "ytmbmbmkmjbpcpaa", sum := "4c107c1a65726665020c068d10abbca8a4b75c039add2cbf4869b9634bbd6c99", func := "trammel/trammellaw02.ZintRests", spec := "zintRests", apart := false, narrowed := true }
def ZintRestsUptoSaid : Prop := zintRestsUptoRow.holds Try.pinned (OpenSpec.upto zintRestsSpec)

/-- 'trammellaw02.ZintMemory', WHERE WHAT IT READS IS OF BULK AT MOST 1048576: true; the input reads as it did. -/
def zintMemoryUptoRow : OpenClaim := { program := "ytmbmbmkmjbpcpaa", sum := "4c107c1a65726665020c068d10abbca8a4b75c039add2cbf4869b9634bbd6c99", func := "trammel/trammellaw02.ZintMemory", spec := "zintMemory", apart := false, narrowed := true }
def ZintMemoryUptoSaid : Prop := zintMemoryUptoRow.holds Try.pinned (OpenSpec.upto zintMemorySpec)

/-- 'trammellaw02.ZintBack', WHERE WHAT IT READS IS OF BULK AT MOST 1048576: true; the input reads as it did. -/
def zintBackUptoRow : OpenClaim := { program := "ytmbmbmkmjbpcpaa", sum := "4c107c1a65726665020c068d10abbca8a4b75c039add2cbf4869b9634bbd6c99", func := "trammel/trammellaw02.ZintBack", spec := "zintBack", apart := false, narrowed := true }
def ZintBackUptoSaid : Prop := zintBackUptoRow.holds Try.pinned (OpenSpec.upto zintBackSpec)

end Rows
end Go.Proofs.Ytmbmbmkmjbpcpaa
