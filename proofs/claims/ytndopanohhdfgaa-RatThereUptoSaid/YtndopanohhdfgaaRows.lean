/-
  No cell of these rows narrows 'for every input' (looked for: loops, veiled, ifaces, maps, wideKeys, modest, calm, conditions, laid).
  DERIVED. THE GIVEN ROWS OF THIS SEAT. 9 by the template 'for every input the law returns true; each argument reads behind the call as it read before'; 0 by the template 'total and deterministic' (their statements: YtndopanohhdfgaaTotals.lean).
  GIVEN WITH THE SEED: the statements are not yours to turn. If you find one false, say at which input.
  Laid BY PROGRAM, IN A SANDBOX (cutbox-rows.mjs): the forced cells as the released guide's own fill.sh prints them over the translation 3260c5f4b6f62f1f… (all of the seat's roots in one cut). By AI agents, Wed Nov 11 2026. No macro, syntax, notation, axiom, sorry.
-/
import Derived.Test.YtndopanohhdfgaaChecked
import GoSem.Claim
import GoSem.ClaimJoined
import GoSem.ClaimMapViews
import Derived.JoinedTies
import Derived.KernelRfl
namespace Go.Proofs.Ytndopanohhdfgaa
/- THE CELL 'sum', in the pinned program and in every row, IS THE sha256 OF THE DUMP (.gsa) THAT YtndopanohhdfgaaProg.lean LOADS. Nothing in Lean hashes anything: it is a label: what it is worth is what the hold of that sum in a sandbox is worth. -/
noncomputable def Try.pinned : Pinned := { name := "ytndopanohhdfgaa", sum := "3260c5f4b6f62f1f8eb73a6dd31aa61fed77c557a070511d534a128eb2b8089e", checked := Try.checked }
namespace Rows
def none {H : Type} : Left H := { results := [], args := [] }

/-- 'trammellaw03.RatNames': WHATEVER THE INPUT: true; the input reads as it did. -/
def ratNamesSpec : ChangeSpec := { name := "ratNames", fn := fun _ => fun
  | [] => { results := [.lit (.bool true)], args := [] }
  | _ => none }
def ratNamesRow : OpenClaim := { program := "ytndopanohhdfgaa", sum := "3260c5f4b6f62f1f8eb73a6dd31aa61fed77c557a070511d534a128eb2b8089e", func := "trammel/trammellaw03.RatNames", spec := "ratNames", apart := false }
def RatNamesSaid : Prop := ratNamesRow.holds Try.pinned (OpenSpec.ofChange ratNamesSpec)

/-- ITS FALSE NEIGHBOUR: 'it returns false'. Refute it at one input. -/
def ratNamesWrong : ChangeSpec := { name := "ratNames", fn := fun _ => fun
  | [] => { results := [.lit (.bool false)], args := [] }
  | _ => none }
def RatNamesWrongFalsely : Prop := ratNamesRow.holds Try.pinned (OpenSpec.ofChange ratNamesWrong)

/-- 'trammellaw03.RatMakes': WHATEVER THE INPUT: true; the input reads as it did. -/
def ratMakesSpec : ChangeSpec := { name := "ratMakes", fn := fun _ => fun
  | [d1, d2] => { results := [.lit (.bool true)], args := [d1, d2] }
  | _ => none }
def ratMakesRow : OpenClaim := { program := "ytndopanohhdfgaa", sum := "3260c5f4b6f62f1f8eb73a6dd31aa61fed77c557a070511d534a128eb2b8089e", func := "trammel/trammellaw03.RatMakes", spec := "ratMakes", apart := false }
def RatMakesSaid : Prop := ratMakesRow.holds Try.pinned (OpenSpec.ofChange ratMakesSpec)

/-- ITS FALSE NEIGHBOUR: 'it returns false'. Refute it at one input. -/
def ratMakesWrong : ChangeSpec := { name := "ratMakes", fn := fun _ => fun
  | [d1, d2] => { results := [.lit (.bool false)], args := [d1, d2] }
  | _ => none }
def RatMakesWrongFalsely : Prop := ratMakesRow.holds Try.pinned (OpenSpec.ofChange ratMakesWrong)

/-- 'trammellaw03.RatOrders': WHATEVER THE INPUT: true; the input reads as it did. -/
def ratOrdersSpec : ChangeSpec := { name := "ratOrders", fn := fun _ => fun
  | [d1, d2] => { results := [.lit (.bool true)], args := [d1, d2] }
  | _ => none }
def ratOrdersRow : OpenClaim := { program := "ytndopanohhdfgaa", sum := "3260c5f4b6f62f1f8eb73a6dd31aa61fed77c557a070511d534a128eb2b8089e", func := "trammel/trammellaw03.RatOrders", spec := "ratOrders", apart := false }
def RatOrdersSaid : Prop := ratOrdersRow.holds Try.pinned (OpenSpec.ofChange ratOrdersSpec)

/-- ITS FALSE NEIGHBOUR: 'it returns false'. Refute it at one input. -/
def ratOrdersWrong : ChangeSpec := { name := "ratOrders", fn := fun _ => fun
  | [d1, d2] => { results := [.lit (.bool false)], args := [d1, d2] }
  | _ => none }
def RatOrdersWrongFalsely : Prop := ratOrdersRow.holds Try.pinned (OpenSpec.ofChange ratOrdersWrong)

/-- 'trammellaw03.RatSums': WHATEVER THE INPUT: true; the input reads as it did. -/
def ratSumsSpec : ChangeSpec := { name := "ratSums", fn := fun _ => fun
  | [d1, d2] => { results := [.lit (.bool true)], args := [d1, d2] }
  | _ => none }
def ratSumsRow : OpenClaim := { program := "ytndopanohhdfgaa", sum := "3260c5f4b6f62f1f8eb73a6dd31aa61fed77c557a070511d534a128eb2b8089e", func := "trammel/trammellaw03.RatSums", spec := "ratSums", unfollowed := true, recurses := true, apart := false }
def RatSumsSaid : Prop := ratSumsRow.holds Try.pinned (OpenSpec.ofChange ratSumsSpec)

/-- ITS FALSE NEIGHBOUR: 'it returns false'. Refute it at one input. -/
def ratSumsWrong : ChangeSpec := { name := "ratSums", fn := fun _ => fun
  | [d1, d2] => { results := [.lit (.bool false)], args := [d1, d2] }
  | _ => none }
def RatSumsWrongFalsely : Prop := ratSumsRow.holds Try.pinned (OpenSpec.ofChange ratSumsWrong)

/-- 'trammellaw03.RatProducts': WHATEVER THE INPUT: true; the input reads as it did. -/
def ratProductsSpec : ChangeSpec := { name := "ratProducts", fn := fun _ => fun
  | [d1, d2] => { results := [.lit (.bool true)], args := [d1, d2] }
  | _ => none }
def ratProductsRow : OpenClaim := { program := "ytndopanohhdfgaa", sum := "3260c5f4b6f62f1f8eb73a6dd31aa61fed77c557a070511d534a128eb2b8089e", func := "trammel/trammellaw03.RatProducts", spec := "ratProducts", unfollowed := true, recurses := true, apart := false }
def RatProductsSaid : Prop := ratProductsRow.holds Try.pinned (OpenSpec.ofChange ratProductsSpec)

/-- ITS FALSE NEIGHBOUR: 'it returns false'. Refute it at one input. -/
def ratProductsWrong : ChangeSpec := { name := "ratProducts", fn := fun _ => fun
  | [d1, d2] => { results := [.lit (.bool false)], args := [d1, d2] }
  | _ => none }
def RatProductsWrongFalsely : Prop := ratProductsRow.holds Try.pinned (OpenSpec.ofChange ratProductsWrong)

/-- 'trammellaw03.RatNear': WHATEVER THE INPUT: true; the input reads as it did. -/
def ratNearSpec : ChangeSpec := { name := "ratNear", fn := fun _ => fun
  | [d] => { results := [.lit (.bool true)], args := [d] }
  | _ => none }
def ratNearRow : OpenClaim := { program := "ytndopanohhdfgaa", sum := "3260c5f4b6f62f1f8eb73a6dd31aa61fed77c557a070511d534a128eb2b8089e", func := "trammel/trammellaw03.RatNear", spec := "ratNear", unfollowed := true, recurses := true, apart := false }
def RatNearSaid : Prop := ratNearRow.holds Try.pinned (OpenSpec.ofChange ratNearSpec)

/-- ITS FALSE NEIGHBOUR: 'it returns false'. Refute it at one input. -/
def ratNearWrong : ChangeSpec := { name := "ratNear", fn := fun _ => fun
  | [d] => { results := [.lit (.bool false)], args := [d] }
  | _ => none }
def RatNearWrongFalsely : Prop := ratNearRow.holds Try.pinned (OpenSpec.ofChange ratNearWrong)

/-- 'trammellaw03.RatRounds': WHATEVER THE INPUT: true; the input reads as it did. -/
def ratRoundsSpec : ChangeSpec := { name := "ratRounds", fn := fun _ => fun
  | [d] => { results := [.lit (.bool true)], args := [d] }
  | _ => none }
def ratRoundsRow : OpenClaim := { program := "ytndopanohhdfgaa", sum := "3260c5f4b6f62f1f8eb73a6dd31aa61fed77c557a070511d534a128eb2b8089e", func := "trammel/trammellaw03.RatRounds", spec := "ratRounds", unfollowed := true, recurses := true, apart := false }
def RatRoundsSaid : Prop := ratRoundsRow.holds Try.pinned (OpenSpec.ofChange ratRoundsSpec)

/-- ITS FALSE NEIGHBOUR: 'it returns false'. Refute it at one input. -/
def ratRoundsWrong : ChangeSpec := { name := "ratRounds", fn := fun _ => fun
  | [d] => { results := [.lit (.bool false)], args := [d] }
  | _ => none }
def RatRoundsWrongFalsely : Prop := ratRoundsRow.holds Try.pinned (OpenSpec.ofChange ratRoundsWrong)

/-- 'trammellaw03.RatField': WHATEVER THE INPUT: true; the input reads as it did. -/
def ratFieldSpec : ChangeSpec := { name := "ratField", fn := fun _ => fun
  | [d1, d2, d3] => { results := [.lit (.bool true)], args := [d1, d2, d3] }
  | _ => none }
def ratFieldRow : OpenClaim := { program := "ytndopanohhdfgaa", sum := "3260c5f4b6f62f1f8eb73a6dd31aa61fed77c557a070511d534a128eb2b8089e", func := "trammel/trammellaw03.RatField", spec := "ratField", unfollowed := true, recurses := true, apart := false }
def RatFieldSaid : Prop := ratFieldRow.holds Try.pinned (OpenSpec.ofChange ratFieldSpec)

/-- ITS FALSE NEIGHBOUR: 'it returns false'. Refute it at one input. -/
def ratFieldWrong : ChangeSpec := { name := "ratField", fn := fun _ => fun
  | [d1, d2, d3] => { results := [.lit (.bool false)], args := [d1, d2, d3] }
  | _ => none }
def RatFieldWrongFalsely : Prop := ratFieldRow.holds Try.pinned (OpenSpec.ofChange ratFieldWrong)

/-- 'trammellaw03.RatThere': WHATEVER THE INPUT: true; the input reads as it did. -/
def ratThereSpec : ChangeSpec := { name := "ratThere", fn := fun _ => fun
  | [d] => { results := [.lit (.bool true)], args := [d] }
  | _ => none }
def ratThereRow : OpenClaim := { program := "ytndopanohhdfgaa", sum := "3260c5f4b6f62f1f8eb73a6dd31aa61fed77c557a070511d534a128eb2b8089e", func := "trammel/trammellaw03.RatThere", spec := "ratThere", recurses := true, apart := false }
def RatThereSaid : Prop := ratThereRow.holds Try.pinned (OpenSpec.ofChange ratThereSpec)

/-- ITS FALSE NEIGHBOUR: 'it returns false'. Refute it at one input. -/
def ratThereWrong : ChangeSpec := { name := "ratThere", fn := fun _ => fun
  | [d] => { results := [.lit (.bool false)], args := [d] }
  | _ => none }
def RatThereWrongFalsely : Prop := ratThereRow.holds Try.pinned (OpenSpec.ofChange ratThereWrong)

/- THE SECOND FORM. 'bulk': how many values and letters a reading holds, each counted each time it is reached (what is shared counts as often as it is met; a slice's spare places count too). A statement '..UptoSaid' is the law's where the arguments, and the package variables that the reading takes, are together of bulk at most 1048576: NARROWER than '..Said'. Prove '..Said' where nothing that the law and all that it calls make is longer than what came in: it says more and counts as full. Else prove '..UptoSaid'. A law counts once. -/
mutual
def uptoBulk {H : Type} : DataW H → Nat
  | .lit (.string bytes) => bytes.length + 1
  | .lit _ => 1
  | .nil => 1
  | .ptr d => uptoBulk d + 1
  | .slice elems spare => uptoBulkAll elems + uptoBulkAll spare + 1
  | .agg parts => uptoBulkAll parts + 1
  | .iface _ d => uptoBulk d + 1
  | .map entries => uptoBulkEntries entries + 1
  | .held _ => 1
def uptoBulkAll {H : Type} : List (DataW H) → Nat
  | [] => 0
  | d :: r => uptoBulk d + uptoBulkAll r
def uptoBulkEntries {H : Type} : List (Lit × DataW H) → Nat
  | [] => 0
  | x :: r => uptoBulkEntry x + uptoBulkEntries r
def uptoBulkEntry {H : Type} : Lit × DataW H → Nat
  | (.string bytes, d) => bytes.length + uptoBulk d + 1
  | (_, d) => uptoBulk d + 1
 end
def uptoSmall : (H : Type) → List (DataW H) → Bool := fun _ ds => decide (uptoBulkAll ds ≤ 1048576)
def OpenSpec.upto (s : _root_.Go.ChangeSpec) : _root_.Go.OpenSpec := { _root_.Go.OpenSpec.ofChange s with cond := some uptoSmall }

/-- 'trammellaw03.RatNames', WHERE WHAT IT READS IS OF BULK AT MOST 1048576: true; the input reads as it did. -/
def ratNamesUptoRow : OpenClaim := { program := "ytndopanohhdfgaa", sum := "3260c5f4b6f62f1f8eb73a6dd31aa61fed77c557a070511d534a128eb2b8089e", func := "trammel/trammellaw03.RatNames", spec := "ratNames", apart := false, narrowed := true }
def RatNamesUptoSaid : Prop := ratNamesUptoRow.holds Try.pinned (OpenSpec.upto ratNamesSpec)

/-- 'trammellaw03.RatMakes', WHERE WHAT IT READS IS OF BULK AT MOST 1048576: true; the input reads as it did. -/
def ratMakesUptoRow : OpenClaim := { program := "ytndopanohhdfgaa", sum := "3260c5f4b6f62f1f8eb73a6dd31aa61fed77c557a070511d534a128eb2b8089e", func := "trammel/trammellaw03.RatMakes", spec := "ratMakes", apart := false, narrowed := true }
def RatMakesUptoSaid : Prop := ratMakesUptoRow.holds Try.pinned (OpenSpec.upto ratMakesSpec)

/-- 'trammellaw03.RatOrders', WHERE WHAT IT READS IS OF BULK AT MOST 1048576: true; the input reads as it did. -/
def ratOrdersUptoRow : OpenClaim := { program := "ytndopanohhdfgaa", sum := "3260c5f4b6f62f1f8eb73a6dd31aa61fed77c557a070511d534a128eb2b8089e", func := "trammel/trammellaw03.RatOrders", spec := "ratOrders", apart := false, narrowed := true }
def RatOrdersUptoSaid : Prop := ratOrdersUptoRow.holds Try.pinned (OpenSpec.upto ratOrdersSpec)

/-- 'trammellaw03.RatSums', WHERE WHAT IT READS IS OF BULK AT MOST 1048576: true; the input reads as it did. -/
def ratSumsUptoRow : OpenClaim := { program := "ytndopanohhdfgaa", sum := "3260c5f4b6f62f1f8eb73a6dd31aa61fed77c557a070511d534a128eb2b8089e", func := "trammel/trammellaw03.RatSums", spec := "ratSums", unfollowed := true, recurses := true, apart := false, narrowed := true }
def RatSumsUptoSaid : Prop := ratSumsUptoRow.holds Try.pinned (OpenSpec.upto ratSumsSpec)

/-- 'trammellaw03.RatProducts', WHERE WHAT IT READS IS OF BULK AT MOST 1048576: true; the input reads as it did. -/
def ratProductsUptoRow : OpenClaim := { program := "ytndopanohhdfgaa", sum := "3260c5f4b6f62f1f8eb73a6dd31aa61fed77c557a070511d534a128eb2b8089e", func := "trammel/trammellaw03.RatProducts", spec := "ratProducts", unfollowed := true, recurses := true, apart := false, narrowed := true }
def RatProductsUptoSaid : Prop := ratProductsUptoRow.holds Try.pinned (OpenSpec.upto ratProductsSpec)

/-- 'trammellaw03.RatNear', WHERE WHAT IT READS IS OF BULK AT MOST 1048576: true; the input reads as it did. -/
def ratNearUptoRow : OpenClaim := { program := "ytndopanohhdfgaa", sum := "3260c5f4b6f62f1f8eb73a6dd31aa61fed77c557a070511d534a128eb2b8089e", func := "trammel/trammellaw03.RatNear", spec := "ratNear", unfollowed := true, recurses := true, apart := false, narrowed := true }
def RatNearUptoSaid : Prop := ratNearUptoRow.holds Try.pinned (OpenSpec.upto ratNearSpec)

/-- 'trammellaw03.RatRounds', WHERE WHAT IT READS IS OF BULK AT MOST 1048576: true; the input reads as it did. -/
def ratRoundsUptoRow : OpenClaim := { program := "ytndopanohhdfgaa", sum := "3260c5f4b6f62f1f8eb73a6dd31aa61fed77c557a070511d534a128eb2b8089e", func := "trammel/trammellaw03.RatRounds", spec := "ratRounds", unfollowed := true, recurses := true, apart := false, narrowed := true }
def RatRoundsUptoSaid : Prop := ratRoundsUptoRow.holds Try.pinned (OpenSpec.upto ratRoundsSpec)

/-- 'trammellaw03.RatField', WHERE WHAT IT READS IS OF BULK AT MOST 1048576: true; the input reads as it did. -/
def ratFieldUptoRow : OpenClaim := { program := "ytndopanohhdfgaa", sum := "3260c5f4b6f62f1f8eb73a6dd31aa61fed77c557a070511d534a128eb2b8089e", func := "trammel/trammellaw03.RatField", spec := "ratField", unfollowed := true, recurses := true, apart := false, narrowed := true }
def RatFieldUptoSaid : Prop := ratFieldUptoRow.holds Try.pinned (OpenSpec.upto ratFieldSpec)

/-- 'trammellaw03.RatThere', WHERE WHAT IT READS IS OF BULK AT MOST 1048576: true; the input reads as it did. -/
def ratThereUptoRow : OpenClaim := { program := "ytndopanohhdfgaa", sum := "3260c5f4b6f62f1f8eb73a6dd31aa61fed77c557a070511d534a128eb2b8089e", func := "trammel/trammellaw03.RatThere", spec := "ratThere", recurses := true, apart := false, narrowed := true }
def RatThereUptoSaid : Prop := ratThereUptoRow.holds Try.pinned (OpenSpec.upto ratThereSpec)

end Rows
end Go.Proofs.Ytndopanohhdfgaa
