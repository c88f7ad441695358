/-
  DERIVED. GIVEN WITH THE SEED: THE CARDS: each row of YtjbaonlhmpcicaaDoorRows.lean that lists a variable, with what it lists TIED to the program's text (the seventh form; the later family's looks); each row that meets fmt, with fmt's text TOLD by the authors' own Lean function (tested against real Go, not proved from fmt's source: count such statements apart). THE CARD IS WHAT COUNTS. Prove the row's statement (the work); the ties are given (YtjbaonlhmpcicaaDoorTie.lean); close each card by the builder's one call (the guide's Derived/Test/ToyasCard.lean, 'card_holds'). Laid BY PROGRAM, IN A SANDBOX (cutbox-door.mjs). By AI agents, Wed Nov 11 2026. No macro, syntax, notation, axiom, sorry.
-/
import Derived.Test.YtjbaonlhmpcicaaDoorRows
import GoSem.ClaimSeven
namespace Go.Proofs.YtjbaonlhmpcicaaDoor
namespace Rows

/-- THE TIED CARD OF 'trammellaw01.NatNames'. -/
def natNamesCard : Claim7 := { stood := { row := natNamesRow, standIns := [], harness := (true, "e730892dc0950c3b580f8d3e0693d93e06b4e8d90a6b950979e1e859ebc73dea"), looks := false }, kinds := [], alts := [], laidByText := true, laidKinds := [.data, .data, .data], laidTests := true, laidLooks := .later }
def NatNamesCardSaid : Prop := Claim7.holds Tryd.pinned (.plain (OpenSpec.ofChange natNamesSpec)) natNamesCard

/-- THE SECOND FORM's CARD OF 'trammellaw01.NatNames'. -/
def natNamesUptoCard : Claim7 := { stood := { row := natNamesUptoRow, standIns := [], harness := (true, "e730892dc0950c3b580f8d3e0693d93e06b4e8d90a6b950979e1e859ebc73dea"), looks := false }, kinds := [], alts := [], laidByText := true, laidKinds := [.data, .data, .data], laidTests := true, laidLooks := .later }
def NatNamesUptoCardSaid : Prop := Claim7.holds Tryd.pinned (.plain (OpenSpec.upto natNamesSpec)) natNamesUptoCard
end Rows
end Go.Proofs.YtjbaonlhmpcicaaDoor
