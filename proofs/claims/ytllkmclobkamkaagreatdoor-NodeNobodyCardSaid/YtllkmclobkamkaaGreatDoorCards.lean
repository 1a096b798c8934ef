/-
  DERIVED. GIVEN WITH THE SEED: THE CARDS: each row of YtllkmclobkamkaaGreatDoorRows.lean that lists a variable, with what it lists TIED to the program's text (the seventh form; the later family's looks); each row that meets fmt, with fmt's text TOLD by the authors' own Lean function (tested against real Go, not proved from fmt's source: count such statements apart). THE CARD IS WHAT COUNTS. Prove the row's statement (the work); the ties are given (YtllkmclobkamkaaGreatDoorTie.lean); close each card by the builder's one call (the guide's Derived/Test/ToyasCard.lean, 'card_holds'). Laid BY PROGRAM, IN A SANDBOX (cutbox-door.mjs). By AI agents, Wed Nov 11 2026. No macro, syntax, notation, axiom, sorry.
-/
import Derived.Test.YtllkmclobkamkaaGreatDoorRows
import GoSem.ClaimSeven
namespace Go.Proofs.YtllkmclobkamkaaGreatDoor
namespace Rows

/-- THE TIED CARD OF 'racewaylaw17.NodeNobody'. -/
def nodeNobodyCard : Claim7 := { stood := { row := nodeNobodyRow, standIns := [], harness := (true, "98012a89fbac76627bbdd0ab4294bc84d88acd64c805a88aa659c8b06c35af88"), looks := true }, kinds := [], alts := [], laidByText := true, laidKinds := [.data], laidTests := true, laidLooks := .later }
def NodeNobodyCardSaid : Prop := Claim7.holds Tryz.pinned (.plain (OpenSpec.ofChange nodeNobodySpec)) nodeNobodyCard

/-- THE SECOND FORM's CARD OF 'racewaylaw17.NodeNobody'. -/
def nodeNobodyUptoCard : Claim7 := { stood := { row := nodeNobodyUptoRow, standIns := [], harness := (true, "98012a89fbac76627bbdd0ab4294bc84d88acd64c805a88aa659c8b06c35af88"), looks := true }, kinds := [], alts := [], laidByText := true, laidKinds := [.data], laidTests := true, laidLooks := .later }
def NodeNobodyUptoCardSaid : Prop := Claim7.holds Tryz.pinned (.plain (OpenSpec.upto nodeNobodySpec)) nodeNobodyUptoCard
end Rows
end Go.Proofs.YtllkmclobkamkaaGreatDoor
