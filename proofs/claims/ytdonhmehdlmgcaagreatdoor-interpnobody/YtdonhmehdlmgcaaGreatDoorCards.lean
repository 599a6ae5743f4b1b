/-
  DERIVED. GIVEN WITH THE SEED: THE CARDS: each row of YtdonhmehdlmgcaaGreatDoorRows.lean that lists a variable, with what it lists TIED to the program's text (the seventh form; the later family's looks); each row that meets fmt, with fmt's text TOLD by the authors' own Lean function (tested against real Go, not proved from fmt's source: count such statements apart). THE CARD IS WHAT COUNTS. Prove the row's statement (the work); the ties are given (YtdonhmehdlmgcaaGreatDoorTie.lean); close each card by the builder's one call (the guide's Derived/Test/ToyasCard.lean, 'card_holds'). Laid BY PROGRAM, IN A SANDBOX (cutbox-door.mjs). By AI agents, Wed Nov 11 2026. No macro, syntax, notation, axiom, sorry.
-/
import Derived.Test.YtdonhmehdlmgcaaGreatDoorRows
import GoSem.ClaimSeven
namespace Go.Proofs.YtdonhmehdlmgcaaGreatDoor
namespace Rows

/-- THE TIED CARD OF 'smartcardlaw35.InterpNobody'. -/
def interpNobodyCard : Claim7 := { stood := { row := interpNobodyRow, standIns := [], harness := (true, "10c3aab1fc8081c0b92dc280a0e62c02f2c7a8971dc98b4c98016be313a3fab6"), looks := true }, kinds := [], alts := [], laidByText := true, laidKinds := [.data, .sentinel, .data, .data, .data, .data, .data, .data, .data], laidTests := true, laidLooks := .later }
def InterpNobodyCardSaid : Prop := Claim7.holds Tryz.pinned (.plain (OpenSpec.ofChange interpNobodySpec)) interpNobodyCard

/-- THE SECOND FORM's CARD OF 'smartcardlaw35.InterpNobody'. -/
def interpNobodyUptoCard : Claim7 := { stood := { row := interpNobodyUptoRow, standIns := [], harness := (true, "10c3aab1fc8081c0b92dc280a0e62c02f2c7a8971dc98b4c98016be313a3fab6"), looks := true }, kinds := [], alts := [], laidByText := true, laidKinds := [.data, .sentinel, .data, .data, .data, .data, .data, .data, .data], laidTests := true, laidLooks := .later }
def InterpNobodyUptoCardSaid : Prop := Claim7.holds Tryz.pinned (.plain (OpenSpec.upto interpNobodySpec)) interpNobodyUptoCard
end Rows
end Go.Proofs.YtdonhmehdlmgcaaGreatDoor
