/-
  DERIVED. GIVEN WITH THE SEED: THE CARDS: each row of YtlpbpoknpjgnbaaGreatDoorRows.lean that lists a variable, with what it lists TIED to the program's text (the seventh form; the later family's looks); each row that meets fmt, with fmt's text TOLD by the authors' own Lean function (tested against real Go, not proved from fmt's source: count such statements apart). THE CARD IS WHAT COUNTS. Prove the row's statement (the work); the ties are given (YtlpbpoknpjgnbaaGreatDoorTie.lean); close each card by the builder's one call (the guide's Derived/Test/ToyasCard.lean, 'card_holds'). Laid BY PROGRAM, IN A SANDBOX (cutbox-door.mjs). By AI agents, Wed Nov 11 2026. No macro, syntax, notation, axiom, sorry.
-/
import Derived.Test.YtlpbpoknpjgnbaaGreatDoorRows
import GoSem.ClaimSeven
namespace Go.Proofs.YtlpbpoknpjgnbaaGreatDoor
namespace Rows

/-- THE TIED CARD OF 'saucierlaw28.StatusTells'. -/
def statusTellsCard : Claim7 := { stood := { row := statusTellsRow, standIns := [], harness := (true, "fcb2f9ab03b8b7a8b2fd4bc3b071e746c8513599fd1fbfd0e7bf999fe1d027e6"), looks := true }, kinds := [], alts := [], laidByText := true, laidKinds := [.data, .data, .data, .sentinel, .sentinel], laidTests := true, laidLooks := .later }
def StatusTellsCardSaid : Prop := Claim7.holds Tryz.pinned (.plain (OpenSpec.ofChange statusTellsSpec)) statusTellsCard

/-- THE SECOND FORM's CARD OF 'saucierlaw28.StatusTells'. -/
def statusTellsUptoCard : Claim7 := { stood := { row := statusTellsUptoRow, standIns := [], harness := (true, "fcb2f9ab03b8b7a8b2fd4bc3b071e746c8513599fd1fbfd0e7bf999fe1d027e6"), looks := true }, kinds := [], alts := [], laidByText := true, laidKinds := [.data, .data, .data, .sentinel, .sentinel], laidTests := true, laidLooks := .later }
def StatusTellsUptoCardSaid : Prop := Claim7.holds Tryz.pinned (.plain (OpenSpec.upto statusTellsSpec)) statusTellsUptoCard
end Rows
end Go.Proofs.YtlpbpoknpjgnbaaGreatDoor
