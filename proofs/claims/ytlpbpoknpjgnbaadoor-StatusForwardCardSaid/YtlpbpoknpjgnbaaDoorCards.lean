/-
  DERIVED. GIVEN WITH THE SEED: THE CARDS: each row of YtlpbpoknpjgnbaaDoorRows.lean that lists a variable, with what it lists TIED to the program's text (the seventh form; the later family's looks); each row that meets fmt, with fmt's text TOLD by the authors' own Lean function (tested against real Go, not proved from fmt's source: count such statements apart). THE CARD IS WHAT COUNTS. Prove the row's statement (the work); the ties are given (YtlpbpoknpjgnbaaDoorTie.lean); close each card by the builder's one call (the guide's Derived/Test/ToyasCard.lean, 'card_holds'). Laid BY PROGRAM, IN A SANDBOX (cutbox-door.mjs). By AI agents, Wed Nov 11 2026. No macro, syntax, notation, axiom, sorry.
-/
import Derived.Test.YtlpbpoknpjgnbaaDoorRows
import GoSem.ClaimSeven
namespace Go.Proofs.YtlpbpoknpjgnbaaDoor
namespace Rows

/-- THE TIED CARD OF 'saucierlaw28.StatusForward'. -/
def statusForwardCard : Claim7 := { stood := { row := statusForwardRow, standIns := [], harness := (true, "821cbcde9860bcd9eaf821ee9a95d8276cbb1245f084ad5ac5fb69e7a14a8e70"), looks := true }, kinds := [], alts := [], laidByText := true, laidKinds := [.data, .data, .data, .sentinel, .sentinel], laidTests := true, laidLooks := .later }
def StatusForwardCardSaid : Prop := Claim7.holds Tryd.pinned (.plain (OpenSpec.ofChange statusForwardSpec)) statusForwardCard

/-- THE SECOND FORM's CARD OF 'saucierlaw28.StatusForward'. -/
def statusForwardUptoCard : Claim7 := { stood := { row := statusForwardUptoRow, standIns := [], harness := (true, "821cbcde9860bcd9eaf821ee9a95d8276cbb1245f084ad5ac5fb69e7a14a8e70"), looks := true }, kinds := [], alts := [], laidByText := true, laidKinds := [.data, .data, .data, .sentinel, .sentinel], laidTests := true, laidLooks := .later }
def StatusForwardUptoCardSaid : Prop := Claim7.holds Tryd.pinned (.plain (OpenSpec.upto statusForwardSpec)) statusForwardUptoCard
end Rows
end Go.Proofs.YtlpbpoknpjgnbaaDoor
