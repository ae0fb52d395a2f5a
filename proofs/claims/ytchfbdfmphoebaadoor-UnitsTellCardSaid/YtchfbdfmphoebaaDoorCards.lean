/-
  DERIVED. GIVEN WITH THE SEED: THE CARDS: each row of YtchfbdfmphoebaaDoorRows.lean that lists a variable, with what it lists TIED to the program's text (the seventh form; the later family's looks); each row that meets fmt, with fmt's text TOLD by the authors' own Lean function (tested against real Go, not proved from fmt's source: count such statements apart). THE CARD IS WHAT COUNTS. Prove the row's statement (the work); the ties are given (YtchfbdfmphoebaaDoorTie.lean); close each card by the builder's one call (the guide's Derived/Test/ToyasCard.lean, 'card_holds'). Laid BY PROGRAM, IN A SANDBOX (cutbox-door.mjs). By AI agents, Wed Nov 11 2026. No macro, syntax, notation, axiom, sorry.
-/
import Derived.Test.YtchfbdfmphoebaaDoorRows
import GoSem.ClaimSeven
namespace Go.Proofs.YtchfbdfmphoebaaDoor
namespace Rows

/-- THE TIED CARD OF 'saucierlaw28.StatusWrong'. -/
def statusWrongCard : Claim7 := { stood := { row := statusWrongRow, standIns := [], harness := (true, "587df16e53ca00308ba99c5f2e429ee190f09c37559d1db131743a1086781210"), looks := true }, kinds := [], alts := [], laidByText := true, laidKinds := [.data, .data, .data, .sentinel, .sentinel], laidTests := true, laidLooks := .later }
def StatusWrongCardSaid : Prop := Claim7.holds Tryd.pinned (.plain (OpenSpec.ofChange statusWrongSpec)) statusWrongCard

/-- THE TIED CARD OF 'saucierlaw28.StatusBack'. -/
def statusBackCard : Claim7 := { stood := { row := statusBackRow, standIns := [], harness := (true, "587df16e53ca00308ba99c5f2e429ee190f09c37559d1db131743a1086781210"), looks := true }, kinds := [], alts := [], laidByText := true, laidKinds := [.data, .data, .data, .sentinel, .sentinel], laidTests := true, laidLooks := .later }
def StatusBackCardSaid : Prop := Claim7.holds Tryd.pinned (.plain (OpenSpec.ofChange statusBackSpec)) statusBackCard

/-- THE TIED CARD OF 'saucierlaw12.UnitsTell'. -/
def unitsTellCard : Claim7 := { stood := { row := unitsTellRow, standIns := [], harness := (true, "587df16e53ca00308ba99c5f2e429ee190f09c37559d1db131743a1086781210"), looks := true }, kinds := [], alts := [], laidByText := true, laidKinds := [.data, .data, .data, .data, .pinned], laidTests := true, laidLooks := .later }
def UnitsTellCardSaid : Prop := Claim7.holds Tryd.pinned (.plain (OpenSpec.ofChange unitsTellSpec)) unitsTellCard

/-- THE TIED CARD OF 'saucierlaw12.UnitsBack'. -/
def unitsBackCard : Claim7 := { stood := { row := unitsBackRow, standIns := [], harness := (true, "587df16e53ca00308ba99c5f2e429ee190f09c37559d1db131743a1086781210"), looks := true }, kinds := [], alts := [], laidByText := true, laidKinds := [.data, .data, .data, .data, .pinned], laidTests := true, laidLooks := .later }
def UnitsBackCardSaid : Prop := Claim7.holds Tryd.pinned (.plain (OpenSpec.ofChange unitsBackSpec)) unitsBackCard

/-- THE SECOND FORM's CARD OF 'saucierlaw28.StatusWrong'. -/
def statusWrongUptoCard : Claim7 := { stood := { row := statusWrongUptoRow, standIns := [], harness := (true, "587df16e53ca00308ba99c5f2e429ee190f09c37559d1db131743a1086781210"), looks := true }, kinds := [], alts := [], laidByText := true, laidKinds := [.data, .data, .data, .sentinel, .sentinel], laidTests := true, laidLooks := .later }
def StatusWrongUptoCardSaid : Prop := Claim7.holds Tryd.pinned (.plain (OpenSpec.upto statusWrongSpec)) statusWrongUptoCard

/-- THE SECOND FORM's CARD OF 'saucierlaw28.StatusBack'. -/
def statusBackUptoCard : Claim7 := { stood := { row := statusBackUptoRow, standIns := [], harness := (true, "587df16e53ca00308ba99c5f2e429ee190f09c37559d1db131743a1086781210"), looks := true }, kinds := [], alts := [], laidByText := true, laidKinds := [.data, .data, .data, .sentinel, .sentinel], laidTests := true, laidLooks := .later }
def StatusBackUptoCardSaid : Prop := Claim7.holds Tryd.pinned (.plain (OpenSpec.upto statusBackSpec)) statusBackUptoCard

/-- THE SECOND FORM's CARD OF 'saucierlaw12.UnitsTell'. -/
def unitsTellUptoCard : Claim7 := { stood := { row := unitsTellUptoRow, standIns := [], harness := (true, "587df16e53ca00308ba99c5f2e429ee190f09c37559d1db131743a1086781210"), looks := true }, kinds := [], alts := [], laidByText := true, laidKinds := [.data, .data, .data, .data, .pinned], laidTests := true, laidLooks := .later }
def UnitsTellUptoCardSaid : Prop := Claim7.holds Tryd.pinned (.plain (OpenSpec.upto unitsTellSpec)) unitsTellUptoCard

/-- THE SECOND FORM's CARD OF 'saucierlaw12.UnitsBack'. -/
def unitsBackUptoCard : Claim7 := { stood := { row := unitsBackUptoRow, standIns := [], harness := (true, "587df16e53ca00308ba99c5f2e429ee190f09c37559d1db131743a1086781210"), looks := true }, kinds := [], alts := [], laidByText := true, laidKinds := [.data, .data, .data, .data, .pinned], laidTests := true, laidLooks := .later }
def UnitsBackUptoCardSaid : Prop := Claim7.holds Tryd.pinned (.plain (OpenSpec.upto unitsBackSpec)) unitsBackUptoCard
end Rows
end Go.Proofs.YtchfbdfmphoebaaDoor
