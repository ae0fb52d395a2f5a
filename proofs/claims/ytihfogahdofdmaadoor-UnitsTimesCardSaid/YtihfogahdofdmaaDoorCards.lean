/-
  DERIVED. GIVEN WITH THE SEED: THE CARDS: each row of YtihfogahdofdmaaDoorRows.lean that lists a variable, with what it lists TIED to the program's text (the seventh form; the later family's looks); each row that meets fmt, with fmt's text TOLD by the authors' own Lean function (tested against real Go, not proved from fmt's source: count such statements apart). THE CARD IS WHAT COUNTS. Prove the row's statement (the work); the ties are given (YtihfogahdofdmaaDoorTie.lean); close each card by the builder's one call (the guide's Derived/Test/ToyasCard.lean, 'card_holds'). Laid BY PROGRAM, IN A SANDBOX (cutbox-door.mjs). By AI agents, Wed Nov 11 2026. No macro, syntax, notation, axiom, sorry.
-/
import Derived.Test.YtihfogahdofdmaaDoorRows
import GoSem.ClaimSeven
namespace Go.Proofs.YtihfogahdofdmaaDoor
namespace Rows

/-- THE TIED CARD OF 'saucierlaw12.UnitsWays'. -/
def unitsWaysCard : Claim7 := { stood := { row := unitsWaysRow, standIns := [], harness := (true, "39e3fe5b44fed5d221669ae4b3d538479783ed39199091264f8f6eadf43c2565"), looks := false }, kinds := [], alts := [], laidByText := true, laidKinds := [.data, .data, .data, .data, .pinned], laidTests := true, laidLooks := .later }
def UnitsWaysCardSaid : Prop := Claim7.holds Tryd.pinned (.plain (OpenSpec.ofChange unitsWaysSpec)) unitsWaysCard

/-- THE TIED CARD OF 'saucierlaw12.UnitsTimes'. -/
def unitsTimesCard : Claim7 := { stood := { row := unitsTimesRow, standIns := [], harness := (true, "39e3fe5b44fed5d221669ae4b3d538479783ed39199091264f8f6eadf43c2565"), looks := false }, kinds := [], alts := [], laidByText := true, laidKinds := [.data, .data, .data, .data, .pinned], laidTests := true, laidLooks := .later }
def UnitsTimesCardSaid : Prop := Claim7.holds Tryd.pinned (.plain (OpenSpec.ofChange unitsTimesSpec)) unitsTimesCard

/-- THE TIED CARD OF 'saucierlaw12.UnitsWords'. -/
def unitsWordsCard : Claim7 := { stood := { row := unitsWordsRow, standIns := [], harness := (true, "39e3fe5b44fed5d221669ae4b3d538479783ed39199091264f8f6eadf43c2565"), looks := false }, kinds := [], alts := [], laidByText := true, laidKinds := [.data, .data, .data, .data, .pinned], laidTests := true, laidLooks := .later }
def UnitsWordsCardSaid : Prop := Claim7.holds Tryd.pinned (.plain (OpenSpec.ofChange unitsWordsSpec)) unitsWordsCard

/-- THE TIED CARD OF 'saucierlaw12.UnitsTell'. -/
def unitsTellCard : Claim7 := { stood := { row := unitsTellRow, standIns := [], harness := (true, "39e3fe5b44fed5d221669ae4b3d538479783ed39199091264f8f6eadf43c2565"), looks := false }, kinds := [], alts := [], laidByText := true, laidKinds := [.data, .data, .data, .data, .pinned], laidTests := true, laidLooks := .later }
def UnitsTellCardSaid : Prop := Claim7.holds Tryd.pinned (.plain (OpenSpec.ofChange unitsTellSpec)) unitsTellCard

/-- THE TIED CARD OF 'saucierlaw12.UnitsBack'. -/
def unitsBackCard : Claim7 := { stood := { row := unitsBackRow, standIns := [], harness := (true, "39e3fe5b44fed5d221669ae4b3d538479783ed39199091264f8f6eadf43c2565"), looks := false }, kinds := [], alts := [], laidByText := true, laidKinds := [.data, .data, .data, .data, .pinned], laidTests := true, laidLooks := .later }
def UnitsBackCardSaid : Prop := Claim7.holds Tryd.pinned (.plain (OpenSpec.ofChange unitsBackSpec)) unitsBackCard

/-- THE SECOND FORM's CARD OF 'saucierlaw12.UnitsWays'. -/
def unitsWaysUptoCard : Claim7 := { stood := { row := unitsWaysUptoRow, standIns := [], harness := (true, "39e3fe5b44fed5d221669ae4b3d538479783ed39199091264f8f6eadf43c2565"), looks := false }, kinds := [], alts := [], laidByText := true, laidKinds := [.data, .data, .data, .data, .pinned], laidTests := true, laidLooks := .later }
def UnitsWaysUptoCardSaid : Prop := Claim7.holds Tryd.pinned (.plain (OpenSpec.upto unitsWaysSpec)) unitsWaysUptoCard

/-- THE SECOND FORM's CARD OF 'saucierlaw12.UnitsTimes'. -/
def unitsTimesUptoCard : Claim7 := { stood := { row := unitsTimesUptoRow, standIns := [], harness := (true, "39e3fe5b44fed5d221669ae4b3d538479783ed39199091264f8f6eadf43c2565"), looks := false }, kinds := [], alts := [], laidByText := true, laidKinds := [.data, .data, .data, .data, .pinned], laidTests := true, laidLooks := .later }
def UnitsTimesUptoCardSaid : Prop := Claim7.holds Tryd.pinned (.plain (OpenSpec.upto unitsTimesSpec)) unitsTimesUptoCard

/-- THE SECOND FORM's CARD OF 'saucierlaw12.UnitsWords'. -/
def unitsWordsUptoCard : Claim7 := { stood := { row := unitsWordsUptoRow, standIns := [], harness := (true, "39e3fe5b44fed5d221669ae4b3d538479783ed39199091264f8f6eadf43c2565"), looks := false }, kinds := [], alts := [], laidByText := true, laidKinds := [.data, .data, .data, .data, .pinned], laidTests := true, laidLooks := .later }
def UnitsWordsUptoCardSaid : Prop := Claim7.holds Tryd.pinned (.plain (OpenSpec.upto unitsWordsSpec)) unitsWordsUptoCard

/-- THE SECOND FORM's CARD OF 'saucierlaw12.UnitsTell'. -/
def unitsTellUptoCard : Claim7 := { stood := { row := unitsTellUptoRow, standIns := [], harness := (true, "39e3fe5b44fed5d221669ae4b3d538479783ed39199091264f8f6eadf43c2565"), looks := false }, kinds := [], alts := [], laidByText := true, laidKinds := [.data, .data, .data, .data, .pinned], laidTests := true, laidLooks := .later }
def UnitsTellUptoCardSaid : Prop := Claim7.holds Tryd.pinned (.plain (OpenSpec.upto unitsTellSpec)) unitsTellUptoCard

/-- THE SECOND FORM's CARD OF 'saucierlaw12.UnitsBack'. -/
def unitsBackUptoCard : Claim7 := { stood := { row := unitsBackUptoRow, standIns := [], harness := (true, "39e3fe5b44fed5d221669ae4b3d538479783ed39199091264f8f6eadf43c2565"), looks := false }, kinds := [], alts := [], laidByText := true, laidKinds := [.data, .data, .data, .data, .pinned], laidTests := true, laidLooks := .later }
def UnitsBackUptoCardSaid : Prop := Claim7.holds Tryd.pinned (.plain (OpenSpec.upto unitsBackSpec)) unitsBackUptoCard
end Rows
end Go.Proofs.YtihfogahdofdmaaDoor
