/-
  DERIVED. GIVEN WITH THE SEED: THE CARDS: each row of YtempdfdmcgolbaaDoorRows.lean that lists a variable, with what it lists TIED to the program's text (the seventh form; the later family's looks); each row that meets fmt, with fmt's text TOLD by the authors' own Lean function (tested against real Go, not proved from fmt's source: count such statements apart). THE CARD IS WHAT COUNTS. Prove the row's statement (the work); the ties are given (YtempdfdmcgolbaaDoorTie.lean); close each card by the builder's one call (the guide's Derived/Test/ToyasCard.lean, 'card_holds'). Laid BY PROGRAM, IN A SANDBOX (cutbox-door.mjs). By AI agents, Wed Nov 11 2026. No macro, syntax, notation, axiom, sorry.
-/
import Derived.Test.YtempdfdmcgolbaaDoorRows
import GoSem.ClaimSeven
namespace Go.Proofs.YtempdfdmcgolbaaDoor
namespace Rows

/-- THE TIED CARD OF 'saucierlaw13.LexTells'. -/
def lexTellsCard : Claim7 := { stood := { row := lexTellsRow, standIns := [], harness := (true, "376cfa59ce9976eefe8204fa570cbae686a9cb3eab2df7151ab3307522d3a16b"), looks := true }, kinds := [], alts := [], laidByText := true, laidKinds := [.data, .pinned], laidTests := true, laidLooks := .later }
def LexTellsCardSaid : Prop := Claim7.holds Tryd.pinned (.plain (OpenSpec.ofChange lexTellsSpec)) lexTellsCard

/-- THE TIED CARD OF 'saucierlaw13.LexKinds'. -/
def lexKindsCard : Claim7 := { stood := { row := lexKindsRow, standIns := [], harness := (true, "376cfa59ce9976eefe8204fa570cbae686a9cb3eab2df7151ab3307522d3a16b"), looks := true }, kinds := [], alts := [], laidByText := true, laidKinds := [.data, .pinned], laidTests := true, laidLooks := .later }
def LexKindsCardSaid : Prop := Claim7.holds Tryd.pinned (.plain (OpenSpec.ofChange lexKindsSpec)) lexKindsCard

/-- THE TIED CARD OF 'saucierlaw13.LexBlank'. -/
def lexBlankCard : Claim7 := { stood := { row := lexBlankRow, standIns := [], harness := (true, "376cfa59ce9976eefe8204fa570cbae686a9cb3eab2df7151ab3307522d3a16b"), looks := true }, kinds := [], alts := [], laidByText := true, laidKinds := [.data, .pinned], laidTests := true, laidLooks := .later }
def LexBlankCardSaid : Prop := Claim7.holds Tryd.pinned (.plain (OpenSpec.ofChange lexBlankSpec)) lexBlankCard

/-- THE TIED CARD OF 'saucierlaw13.LexStands'. -/
def lexStandsCard : Claim7 := { stood := { row := lexStandsRow, standIns := [], harness := (true, "376cfa59ce9976eefe8204fa570cbae686a9cb3eab2df7151ab3307522d3a16b"), looks := true }, kinds := [], alts := [], laidByText := true, laidKinds := [.data, .pinned], laidTests := true, laidLooks := .later }
def LexStandsCardSaid : Prop := Claim7.holds Tryd.pinned (.plain (OpenSpec.ofChange lexStandsSpec)) lexStandsCard

/-- THE TIED CARD OF 'saucierlaw28.StatusWrong'. -/
def statusWrongCard : Claim7 := { stood := { row := statusWrongRow, standIns := [], harness := (true, "376cfa59ce9976eefe8204fa570cbae686a9cb3eab2df7151ab3307522d3a16b"), looks := true }, kinds := [], alts := [], laidByText := true, laidKinds := [.data, .data, .data, .sentinel, .sentinel], laidTests := true, laidLooks := .later }
def StatusWrongCardSaid : Prop := Claim7.holds Tryd.pinned (.plain (OpenSpec.ofChange statusWrongSpec)) statusWrongCard

/-- THE TIED CARD OF 'saucierlaw28.StatusBack'. -/
def statusBackCard : Claim7 := { stood := { row := statusBackRow, standIns := [], harness := (true, "376cfa59ce9976eefe8204fa570cbae686a9cb3eab2df7151ab3307522d3a16b"), looks := true }, kinds := [], alts := [], laidByText := true, laidKinds := [.data, .data, .data, .sentinel, .sentinel], laidTests := true, laidLooks := .later }
def StatusBackCardSaid : Prop := Claim7.holds Tryd.pinned (.plain (OpenSpec.ofChange statusBackSpec)) statusBackCard

/-- THE TIED CARD OF 'saucierlaw12.UnitsTell'. -/
def unitsTellCard : Claim7 := { stood := { row := unitsTellRow, standIns := [], harness := (true, "376cfa59ce9976eefe8204fa570cbae686a9cb3eab2df7151ab3307522d3a16b"), looks := true }, kinds := [], alts := [], laidByText := true, laidKinds := [.data, .data, .data, .data, .pinned], laidTests := true, laidLooks := .later }
def UnitsTellCardSaid : Prop := Claim7.holds Tryd.pinned (.plain (OpenSpec.ofChange unitsTellSpec)) unitsTellCard

/-- THE TIED CARD OF 'saucierlaw12.UnitsBack'. -/
def unitsBackCard : Claim7 := { stood := { row := unitsBackRow, standIns := [], harness := (true, "376cfa59ce9976eefe8204fa570cbae686a9cb3eab2df7151ab3307522d3a16b"), looks := true }, kinds := [], alts := [], laidByText := true, laidKinds := [.data, .data, .data, .data, .pinned], laidTests := true, laidLooks := .later }
def UnitsBackCardSaid : Prop := Claim7.holds Tryd.pinned (.plain (OpenSpec.ofChange unitsBackSpec)) unitsBackCard

/-- THE SECOND FORM's CARD OF 'saucierlaw13.LexTells'. -/
def lexTellsUptoCard : Claim7 := { stood := { row := lexTellsUptoRow, standIns := [], harness := (true, "376cfa59ce9976eefe8204fa570cbae686a9cb3eab2df7151ab3307522d3a16b"), looks := true }, kinds := [], alts := [], laidByText := true, laidKinds := [.data, .pinned], laidTests := true, laidLooks := .later }
def LexTellsUptoCardSaid : Prop := Claim7.holds Tryd.pinned (.plain (OpenSpec.upto lexTellsSpec)) lexTellsUptoCard

/-- THE SECOND FORM's CARD OF 'saucierlaw13.LexKinds'. -/
def lexKindsUptoCard : Claim7 := { stood := { row := lexKindsUptoRow, standIns := [], harness := (true, "376cfa59ce9976eefe8204fa570cbae686a9cb3eab2df7151ab3307522d3a16b"), looks := true }, kinds := [], alts := [], laidByText := true, laidKinds := [.data, .pinned], laidTests := true, laidLooks := .later }
def LexKindsUptoCardSaid : Prop := Claim7.holds Tryd.pinned (.plain (OpenSpec.upto lexKindsSpec)) lexKindsUptoCard

/-- THE SECOND FORM's CARD OF 'saucierlaw13.LexBlank'. -/
def lexBlankUptoCard : Claim7 := { stood := { row := lexBlankUptoRow, standIns := [], harness := (true, "376cfa59ce9976eefe8204fa570cbae686a9cb3eab2df7151ab3307522d3a16b"), looks := true }, kinds := [], alts := [], laidByText := true, laidKinds := [.data, .pinned], laidTests := true, laidLooks := .later }
def LexBlankUptoCardSaid : Prop := Claim7.holds Tryd.pinned (.plain (OpenSpec.upto lexBlankSpec)) lexBlankUptoCard

/-- THE SECOND FORM's CARD OF 'saucierlaw13.LexStands'. -/
def lexStandsUptoCard : Claim7 := { stood := { row := lexStandsUptoRow, standIns := [], harness := (true, "376cfa59ce9976eefe8204fa570cbae686a9cb3eab2df7151ab3307522d3a16b"), looks := true }, kinds := [], alts := [], laidByText := true, laidKinds := [.data, .pinned], laidTests := true, laidLooks := .later }
def LexStandsUptoCardSaid : Prop := Claim7.holds Tryd.pinned (.plain (OpenSpec.upto lexStandsSpec)) lexStandsUptoCard

/-- THE SECOND FORM's CARD OF 'saucierlaw28.StatusWrong'. -/
def statusWrongUptoCard : Claim7 := { stood := { row := statusWrongUptoRow, standIns := [], harness := (true, "376cfa59ce9976eefe8204fa570cbae686a9cb3eab2df7151ab3307522d3a16b"), looks := true }, kinds := [], alts := [], laidByText := true, laidKinds := [.data, .data, .data, .sentinel, .sentinel], laidTests := true, laidLooks := .later }
def StatusWrongUptoCardSaid : Prop := Claim7.holds Tryd.pinned (.plain (OpenSpec.upto statusWrongSpec)) statusWrongUptoCard

/-- THE SECOND FORM's CARD OF 'saucierlaw28.StatusBack'. -/
def statusBackUptoCard : Claim7 := { stood := { row := statusBackUptoRow, standIns := [], harness := (true, "376cfa59ce9976eefe8204fa570cbae686a9cb3eab2df7151ab3307522d3a16b"), looks := true }, kinds := [], alts := [], laidByText := true, laidKinds := [.data, .data, .data, .sentinel, .sentinel], laidTests := true, laidLooks := .later }
def StatusBackUptoCardSaid : Prop := Claim7.holds Tryd.pinned (.plain (OpenSpec.upto statusBackSpec)) statusBackUptoCard

/-- THE SECOND FORM's CARD OF 'saucierlaw12.UnitsTell'. -/
def unitsTellUptoCard : Claim7 := { stood := { row := unitsTellUptoRow, standIns := [], harness := (true, "376cfa59ce9976eefe8204fa570cbae686a9cb3eab2df7151ab3307522d3a16b"), looks := true }, kinds := [], alts := [], laidByText := true, laidKinds := [.data, .data, .data, .data, .pinned], laidTests := true, laidLooks := .later }
def UnitsTellUptoCardSaid : Prop := Claim7.holds Tryd.pinned (.plain (OpenSpec.upto unitsTellSpec)) unitsTellUptoCard

/-- THE SECOND FORM's CARD OF 'saucierlaw12.UnitsBack'. -/
def unitsBackUptoCard : Claim7 := { stood := { row := unitsBackUptoRow, standIns := [], harness := (true, "376cfa59ce9976eefe8204fa570cbae686a9cb3eab2df7151ab3307522d3a16b"), looks := true }, kinds := [], alts := [], laidByText := true, laidKinds := [.data, .data, .data, .data, .pinned], laidTests := true, laidLooks := .later }
def UnitsBackUptoCardSaid : Prop := Claim7.holds Tryd.pinned (.plain (OpenSpec.upto unitsBackSpec)) unitsBackUptoCard
end Rows
end Go.Proofs.YtempdfdmcgolbaaDoor
