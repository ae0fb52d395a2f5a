/-
  DERIVED. GIVEN WITH THE SEED: THE CARDS: each row of YtnamnibaedolaaaGreatDoorRows.lean that lists a variable, with what it lists TIED to the program's text (the seventh form; the later family's looks); each row that meets fmt, with fmt's text TOLD by the authors' own Lean function (tested against real Go, not proved from fmt's source: count such statements apart). THE CARD IS WHAT COUNTS. Prove the row's statement (the work); the ties are given (YtnamnibaedolaaaGreatDoorTie.lean); close each card by the builder's one call (the guide's Derived/Test/ToyasCard.lean, 'card_holds'). Laid BY PROGRAM, IN A SANDBOX (cutbox-door.mjs). By AI agents, Wed Nov 11 2026. No macro, syntax, notation, axiom, sorry.
-/
import Derived.Test.YtnamnibaedolaaaGreatDoorRows
import GoSem.ClaimSeven
namespace Go.Proofs.YtnamnibaedolaaaGreatDoor
namespace Rows

/-- THE TIED CARD OF 'saucierlaw16.PlanText'. -/
def planTextCard : Claim7 := { stood := { row := planTextRow, standIns := [], harness := (true, "762911133b85e2729daa22c208e8209bde2cb46a0296a61be816720d0daa067e"), looks := false }, kinds := [], alts := [], laidByText := true, laidKinds := [.data, .data, .data, .data, .pinned], laidTests := true, laidLooks := .later }
def PlanTextCardSaid : Prop := Claim7.holds Tryz.pinned (.plain (OpenSpec.ofChange planTextSpec)) planTextCard

/-- THE TIED CARD OF 'saucierlaw14.RecipeTells'. -/
def recipeTellsCard : Claim7 := { stood := { row := recipeTellsRow, standIns := [], harness := (true, "762911133b85e2729daa22c208e8209bde2cb46a0296a61be816720d0daa067e"), looks := false }, kinds := [], alts := [], laidByText := true, laidKinds := [.data, .data, .data, .data, .pinned], laidTests := true, laidLooks := .later }
def RecipeTellsCardSaid : Prop := Claim7.holds Tryz.pinned (.plain (OpenSpec.ofChange recipeTellsSpec)) recipeTellsCard

/-- THE TIED CARD OF 'saucierlaw14.RecipeBack'. -/
def recipeBackCard : Claim7 := { stood := { row := recipeBackRow, standIns := [], harness := (true, "762911133b85e2729daa22c208e8209bde2cb46a0296a61be816720d0daa067e"), looks := false }, kinds := [], alts := [], laidByText := true, laidKinds := [.data, .data, .data, .data, .pinned], laidTests := true, laidLooks := .later }
def RecipeBackCardSaid : Prop := Claim7.holds Tryz.pinned (.plain (OpenSpec.ofChange recipeBackSpec)) recipeBackCard

/-- THE TIED CARD OF 'saucierlaw14.RecipeWrong'. -/
def recipeWrongCard : Claim7 := { stood := { row := recipeWrongRow, standIns := [], harness := (true, "762911133b85e2729daa22c208e8209bde2cb46a0296a61be816720d0daa067e"), looks := false }, kinds := [], alts := [], laidByText := true, laidKinds := [.data, .data, .data, .data, .pinned], laidTests := true, laidLooks := .later }
def RecipeWrongCardSaid : Prop := Claim7.holds Tryz.pinned (.plain (OpenSpec.ofChange recipeWrongSpec)) recipeWrongCard

/-- THE TIED CARD OF 'saucierlaw14.RecipeLines'. -/
def recipeLinesCard : Claim7 := { stood := { row := recipeLinesRow, standIns := [], harness := (true, "762911133b85e2729daa22c208e8209bde2cb46a0296a61be816720d0daa067e"), looks := false }, kinds := [], alts := [], laidByText := true, laidKinds := [.data, .data, .data, .data, .pinned], laidTests := true, laidLooks := .later }
def RecipeLinesCardSaid : Prop := Claim7.holds Tryz.pinned (.plain (OpenSpec.ofChange recipeLinesSpec)) recipeLinesCard

/-- THE SECOND FORM's CARD OF 'saucierlaw16.PlanText'. -/
def planTextUptoCard : Claim7 := { stood := { row := planTextUptoRow, standIns := [], harness := (true, "762911133b85e2729daa22c208e8209bde2cb46a0296a61be816720d0daa067e"), looks := false }, kinds := [], alts := [], laidByText := true, laidKinds := [.data, .data, .data, .data, .pinned], laidTests := true, laidLooks := .later }
def PlanTextUptoCardSaid : Prop := Claim7.holds Tryz.pinned (.plain (OpenSpec.upto planTextSpec)) planTextUptoCard

/-- THE SECOND FORM's CARD OF 'saucierlaw14.RecipeTells'. -/
def recipeTellsUptoCard : Claim7 := { stood := { row := recipeTellsUptoRow, standIns := [], harness := (true, "762911133b85e2729daa22c208e8209bde2cb46a0296a61be816720d0daa067e"), looks := false }, kinds := [], alts := [], laidByText := true, laidKinds := [.data, .data, .data, .data, .pinned], laidTests := true, laidLooks := .later }
def RecipeTellsUptoCardSaid : Prop := Claim7.holds Tryz.pinned (.plain (OpenSpec.upto recipeTellsSpec)) recipeTellsUptoCard

/-- THE SECOND FORM's CARD OF 'saucierlaw14.RecipeBack'. -/
def recipeBackUptoCard : Claim7 := { stood := { row := recipeBackUptoRow, standIns := [], harness := (true, "762911133b85e2729daa22c208e8209bde2cb46a0296a61be816720d0daa067e"), looks := false }, kinds := [], alts := [], laidByText := true, laidKinds := [.data, .data, .data, .data, .pinned], laidTests := true, laidLooks := .later }
def RecipeBackUptoCardSaid : Prop := Claim7.holds Tryz.pinned (.plain (OpenSpec.upto recipeBackSpec)) recipeBackUptoCard

/-- THE SECOND FORM's CARD OF 'saucierlaw14.RecipeWrong'. -/
def recipeWrongUptoCard : Claim7 := { stood := { row := recipeWrongUptoRow, standIns := [], harness := (true, "762911133b85e2729daa22c208e8209bde2cb46a0296a61be816720d0daa067e"), looks := false }, kinds := [], alts := [], laidByText := true, laidKinds := [.data, .data, .data, .data, .pinned], laidTests := true, laidLooks := .later }
def RecipeWrongUptoCardSaid : Prop := Claim7.holds Tryz.pinned (.plain (OpenSpec.upto recipeWrongSpec)) recipeWrongUptoCard

/-- THE SECOND FORM's CARD OF 'saucierlaw14.RecipeLines'. -/
def recipeLinesUptoCard : Claim7 := { stood := { row := recipeLinesUptoRow, standIns := [], harness := (true, "762911133b85e2729daa22c208e8209bde2cb46a0296a61be816720d0daa067e"), looks := false }, kinds := [], alts := [], laidByText := true, laidKinds := [.data, .data, .data, .data, .pinned], laidTests := true, laidLooks := .later }
def RecipeLinesUptoCardSaid : Prop := Claim7.holds Tryz.pinned (.plain (OpenSpec.upto recipeLinesSpec)) recipeLinesUptoCard
end Rows
end Go.Proofs.YtnamnibaedolaaaGreatDoor
