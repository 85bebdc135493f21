/-
  DERIVED. GIVEN WITH THE SEED: THE CARDS: each row of YtmjlmloomkodpaaGreatDoorRows.lean that lists a variable, with what it lists TIED to the program's text (the seventh form; the later family's looks); each row that meets fmt, with fmt's text TOLD by the authors' own Lean function (tested against real Go, not proved from fmt's source: count such statements apart). THE CARD IS WHAT COUNTS. Prove the row's statement (the work); the ties are given (YtmjlmloomkodpaaGreatDoorTie.lean); close each card by the builder's one call (the guide's Derived/Test/ToyasCard.lean, 'card_holds'). Laid BY PROGRAM, IN A SANDBOX (cutbox-door.mjs). By AI agents, Wed Nov 11 2026. No macro, syntax, notation, axiom, sorry.
-/
import Derived.Test.YtmjlmloomkodpaaGreatDoorRows
import GoSem.ClaimSeven
namespace Go.Proofs.YtmjlmloomkodpaaGreatDoor
namespace Rows

/-- THE TIED CARD OF 'laws.FnExactSureMatches'. -/
def fnExactSureMatchesCard : Claim7 := { stood := { row := fnExactSureMatchesRow, standIns := [], harness := (true, "da4fb11089f47a4bb3075a9e5a51c057b8a00d85dd148b5fb73854e0f71a4f4b"), looks := true }, kinds := [], alts := [], laidByText := true, laidKinds := [.data], laidTests := true, laidLooks := .later }
def FnExactSureMatchesCardSaid : Prop := Claim7.holds Tryz.pinned (.plain (OpenSpec.ofChange fnExactSureMatchesSpec)) fnExactSureMatchesCard

/-- THE TIED CARD OF 'laws.FnExactSureTaken'. -/
def fnExactSureTakenCard : Claim7 := { stood := { row := fnExactSureTakenRow, standIns := [], harness := (true, "da4fb11089f47a4bb3075a9e5a51c057b8a00d85dd148b5fb73854e0f71a4f4b"), looks := true }, kinds := [], alts := [], laidByText := true, laidKinds := [.data], laidTests := true, laidLooks := .later }
def FnExactSureTakenCardSaid : Prop := Claim7.holds Tryz.pinned (.plain (OpenSpec.ofChange fnExactSureTakenSpec)) fnExactSureTakenCard

/-- THE TIED CARD OF 'laws.FnExactFirstSolution'. -/
def fnExactFirstSolutionCard : Claim7 := { stood := { row := fnExactFirstSolutionRow, standIns := [], harness := (true, "da4fb11089f47a4bb3075a9e5a51c057b8a00d85dd148b5fb73854e0f71a4f4b"), looks := true }, kinds := [], alts := [], laidByText := true, laidKinds := [.data], laidTests := true, laidLooks := .later }
def FnExactFirstSolutionCardSaid : Prop := Claim7.holds Tryz.pinned (.plain (OpenSpec.ofChange fnExactFirstSolutionSpec)) fnExactFirstSolutionCard

/-- THE TIED CARD OF 'laws.FnExactSolutions'. -/
def fnExactSolutionsCard : Claim7 := { stood := { row := fnExactSolutionsRow, standIns := [], harness := (true, "da4fb11089f47a4bb3075a9e5a51c057b8a00d85dd148b5fb73854e0f71a4f4b"), looks := true }, kinds := [], alts := [], laidByText := true, laidKinds := [.data], laidTests := true, laidLooks := .later }
def FnExactSolutionsCardSaid : Prop := Claim7.holds Tryz.pinned (.plain (OpenSpec.ofChange fnExactSolutionsSpec)) fnExactSolutionsCard

/-- THE TIED CARD OF 'laws.FnExactCountTruly'. -/
def fnExactCountTrulyCard : Claim7 := { stood := { row := fnExactCountTrulyRow, standIns := [], harness := (true, "da4fb11089f47a4bb3075a9e5a51c057b8a00d85dd148b5fb73854e0f71a4f4b"), looks := true }, kinds := [], alts := [], laidByText := true, laidKinds := [.data], laidTests := true, laidLooks := .later }
def FnExactCountTrulyCardSaid : Prop := Claim7.holds Tryz.pinned (.plain (OpenSpec.ofChange fnExactCountTrulySpec)) fnExactCountTrulyCard

/-- THE TIED CARD OF 'laws.FnExactParsePuzzle'. -/
def fnExactParsePuzzleCard : Claim7 := { stood := { row := fnExactParsePuzzleRow, standIns := [], harness := (true, "da4fb11089f47a4bb3075a9e5a51c057b8a00d85dd148b5fb73854e0f71a4f4b"), looks := true }, kinds := [], alts := [], laidByText := true, laidKinds := [.data, .data, .data, .data, .sentinel, .sentinel, .pinned], laidTests := true, laidLooks := .later }
def FnExactParsePuzzleCardSaid : Prop := Claim7.holds Tryz.pinned (.plain (OpenSpec.ofChange fnExactParsePuzzleSpec)) fnExactParsePuzzleCard

/-- THE SECOND FORM's CARD OF 'laws.FnExactSureMatches'. -/
def fnExactSureMatchesUptoCard : Claim7 := { stood := { row := fnExactSureMatchesUptoRow, standIns := [], harness := (true, "da4fb11089f47a4bb3075a9e5a51c057b8a00d85dd148b5fb73854e0f71a4f4b"), looks := true }, kinds := [], alts := [], laidByText := true, laidKinds := [.data], laidTests := true, laidLooks := .later }
def FnExactSureMatchesUptoCardSaid : Prop := Claim7.holds Tryz.pinned (.plain (OpenSpec.upto fnExactSureMatchesSpec)) fnExactSureMatchesUptoCard

/-- THE SECOND FORM's CARD OF 'laws.FnExactSureTaken'. -/
def fnExactSureTakenUptoCard : Claim7 := { stood := { row := fnExactSureTakenUptoRow, standIns := [], harness := (true, "da4fb11089f47a4bb3075a9e5a51c057b8a00d85dd148b5fb73854e0f71a4f4b"), looks := true }, kinds := [], alts := [], laidByText := true, laidKinds := [.data], laidTests := true, laidLooks := .later }
def FnExactSureTakenUptoCardSaid : Prop := Claim7.holds Tryz.pinned (.plain (OpenSpec.upto fnExactSureTakenSpec)) fnExactSureTakenUptoCard

/-- THE SECOND FORM's CARD OF 'laws.FnExactFirstSolution'. -/
def fnExactFirstSolutionUptoCard : Claim7 := { stood := { row := fnExactFirstSolutionUptoRow, standIns := [], harness := (true, "da4fb11089f47a4bb3075a9e5a51c057b8a00d85dd148b5fb73854e0f71a4f4b"), looks := true }, kinds := [], alts := [], laidByText := true, laidKinds := [.data], laidTests := true, laidLooks := .later }
def FnExactFirstSolutionUptoCardSaid : Prop := Claim7.holds Tryz.pinned (.plain (OpenSpec.upto fnExactFirstSolutionSpec)) fnExactFirstSolutionUptoCard

/-- THE SECOND FORM's CARD OF 'laws.FnExactSolutions'. -/
def fnExactSolutionsUptoCard : Claim7 := { stood := { row := fnExactSolutionsUptoRow, standIns := [], harness := (true, "da4fb11089f47a4bb3075a9e5a51c057b8a00d85dd148b5fb73854e0f71a4f4b"), looks := true }, kinds := [], alts := [], laidByText := true, laidKinds := [.data], laidTests := true, laidLooks := .later }
def FnExactSolutionsUptoCardSaid : Prop := Claim7.holds Tryz.pinned (.plain (OpenSpec.upto fnExactSolutionsSpec)) fnExactSolutionsUptoCard

/-- THE SECOND FORM's CARD OF 'laws.FnExactCountTruly'. -/
def fnExactCountTrulyUptoCard : Claim7 := { stood := { row := fnExactCountTrulyUptoRow, standIns := [], harness := (true, "da4fb11089f47a4bb3075a9e5a51c057b8a00d85dd148b5fb73854e0f71a4f4b"), looks := true }, kinds := [], alts := [], laidByText := true, laidKinds := [.data], laidTests := true, laidLooks := .later }
def FnExactCountTrulyUptoCardSaid : Prop := Claim7.holds Tryz.pinned (.plain (OpenSpec.upto fnExactCountTrulySpec)) fnExactCountTrulyUptoCard

/-- THE SECOND FORM's CARD OF 'laws.FnExactParsePuzzle'. -/
def fnExactParsePuzzleUptoCard : Claim7 := { stood := { row := fnExactParsePuzzleUptoRow, standIns := [], harness := (true, "da4fb11089f47a4bb3075a9e5a51c057b8a00d85dd148b5fb73854e0f71a4f4b"), looks := true }, kinds := [], alts := [], laidByText := true, laidKinds := [.data, .data, .data, .data, .sentinel, .sentinel, .pinned], laidTests := true, laidLooks := .later }
def FnExactParsePuzzleUptoCardSaid : Prop := Claim7.holds Tryz.pinned (.plain (OpenSpec.upto fnExactParsePuzzleSpec)) fnExactParsePuzzleUptoCard
end Rows
end Go.Proofs.YtmjlmloomkodpaaGreatDoor
