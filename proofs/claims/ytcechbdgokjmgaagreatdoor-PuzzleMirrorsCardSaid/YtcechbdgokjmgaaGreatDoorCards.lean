/-
  DERIVED. GIVEN WITH THE SEED: THE CARDS: each row of YtcechbdgokjmgaaGreatDoorRows.lean that lists a variable, with what it lists TIED to the program's text (the seventh form; the later family's looks); each row that meets fmt, with fmt's text TOLD by the authors' own Lean function (tested against real Go, not proved from fmt's source: count such statements apart). THE CARD IS WHAT COUNTS. Prove the row's statement (the work); the ties are given (YtcechbdgokjmgaaGreatDoorTie.lean); close each card by the builder's one call (the guide's Derived/Test/ToyasCard.lean, 'card_holds'). Laid BY PROGRAM, IN A SANDBOX (cutbox-door.mjs). By AI agents, Wed Nov 11 2026. No macro, syntax, notation, axiom, sorry.
-/
import Derived.Test.YtcechbdgokjmgaaGreatDoorRows
import GoSem.ClaimSeven
namespace Go.Proofs.YtcechbdgokjmgaaGreatDoor
namespace Rows

/-- THE TIED CARD OF 'talismanlaw09.PuzzleForms'. -/
def puzzleFormsCard : Claim7 := { stood := { row := puzzleFormsRow, standIns := [], harness := (true, "d7f9779eb41a764bbdc5453d28e744ba85039e605ae6f62236fdb6a87690a579"), looks := true }, kinds := [], alts := [], laidByText := true, laidKinds := [.data, .data, .data, .data, .sentinel, .sentinel, .pinned], laidTests := true, laidLooks := .later }
def PuzzleFormsCardSaid : Prop := Claim7.holds Tryz.pinned (.plain (OpenSpec.ofChange puzzleFormsSpec)) puzzleFormsCard

/-- THE TIED CARD OF 'talismanlaw09.PuzzleSolves'. -/
def puzzleSolvesCard : Claim7 := { stood := { row := puzzleSolvesRow, standIns := [], harness := (true, "d7f9779eb41a764bbdc5453d28e744ba85039e605ae6f62236fdb6a87690a579"), looks := true }, kinds := [], alts := [], laidByText := true, laidKinds := [.data, .data, .data, .data, .sentinel, .sentinel, .pinned], laidTests := true, laidLooks := .later }
def PuzzleSolvesCardSaid : Prop := Claim7.holds Tryz.pinned (.plain (OpenSpec.ofChange puzzleSolvesSpec)) puzzleSolvesCard

/-- THE TIED CARD OF 'talismanlaw09.PuzzleSolutions'. -/
def puzzleSolutionsCard : Claim7 := { stood := { row := puzzleSolutionsRow, standIns := [], harness := (true, "d7f9779eb41a764bbdc5453d28e744ba85039e605ae6f62236fdb6a87690a579"), looks := true }, kinds := [], alts := [], laidByText := true, laidKinds := [.data, .data, .data, .data, .sentinel, .sentinel, .pinned], laidTests := true, laidLooks := .later }
def PuzzleSolutionsCardSaid : Prop := Claim7.holds Tryz.pinned (.plain (OpenSpec.ofChange puzzleSolutionsSpec)) puzzleSolutionsCard

/-- THE TIED CARD OF 'talismanlaw09.PuzzleTexts'. -/
def puzzleTextsCard : Claim7 := { stood := { row := puzzleTextsRow, standIns := [], harness := (true, "d7f9779eb41a764bbdc5453d28e744ba85039e605ae6f62236fdb6a87690a579"), looks := true }, kinds := [], alts := [], laidByText := true, laidKinds := [.data, .data, .data, .data, .sentinel, .sentinel, .pinned], laidTests := true, laidLooks := .later }
def PuzzleTextsCardSaid : Prop := Claim7.holds Tryz.pinned (.plain (OpenSpec.ofChange puzzleTextsSpec)) puzzleTextsCard

/-- THE TIED CARD OF 'talismanlaw09.PuzzleUnique'. -/
def puzzleUniqueCard : Claim7 := { stood := { row := puzzleUniqueRow, standIns := [], harness := (true, "d7f9779eb41a764bbdc5453d28e744ba85039e605ae6f62236fdb6a87690a579"), looks := true }, kinds := [], alts := [], laidByText := true, laidKinds := [.data, .data, .data, .data, .sentinel, .sentinel, .pinned], laidTests := true, laidLooks := .later }
def PuzzleUniqueCardSaid : Prop := Claim7.holds Tryz.pinned (.plain (OpenSpec.ofChange puzzleUniqueSpec)) puzzleUniqueCard

/-- THE TIED CARD OF 'talismanlaw09.PuzzleMakes'. -/
def puzzleMakesCard : Claim7 := { stood := { row := puzzleMakesRow, standIns := [], harness := (true, "d7f9779eb41a764bbdc5453d28e744ba85039e605ae6f62236fdb6a87690a579"), looks := true }, kinds := [], alts := [], laidByText := true, laidKinds := [.data, .data, .data, .data, .sentinel, .sentinel, .pinned], laidTests := true, laidLooks := .later }
def PuzzleMakesCardSaid : Prop := Claim7.holds Tryz.pinned (.plain (OpenSpec.ofChange puzzleMakesSpec)) puzzleMakesCard

/-- THE TIED CARD OF 'talismanlaw09.PuzzleMade'. -/
def puzzleMadeCard : Claim7 := { stood := { row := puzzleMadeRow, standIns := [], harness := (true, "d7f9779eb41a764bbdc5453d28e744ba85039e605ae6f62236fdb6a87690a579"), looks := true }, kinds := [], alts := [], laidByText := true, laidKinds := [.data, .data, .data, .data, .sentinel, .sentinel, .pinned], laidTests := true, laidLooks := .later }
def PuzzleMadeCardSaid : Prop := Claim7.holds Tryz.pinned (.plain (OpenSpec.ofChange puzzleMadeSpec)) puzzleMadeCard

/-- THE TIED CARD OF 'talismanlaw09.PuzzleChecks'. -/
def puzzleChecksCard : Claim7 := { stood := { row := puzzleChecksRow, standIns := [], harness := (true, "d7f9779eb41a764bbdc5453d28e744ba85039e605ae6f62236fdb6a87690a579"), looks := true }, kinds := [], alts := [], laidByText := true, laidKinds := [.data, .data, .data, .data, .sentinel, .sentinel, .pinned], laidTests := true, laidLooks := .later }
def PuzzleChecksCardSaid : Prop := Claim7.holds Tryz.pinned (.plain (OpenSpec.ofChange puzzleChecksSpec)) puzzleChecksCard

/-- THE TIED CARD OF 'talismanlaw09.PuzzleDeductions'. -/
def puzzleDeductionsCard : Claim7 := { stood := { row := puzzleDeductionsRow, standIns := [], harness := (true, "d7f9779eb41a764bbdc5453d28e744ba85039e605ae6f62236fdb6a87690a579"), looks := true }, kinds := [], alts := [], laidByText := true, laidKinds := [.data, .data, .data, .data, .sentinel, .sentinel, .pinned], laidTests := true, laidLooks := .later }
def PuzzleDeductionsCardSaid : Prop := Claim7.holds Tryz.pinned (.plain (OpenSpec.ofChange puzzleDeductionsSpec)) puzzleDeductionsCard

/-- THE TIED CARD OF 'talismanlaw09.PuzzleStates'. -/
def puzzleStatesCard : Claim7 := { stood := { row := puzzleStatesRow, standIns := [], harness := (true, "d7f9779eb41a764bbdc5453d28e744ba85039e605ae6f62236fdb6a87690a579"), looks := true }, kinds := [], alts := [], laidByText := true, laidKinds := [.data, .data, .data, .data, .sentinel, .sentinel, .pinned], laidTests := true, laidLooks := .later }
def PuzzleStatesCardSaid : Prop := Claim7.holds Tryz.pinned (.plain (OpenSpec.ofChange puzzleStatesSpec)) puzzleStatesCard

/-- THE TIED CARD OF 'talismanlaw09.PuzzleSound'. -/
def puzzleSoundCard : Claim7 := { stood := { row := puzzleSoundRow, standIns := [], harness := (true, "d7f9779eb41a764bbdc5453d28e744ba85039e605ae6f62236fdb6a87690a579"), looks := true }, kinds := [], alts := [], laidByText := true, laidKinds := [.data, .data, .data, .data, .sentinel, .sentinel, .pinned], laidTests := true, laidLooks := .later }
def PuzzleSoundCardSaid : Prop := Claim7.holds Tryz.pinned (.plain (OpenSpec.ofChange puzzleSoundSpec)) puzzleSoundCard

/-- THE TIED CARD OF 'talismanlaw09.PuzzleImages'. -/
def puzzleImagesCard : Claim7 := { stood := { row := puzzleImagesRow, standIns := [], harness := (true, "d7f9779eb41a764bbdc5453d28e744ba85039e605ae6f62236fdb6a87690a579"), looks := true }, kinds := [], alts := [], laidByText := true, laidKinds := [.data, .data, .data, .data, .sentinel, .sentinel, .pinned], laidTests := true, laidLooks := .later }
def PuzzleImagesCardSaid : Prop := Claim7.holds Tryz.pinned (.plain (OpenSpec.ofChange puzzleImagesSpec)) puzzleImagesCard

/-- THE TIED CARD OF 'talismanlaw09.PuzzleMirrors'. -/
def puzzleMirrorsCard : Claim7 := { stood := { row := puzzleMirrorsRow, standIns := [], harness := (true, "d7f9779eb41a764bbdc5453d28e744ba85039e605ae6f62236fdb6a87690a579"), looks := true }, kinds := [], alts := [], laidByText := true, laidKinds := [.data, .data, .data, .data, .sentinel, .sentinel, .pinned], laidTests := true, laidLooks := .later }
def PuzzleMirrorsCardSaid : Prop := Claim7.holds Tryz.pinned (.plain (OpenSpec.ofChange puzzleMirrorsSpec)) puzzleMirrorsCard

/-- THE SECOND FORM's CARD OF 'talismanlaw09.PuzzleForms'. -/
def puzzleFormsUptoCard : Claim7 := { stood := { row := puzzleFormsUptoRow, standIns := [], harness := (true, "d7f9779eb41a764bbdc5453d28e744ba85039e605ae6f62236fdb6a87690a579"), looks := true }, kinds := [], alts := [], laidByText := true, laidKinds := [.data, .data, .data, .data, .sentinel, .sentinel, .pinned], laidTests := true, laidLooks := .later }
def PuzzleFormsUptoCardSaid : Prop := Claim7.holds Tryz.pinned (.plain (OpenSpec.upto puzzleFormsSpec)) puzzleFormsUptoCard

/-- THE SECOND FORM's CARD OF 'talismanlaw09.PuzzleSolves'. -/
def puzzleSolvesUptoCard : Claim7 := { stood := { row := puzzleSolvesUptoRow, standIns := [], harness := (true, "d7f9779eb41a764bbdc5453d28e744ba85039e605ae6f62236fdb6a87690a579"), looks := true }, kinds := [], alts := [], laidByText := true, laidKinds := [.data, .data, .data, .data, .sentinel, .sentinel, .pinned], laidTests := true, laidLooks := .later }
def PuzzleSolvesUptoCardSaid : Prop := Claim7.holds Tryz.pinned (.plain (OpenSpec.upto puzzleSolvesSpec)) puzzleSolvesUptoCard

/-- THE SECOND FORM's CARD OF 'talismanlaw09.PuzzleSolutions'. -/
def puzzleSolutionsUptoCard : Claim7 := { stood := { row := puzzleSolutionsUptoRow, standIns := [], harness := (true, "d7f9779eb41a764bbdc5453d28e744ba85039e605ae6f62236fdb6a87690a579"), looks := true }, kinds := [], alts := [], laidByText := true, laidKinds := [.data, .data, .data, .data, .sentinel, .sentinel, .pinned], laidTests := true, laidLooks := .later }
def PuzzleSolutionsUptoCardSaid : Prop := Claim7.holds Tryz.pinned (.plain (OpenSpec.upto puzzleSolutionsSpec)) puzzleSolutionsUptoCard

/-- THE SECOND FORM's CARD OF 'talismanlaw09.PuzzleTexts'. -/
def puzzleTextsUptoCard : Claim7 := { stood := { row := puzzleTextsUptoRow, standIns := [], harness := (true, "d7f9779eb41a764bbdc5453d28e744ba85039e605ae6f62236fdb6a87690a579"), looks := true }, kinds := [], alts := [], laidByText := true, laidKinds := [.data, .data, .data, .data, .sentinel, .sentinel, .pinned], laidTests := true, laidLooks := .later }
def PuzzleTextsUptoCardSaid : Prop := Claim7.holds Tryz.pinned (.plain (OpenSpec.upto puzzleTextsSpec)) puzzleTextsUptoCard

/-- THE SECOND FORM's CARD OF 'talismanlaw09.PuzzleUnique'. -/
def puzzleUniqueUptoCard : Claim7 := { stood := { row := puzzleUniqueUptoRow, standIns := [], harness := (true, "d7f9779eb41a764bbdc5453d28e744ba85039e605ae6f62236fdb6a87690a579"), looks := true }, kinds := [], alts := [], laidByText := true, laidKinds := [.data, .data, .data, .data, .sentinel, .sentinel, .pinned], laidTests := true, laidLooks := .later }
def PuzzleUniqueUptoCardSaid : Prop := Claim7.holds Tryz.pinned (.plain (OpenSpec.upto puzzleUniqueSpec)) puzzleUniqueUptoCard

/-- THE SECOND FORM's CARD OF 'talismanlaw09.PuzzleMakes'. -/
def puzzleMakesUptoCard : Claim7 := { stood := { row := puzzleMakesUptoRow, standIns := [], harness := (true, "d7f9779eb41a764bbdc5453d28e744ba85039e605ae6f62236fdb6a87690a579"), looks := true }, kinds := [], alts := [], laidByText := true, laidKinds := [.data, .data, .data, .data, .sentinel, .sentinel, .pinned], laidTests := true, laidLooks := .later }
def PuzzleMakesUptoCardSaid : Prop := Claim7.holds Tryz.pinned (.plain (OpenSpec.upto puzzleMakesSpec)) puzzleMakesUptoCard

/-- THE SECOND FORM's CARD OF 'talismanlaw09.PuzzleMade'. -/
def puzzleMadeUptoCard : Claim7 := { stood := { row := puzzleMadeUptoRow, standIns := [], harness := (true, "d7f9779eb41a764bbdc5453d28e744ba85039e605ae6f62236fdb6a87690a579"), looks := true }, kinds := [], alts := [], laidByText := true, laidKinds := [.data, .data, .data, .data, .sentinel, .sentinel, .pinned], laidTests := true, laidLooks := .later }
def PuzzleMadeUptoCardSaid : Prop := Claim7.holds Tryz.pinned (.plain (OpenSpec.upto puzzleMadeSpec)) puzzleMadeUptoCard

/-- THE SECOND FORM's CARD OF 'talismanlaw09.PuzzleChecks'. -/
def puzzleChecksUptoCard : Claim7 := { stood := { row := puzzleChecksUptoRow, standIns := [], harness := (true, "d7f9779eb41a764bbdc5453d28e744ba85039e605ae6f62236fdb6a87690a579"), looks := true }, kinds := [], alts := [], laidByText := true, laidKinds := [.data, .data, .data, .data, .sentinel, .sentinel, .pinned], laidTests := true, laidLooks := .later }
def PuzzleChecksUptoCardSaid : Prop := Claim7.holds Tryz.pinned (.plain (OpenSpec.upto puzzleChecksSpec)) puzzleChecksUptoCard

/-- THE SECOND FORM's CARD OF 'talismanlaw09.PuzzleDeductions'. -/
def puzzleDeductionsUptoCard : Claim7 := { stood := { row := puzzleDeductionsUptoRow, standIns := [], harness := (true, "d7f9779eb41a764bbdc5453d28e744ba85039e605ae6f62236fdb6a87690a579"), looks := true }, kinds := [], alts := [], laidByText := true, laidKinds := [.data, .data, .data, .data, .sentinel, .sentinel, .pinned], laidTests := true, laidLooks := .later }
def PuzzleDeductionsUptoCardSaid : Prop := Claim7.holds Tryz.pinned (.plain (OpenSpec.upto puzzleDeductionsSpec)) puzzleDeductionsUptoCard

/-- THE SECOND FORM's CARD OF 'talismanlaw09.PuzzleStates'. -/
def puzzleStatesUptoCard : Claim7 := { stood := { row := puzzleStatesUptoRow, standIns := [], harness := (true, "d7f9779eb41a764bbdc5453d28e744ba85039e605ae6f62236fdb6a87690a579"), looks := true }, kinds := [], alts := [], laidByText := true, laidKinds := [.data, .data, .data, .data, .sentinel, .sentinel, .pinned], laidTests := true, laidLooks := .later }
def PuzzleStatesUptoCardSaid : Prop := Claim7.holds Tryz.pinned (.plain (OpenSpec.upto puzzleStatesSpec)) puzzleStatesUptoCard

/-- THE SECOND FORM's CARD OF 'talismanlaw09.PuzzleSound'. -/
def puzzleSoundUptoCard : Claim7 := { stood := { row := puzzleSoundUptoRow, standIns := [], harness := (true, "d7f9779eb41a764bbdc5453d28e744ba85039e605ae6f62236fdb6a87690a579"), looks := true }, kinds := [], alts := [], laidByText := true, laidKinds := [.data, .data, .data, .data, .sentinel, .sentinel, .pinned], laidTests := true, laidLooks := .later }
def PuzzleSoundUptoCardSaid : Prop := Claim7.holds Tryz.pinned (.plain (OpenSpec.upto puzzleSoundSpec)) puzzleSoundUptoCard

/-- THE SECOND FORM's CARD OF 'talismanlaw09.PuzzleImages'. -/
def puzzleImagesUptoCard : Claim7 := { stood := { row := puzzleImagesUptoRow, standIns := [], harness := (true, "d7f9779eb41a764bbdc5453d28e744ba85039e605ae6f62236fdb6a87690a579"), looks := true }, kinds := [], alts := [], laidByText := true, laidKinds := [.data, .data, .data, .data, .sentinel, .sentinel, .pinned], laidTests := true, laidLooks := .later }
def PuzzleImagesUptoCardSaid : Prop := Claim7.holds Tryz.pinned (.plain (OpenSpec.upto puzzleImagesSpec)) puzzleImagesUptoCard

/-- THE SECOND FORM's CARD OF 'talismanlaw09.PuzzleMirrors'. -/
def puzzleMirrorsUptoCard : Claim7 := { stood := { row := puzzleMirrorsUptoRow, standIns := [], harness := (true, "d7f9779eb41a764bbdc5453d28e744ba85039e605ae6f62236fdb6a87690a579"), looks := true }, kinds := [], alts := [], laidByText := true, laidKinds := [.data, .data, .data, .data, .sentinel, .sentinel, .pinned], laidTests := true, laidLooks := .later }
def PuzzleMirrorsUptoCardSaid : Prop := Claim7.holds Tryz.pinned (.plain (OpenSpec.upto puzzleMirrorsSpec)) puzzleMirrorsUptoCard
end Rows
end Go.Proofs.YtcechbdgokjmgaaGreatDoor
