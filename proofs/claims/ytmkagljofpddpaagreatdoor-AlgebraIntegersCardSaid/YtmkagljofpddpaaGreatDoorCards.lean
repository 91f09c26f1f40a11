/-
  DERIVED. GIVEN WITH THE SEED: THE CARDS: each row of YtmkagljofpddpaaGreatDoorRows.lean that lists a variable, with what it lists TIED to the program's text (the seventh form; the later family's looks); each row that meets fmt, with fmt's text TOLD by the authors' own Lean function (tested against real Go, not proved from fmt's source: count such statements apart). THE CARD IS WHAT COUNTS. Prove the row's statement (the work); the ties are given (YtmkagljofpddpaaGreatDoorTie.lean); close each card by the builder's one call (the guide's Derived/Test/ToyasCard.lean, 'card_holds'). Laid BY PROGRAM, IN A SANDBOX (cutbox-door.mjs). By AI agents, Wed Nov 11 2026. No macro, syntax, notation, axiom, sorry.
-/
import Derived.Test.YtmkagljofpddpaaGreatDoorRows
import GoSem.ClaimSeven
namespace Go.Proofs.YtmkagljofpddpaaGreatDoor
namespace Rows

/-- THE TIED CARD OF 'talismanlaw01.AlgebraRanks'. -/
def algebraRanksCard : Claim7 := { stood := { row := algebraRanksRow, standIns := [], harness := (true, "85bb9aa69ad3b31dbd3b3f77a125f770588f5fc743e7111cd0f55a27e279a77f"), looks := true }, kinds := [], alts := [], laidByText := true, laidKinds := [.data, .data, .data, .data, .sentinel, .sentinel, .pinned], laidTests := true, laidLooks := .later }
def AlgebraRanksCardSaid : Prop := Claim7.holds Tryz.pinned (.plain (OpenSpec.ofChange algebraRanksSpec)) algebraRanksCard

/-- THE TIED CARD OF 'talismanlaw01.AlgebraDeterminants'. -/
def algebraDeterminantsCard : Claim7 := { stood := { row := algebraDeterminantsRow, standIns := [], harness := (true, "85bb9aa69ad3b31dbd3b3f77a125f770588f5fc743e7111cd0f55a27e279a77f"), looks := true }, kinds := [], alts := [], laidByText := true, laidKinds := [.data, .data, .data, .data, .sentinel, .sentinel, .pinned], laidTests := true, laidLooks := .later }
def AlgebraDeterminantsCardSaid : Prop := Claim7.holds Tryz.pinned (.plain (OpenSpec.ofChange algebraDeterminantsSpec)) algebraDeterminantsCard

/-- THE TIED CARD OF 'talismanlaw01.AlgebraIntegers'. -/
def algebraIntegersCard : Claim7 := { stood := { row := algebraIntegersRow, standIns := [], harness := (true, "85bb9aa69ad3b31dbd3b3f77a125f770588f5fc743e7111cd0f55a27e279a77f"), looks := true }, kinds := [], alts := [], laidByText := true, laidKinds := [.data, .data, .data, .data, .sentinel, .sentinel, .pinned], laidTests := true, laidLooks := .later }
def AlgebraIntegersCardSaid : Prop := Claim7.holds Tryz.pinned (.plain (OpenSpec.ofChange algebraIntegersSpec)) algebraIntegersCard

/-- THE TIED CARD OF 'talismanlaw01.AlgebraPlaces'. -/
def algebraPlacesCard : Claim7 := { stood := { row := algebraPlacesRow, standIns := [], harness := (true, "85bb9aa69ad3b31dbd3b3f77a125f770588f5fc743e7111cd0f55a27e279a77f"), looks := true }, kinds := [], alts := [], laidByText := true, laidKinds := [.data, .data, .data, .data, .sentinel, .sentinel, .pinned], laidTests := true, laidLooks := .later }
def AlgebraPlacesCardSaid : Prop := Claim7.holds Tryz.pinned (.plain (OpenSpec.ofChange algebraPlacesSpec)) algebraPlacesCard

/-- THE TIED CARD OF 'talismanlaw01.AlgebraModulo'. -/
def algebraModuloCard : Claim7 := { stood := { row := algebraModuloRow, standIns := [], harness := (true, "85bb9aa69ad3b31dbd3b3f77a125f770588f5fc743e7111cd0f55a27e279a77f"), looks := true }, kinds := [], alts := [], laidByText := true, laidKinds := [.data, .data, .data, .data, .sentinel, .sentinel, .pinned], laidTests := true, laidLooks := .later }
def AlgebraModuloCardSaid : Prop := Claim7.holds Tryz.pinned (.plain (OpenSpec.ofChange algebraModuloSpec)) algebraModuloCard

/-- THE TIED CARD OF 'talismanlaw01.AlgebraVolumes'. -/
def algebraVolumesCard : Claim7 := { stood := { row := algebraVolumesRow, standIns := [], harness := (true, "85bb9aa69ad3b31dbd3b3f77a125f770588f5fc743e7111cd0f55a27e279a77f"), looks := true }, kinds := [], alts := [], laidByText := true, laidKinds := [.data, .data, .data, .data, .sentinel, .sentinel, .pinned], laidTests := true, laidLooks := .later }
def AlgebraVolumesCardSaid : Prop := Claim7.holds Tryz.pinned (.plain (OpenSpec.ofChange algebraVolumesSpec)) algebraVolumesCard

/-- THE TIED CARD OF 'talismanlaw01.AlgebraMatrices'. -/
def algebraMatricesCard : Claim7 := { stood := { row := algebraMatricesRow, standIns := [], harness := (true, "85bb9aa69ad3b31dbd3b3f77a125f770588f5fc743e7111cd0f55a27e279a77f"), looks := true }, kinds := [], alts := [], laidByText := true, laidKinds := [.data, .data, .data, .data, .sentinel, .sentinel, .pinned], laidTests := true, laidLooks := .later }
def AlgebraMatricesCardSaid : Prop := Claim7.holds Tryz.pinned (.plain (OpenSpec.ofChange algebraMatricesSpec)) algebraMatricesCard

/-- THE TIED CARD OF 'talismanlaw01.AlgebraNullSpaces'. -/
def algebraNullSpacesCard : Claim7 := { stood := { row := algebraNullSpacesRow, standIns := [], harness := (true, "85bb9aa69ad3b31dbd3b3f77a125f770588f5fc743e7111cd0f55a27e279a77f"), looks := true }, kinds := [], alts := [], laidByText := true, laidKinds := [.data, .data, .data, .data, .sentinel, .sentinel, .pinned], laidTests := true, laidLooks := .later }
def AlgebraNullSpacesCardSaid : Prop := Claim7.holds Tryz.pinned (.plain (OpenSpec.ofChange algebraNullSpacesSpec)) algebraNullSpacesCard

/-- THE TIED CARD OF 'talismanlaw01.AlgebraTwoWays'. -/
def algebraTwoWaysCard : Claim7 := { stood := { row := algebraTwoWaysRow, standIns := [], harness := (true, "85bb9aa69ad3b31dbd3b3f77a125f770588f5fc743e7111cd0f55a27e279a77f"), looks := true }, kinds := [], alts := [], laidByText := true, laidKinds := [.data, .data, .data, .data, .sentinel, .sentinel, .pinned], laidTests := true, laidLooks := .later }
def AlgebraTwoWaysCardSaid : Prop := Claim7.holds Tryz.pinned (.plain (OpenSpec.ofChange algebraTwoWaysSpec)) algebraTwoWaysCard

/-- THE TIED CARD OF 'talismanlaw01.AlgebraPerms'. -/
def algebraPermsCard : Claim7 := { stood := { row := algebraPermsRow, standIns := [], harness := (true, "85bb9aa69ad3b31dbd3b3f77a125f770588f5fc743e7111cd0f55a27e279a77f"), looks := true }, kinds := [], alts := [], laidByText := true, laidKinds := [.data, .data, .data, .data, .sentinel, .sentinel, .pinned], laidTests := true, laidLooks := .later }
def AlgebraPermsCardSaid : Prop := Claim7.holds Tryz.pinned (.plain (OpenSpec.ofChange algebraPermsSpec)) algebraPermsCard

/-- THE TIED CARD OF 'talismanlaw01.AlgebraGroups'. -/
def algebraGroupsCard : Claim7 := { stood := { row := algebraGroupsRow, standIns := [], harness := (true, "85bb9aa69ad3b31dbd3b3f77a125f770588f5fc743e7111cd0f55a27e279a77f"), looks := true }, kinds := [], alts := [], laidByText := true, laidKinds := [.data, .data, .data, .data, .sentinel, .sentinel, .pinned], laidTests := true, laidLooks := .later }
def AlgebraGroupsCardSaid : Prop := Claim7.holds Tryz.pinned (.plain (OpenSpec.ofChange algebraGroupsSpec)) algebraGroupsCard

/-- THE TIED CARD OF 'talismanlaw01.AlgebraSolves'. -/
def algebraSolvesCard : Claim7 := { stood := { row := algebraSolvesRow, standIns := [], harness := (true, "85bb9aa69ad3b31dbd3b3f77a125f770588f5fc743e7111cd0f55a27e279a77f"), looks := true }, kinds := [], alts := [], laidByText := true, laidKinds := [.data, .data, .data, .data, .sentinel, .sentinel, .pinned], laidTests := true, laidLooks := .later }
def AlgebraSolvesCardSaid : Prop := Claim7.holds Tryz.pinned (.plain (OpenSpec.ofChange algebraSolvesSpec)) algebraSolvesCard

/-- THE TIED CARD OF 'talismanlaw01.AlgebraEquations'. -/
def algebraEquationsCard : Claim7 := { stood := { row := algebraEquationsRow, standIns := [], harness := (true, "85bb9aa69ad3b31dbd3b3f77a125f770588f5fc743e7111cd0f55a27e279a77f"), looks := true }, kinds := [], alts := [], laidByText := true, laidKinds := [.data, .data, .data, .data, .sentinel, .sentinel, .pinned], laidTests := true, laidLooks := .later }
def AlgebraEquationsCardSaid : Prop := Claim7.holds Tryz.pinned (.plain (OpenSpec.ofChange algebraEquationsSpec)) algebraEquationsCard

/-- THE TIED CARD OF 'talismanlaw01.AlgebraNumbers'. -/
def algebraNumbersCard : Claim7 := { stood := { row := algebraNumbersRow, standIns := [], harness := (true, "85bb9aa69ad3b31dbd3b3f77a125f770588f5fc743e7111cd0f55a27e279a77f"), looks := true }, kinds := [], alts := [], laidByText := true, laidKinds := [.data, .data, .data, .data, .sentinel, .sentinel, .pinned], laidTests := true, laidLooks := .later }
def AlgebraNumbersCardSaid : Prop := Claim7.holds Tryz.pinned (.plain (OpenSpec.ofChange algebraNumbersSpec)) algebraNumbersCard

/-- THE SECOND FORM's CARD OF 'talismanlaw01.AlgebraRanks'. -/
def algebraRanksUptoCard : Claim7 := { stood := { row := algebraRanksUptoRow, standIns := [], harness := (true, "85bb9aa69ad3b31dbd3b3f77a125f770588f5fc743e7111cd0f55a27e279a77f"), looks := true }, kinds := [], alts := [], laidByText := true, laidKinds := [.data, .data, .data, .data, .sentinel, .sentinel, .pinned], laidTests := true, laidLooks := .later }
def AlgebraRanksUptoCardSaid : Prop := Claim7.holds Tryz.pinned (.plain (OpenSpec.upto algebraRanksSpec)) algebraRanksUptoCard

/-- THE SECOND FORM's CARD OF 'talismanlaw01.AlgebraDeterminants'. -/
def algebraDeterminantsUptoCard : Claim7 := { stood := { row := algebraDeterminantsUptoRow, standIns := [], harness := (true, "85bb9aa69ad3b31dbd3b3f77a125f770588f5fc743e7111cd0f55a27e279a77f"), looks := true }, kinds := [], alts := [], laidByText := true, laidKinds := [.data, .data, .data, .data, .sentinel, .sentinel, .pinned], laidTests := true, laidLooks := .later }
def AlgebraDeterminantsUptoCardSaid : Prop := Claim7.holds Tryz.pinned (.plain (OpenSpec.upto algebraDeterminantsSpec)) algebraDeterminantsUptoCard

/-- THE SECOND FORM's CARD OF 'talismanlaw01.AlgebraIntegers'. -/
def algebraIntegersUptoCard : Claim7 := { stood := { row := algebraIntegersUptoRow, standIns := [], harness := (true, "85bb9aa69ad3b31dbd3b3f77a125f770588f5fc743e7111cd0f55a27e279a77f"), looks := true }, kinds := [], alts := [], laidByText := true, laidKinds := [.data, .data, .data, .data, .sentinel, .sentinel, .pinned], laidTests := true, laidLooks := .later }
def AlgebraIntegersUptoCardSaid : Prop := Claim7.holds Tryz.pinned (.plain (OpenSpec.upto algebraIntegersSpec)) algebraIntegersUptoCard

/-- THE SECOND FORM's CARD OF 'talismanlaw01.AlgebraPlaces'. -/
def algebraPlacesUptoCard : Claim7 := { stood := { row := algebraPlacesUptoRow, standIns := [], harness := (true, "85bb9aa69ad3b31dbd3b3f77a125f770588f5fc743e7111cd0f55a27e279a77f"), looks := true }, kinds := [], alts := [], laidByText := true, laidKinds := [.data, .data, .data, .data, .sentinel, .sentinel, .pinned], laidTests := true, laidLooks := .later }
def AlgebraPlacesUptoCardSaid : Prop := Claim7.holds Tryz.pinned (.plain (OpenSpec.upto algebraPlacesSpec)) algebraPlacesUptoCard

/-- THE SECOND FORM's CARD OF 'talismanlaw01.AlgebraModulo'. -/
def algebraModuloUptoCard : Claim7 := { stood := { row := algebraModuloUptoRow, standIns := [], harness := (true, "85bb9aa69ad3b31dbd3b3f77a125f770588f5fc743e7111cd0f55a27e279a77f"), looks := true }, kinds := [], alts := [], laidByText := true, laidKinds := [.data, .data, .data, .data, .sentinel, .sentinel, .pinned], laidTests := true, laidLooks := .later }
def AlgebraModuloUptoCardSaid : Prop := Claim7.holds Tryz.pinned (.plain (OpenSpec.upto algebraModuloSpec)) algebraModuloUptoCard

/-- THE SECOND FORM's CARD OF 'talismanlaw01.AlgebraVolumes'. -/
def algebraVolumesUptoCard : Claim7 := { stood := { row := algebraVolumesUptoRow, standIns := [], harness := (true, "85bb9aa69ad3b31dbd3b3f77a125f770588f5fc743e7111cd0f55a27e279a77f"), looks := true }, kinds := [], alts := [], laidByText := true, laidKinds := [.data, .data, .data, .data, .sentinel, .sentinel, .pinned], laidTests := true, laidLooks := .later }
def AlgebraVolumesUptoCardSaid : Prop := Claim7.holds Tryz.pinned (.plain (OpenSpec.upto algebraVolumesSpec)) algebraVolumesUptoCard

/-- THE SECOND FORM's CARD OF 'talismanlaw01.AlgebraMatrices'. -/
def algebraMatricesUptoCard : Claim7 := { stood := { row := algebraMatricesUptoRow, standIns := [], harness := (true, "85bb9aa69ad3b31dbd3b3f77a125f770588f5fc743e7111cd0f55a27e279a77f"), looks := true }, kinds := [], alts := [], laidByText := true, laidKinds := [.data, .data, .data, .data, .sentinel, .sentinel, .pinned], laidTests := true, laidLooks := .later }
def AlgebraMatricesUptoCardSaid : Prop := Claim7.holds Tryz.pinned (.plain (OpenSpec.upto algebraMatricesSpec)) algebraMatricesUptoCard

/-- THE SECOND FORM's CARD OF 'talismanlaw01.AlgebraNullSpaces'. -/
def algebraNullSpacesUptoCard : Claim7 := { stood := { row := algebraNullSpacesUptoRow, standIns := [], harness := (true, "85bb9aa69ad3b31dbd3b3f77a125f770588f5fc743e7111cd0f55a27e279a77f"), looks := true }, kinds := [], alts := [], laidByText := true, laidKinds := [.data, .data, .data, .data, .sentinel, .sentinel, .pinned], laidTests := true, laidLooks := .later }
def AlgebraNullSpacesUptoCardSaid : Prop := Claim7.holds Tryz.pinned (.plain (OpenSpec.upto algebraNullSpacesSpec)) algebraNullSpacesUptoCard

/-- THE SECOND FORM's CARD OF 'talismanlaw01.AlgebraTwoWays'. -/
def algebraTwoWaysUptoCard : Claim7 := { stood := { row := algebraTwoWaysUptoRow, standIns := [], harness := (true, "85bb9aa69ad3b31dbd3b3f77a125f770588f5fc743e7111cd0f55a27e279a77f"), looks := true }, kinds := [], alts := [], laidByText := true, laidKinds := [.data, .data, .data, .data, .sentinel, .sentinel, .pinned], laidTests := true, laidLooks := .later }
def AlgebraTwoWaysUptoCardSaid : Prop := Claim7.holds Tryz.pinned (.plain (OpenSpec.upto algebraTwoWaysSpec)) algebraTwoWaysUptoCard

/-- THE SECOND FORM's CARD OF 'talismanlaw01.AlgebraPerms'. -/
def algebraPermsUptoCard : Claim7 := { stood := { row := algebraPermsUptoRow, standIns := [], harness := (true, "85bb9aa69ad3b31dbd3b3f77a125f770588f5fc743e7111cd0f55a27e279a77f"), looks := true }, kinds := [], alts := [], laidByText := true, laidKinds := [.data, .data, .data, .data, .sentinel, .sentinel, .pinned], laidTests := true, laidLooks := .later }
def AlgebraPermsUptoCardSaid : Prop := Claim7.holds Tryz.pinned (.plain (OpenSpec.upto algebraPermsSpec)) algebraPermsUptoCard

/-- THE SECOND FORM's CARD OF 'talismanlaw01.AlgebraGroups'. -/
def algebraGroupsUptoCard : Claim7 := { stood := { row := algebraGroupsUptoRow, standIns := [], harness := (true, "85bb9aa69ad3b31dbd3b3f77a125f770588f5fc743e7111cd0f55a27e279a77f"), looks := true }, kinds := [], alts := [], laidByText := true, laidKinds := [.data, .data, .data, .data, .sentinel, .sentinel, .pinned], laidTests := true, laidLooks := .later }
def AlgebraGroupsUptoCardSaid : Prop := Claim7.holds Tryz.pinned (.plain (OpenSpec.upto algebraGroupsSpec)) algebraGroupsUptoCard

/-- THE SECOND FORM's CARD OF 'talismanlaw01.AlgebraSolves'. -/
def algebraSolvesUptoCard : Claim7 := { stood := { row := algebraSolvesUptoRow, standIns := [], harness := (true, "85bb9aa69ad3b31dbd3b3f77a125f770588f5fc743e7111cd0f55a27e279a77f"), looks := true }, kinds := [], alts := [], laidByText := true, laidKinds := [.data, .data, .data, .data, .sentinel, .sentinel, .pinned], laidTests := true, laidLooks := .later }
def AlgebraSolvesUptoCardSaid : Prop := Claim7.holds Tryz.pinned (.plain (OpenSpec.upto algebraSolvesSpec)) algebraSolvesUptoCard

/-- THE SECOND FORM's CARD OF 'talismanlaw01.AlgebraEquations'. -/
def algebraEquationsUptoCard : Claim7 := { stood := { row := algebraEquationsUptoRow, standIns := [], harness := (true, "85bb9aa69ad3b31dbd3b3f77a125f770588f5fc743e7111cd0f55a27e279a77f"), looks := true }, kinds := [], alts := [], laidByText := true, laidKinds := [.data, .data, .data, .data, .sentinel, .sentinel, .pinned], laidTests := true, laidLooks := .later }
def AlgebraEquationsUptoCardSaid : Prop := Claim7.holds Tryz.pinned (.plain (OpenSpec.upto algebraEquationsSpec)) algebraEquationsUptoCard

/-- THE SECOND FORM's CARD OF 'talismanlaw01.AlgebraNumbers'. -/
def algebraNumbersUptoCard : Claim7 := { stood := { row := algebraNumbersUptoRow, standIns := [], harness := (true, "85bb9aa69ad3b31dbd3b3f77a125f770588f5fc743e7111cd0f55a27e279a77f"), looks := true }, kinds := [], alts := [], laidByText := true, laidKinds := [.data, .data, .data, .data, .sentinel, .sentinel, .pinned], laidTests := true, laidLooks := .later }
def AlgebraNumbersUptoCardSaid : Prop := Claim7.holds Tryz.pinned (.plain (OpenSpec.upto algebraNumbersSpec)) algebraNumbersUptoCard
end Rows
end Go.Proofs.YtmkagljofpddpaaGreatDoor
