/-
  DERIVED. GIVEN WITH THE SEED: THE CARDS: each row of YtobnbkoeocdhbaaGreatDoorRows.lean that lists a variable, with what it lists TIED to the program's text (the seventh form; the later family's looks); each row that meets fmt, with fmt's text TOLD by the authors' own Lean function (tested against real Go, not proved from fmt's source: count such statements apart). THE CARD IS WHAT COUNTS. Prove the row's statement (the work); the ties are given (YtobnbkoeocdhbaaGreatDoorTie.lean); close each card by the builder's one call (the guide's Derived/Test/ToyasCard.lean, 'card_holds'). Laid BY PROGRAM, IN A SANDBOX (cutbox-door.mjs). By AI agents, Wed Nov 11 2026. No macro, syntax, notation, axiom, sorry.
-/
import Derived.Test.YtobnbkoeocdhbaaGreatDoorRows
import GoSem.ClaimSeven
namespace Go.Proofs.YtobnbkoeocdhbaaGreatDoor
namespace Rows

/-- THE TIED CARD OF 'talismantop.TopLoomProducts'. -/
def topLoomProductsCard : Claim7 := { stood := { row := topLoomProductsRow, standIns := [], harness := (true, "c50565a9fb9c87da62d65b88b0fa5e12aa328f89519cb1b80ea96e9325f43636"), looks := false }, kinds := [], alts := [], laidByText := true, laidKinds := [.data, .data, .data], laidTests := true, laidLooks := .later }
def TopLoomProductsCardSaid : Prop := Claim7.holds Tryz.pinned (.plain (OpenSpec.ofChange topLoomProductsSpec)) topLoomProductsCard

/-- THE TIED CARD OF 'talismantop.TopLoomRules'. -/
def topLoomRulesCard : Claim7 := { stood := { row := topLoomRulesRow, standIns := [], harness := (true, "c50565a9fb9c87da62d65b88b0fa5e12aa328f89519cb1b80ea96e9325f43636"), looks := false }, kinds := [], alts := [], laidByText := true, laidKinds := [.data, .data, .data], laidTests := true, laidLooks := .later }
def TopLoomRulesCardSaid : Prop := Claim7.holds Tryz.pinned (.plain (OpenSpec.ofChange topLoomRulesSpec)) topLoomRulesCard

/-- THE TIED CARD OF 'talismantop.TopLoomForms'. -/
def topLoomFormsCard : Claim7 := { stood := { row := topLoomFormsRow, standIns := [], harness := (true, "c50565a9fb9c87da62d65b88b0fa5e12aa328f89519cb1b80ea96e9325f43636"), looks := false }, kinds := [], alts := [], laidByText := true, laidKinds := [.data, .data, .data], laidTests := true, laidLooks := .later }
def TopLoomFormsCardSaid : Prop := Claim7.holds Tryz.pinned (.plain (OpenSpec.ofChange topLoomFormsSpec)) topLoomFormsCard

/-- THE SECOND FORM's CARD OF 'talismantop.TopLoomProducts'. -/
def topLoomProductsUptoCard : Claim7 := { stood := { row := topLoomProductsUptoRow, standIns := [], harness := (true, "c50565a9fb9c87da62d65b88b0fa5e12aa328f89519cb1b80ea96e9325f43636"), looks := false }, kinds := [], alts := [], laidByText := true, laidKinds := [.data, .data, .data], laidTests := true, laidLooks := .later }
def TopLoomProductsUptoCardSaid : Prop := Claim7.holds Tryz.pinned (.plain (OpenSpec.upto topLoomProductsSpec)) topLoomProductsUptoCard

/-- THE SECOND FORM's CARD OF 'talismantop.TopLoomRules'. -/
def topLoomRulesUptoCard : Claim7 := { stood := { row := topLoomRulesUptoRow, standIns := [], harness := (true, "c50565a9fb9c87da62d65b88b0fa5e12aa328f89519cb1b80ea96e9325f43636"), looks := false }, kinds := [], alts := [], laidByText := true, laidKinds := [.data, .data, .data], laidTests := true, laidLooks := .later }
def TopLoomRulesUptoCardSaid : Prop := Claim7.holds Tryz.pinned (.plain (OpenSpec.upto topLoomRulesSpec)) topLoomRulesUptoCard

/-- THE SECOND FORM's CARD OF 'talismantop.TopLoomForms'. -/
def topLoomFormsUptoCard : Claim7 := { stood := { row := topLoomFormsUptoRow, standIns := [], harness := (true, "c50565a9fb9c87da62d65b88b0fa5e12aa328f89519cb1b80ea96e9325f43636"), looks := false }, kinds := [], alts := [], laidByText := true, laidKinds := [.data, .data, .data], laidTests := true, laidLooks := .later }
def TopLoomFormsUptoCardSaid : Prop := Claim7.holds Tryz.pinned (.plain (OpenSpec.upto topLoomFormsSpec)) topLoomFormsUptoCard
end Rows
end Go.Proofs.YtobnbkoeocdhbaaGreatDoor
