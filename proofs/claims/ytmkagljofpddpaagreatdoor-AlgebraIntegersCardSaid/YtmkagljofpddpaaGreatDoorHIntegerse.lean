/- Contracts of functions of the program: what each returns. Their conditions stand in them. -/
import Derived.Test.YtmkagljofpddpaaGreatDoorHIntegersd
namespace Go.Eng.YtmkagljofpddpaaGreatDoor
open Go.Proofs Go.Proofs.YtmkagljofpddpaaGreatDoor Go.RowKit Go.ChangeShapes Go.WideShapes
theorem ajA:mapsRowed Tryz.checked.prog=true:=by kernel_rfl
theorem aiI:Tryz.checked.prog.stopsHeard=true:=by kernel_rfl
theorem aiJ:Tryz.checked.prog.mayEnter=true:=by kernel_rfl
theorem ajB:(Rows.algebraPermsRow.lifted==Tryz.checked.prog.liftsFinal)=true:=by kernel_rfl
theorem ajC:(Rows.algebraPermsRow.plainKeys==Tryz.checked.prog.plainKeys)=true:=by kernel_rfl
theorem ajD:(Tryz.checked.prog.make==some Rows.algebraPermsRow.make)=true:=by kernel_rfl
theorem aiK:(Tryz.checked.prog.stops==[])=true:=by kernel_rfl
theorem aiL:(Tryz.checked.prog.stopKnobs==[])=true:=by kernel_rfl
end Go.Eng.YtmkagljofpddpaaGreatDoor
