/- Contracts of functions of the program: what each returns. Their conditions stand in them. -/
import Derived.Test.YtmkagljofpddpaaGreatDoorHPermsd
namespace Go.Eng.YtmkagljofpddpaaGreatDoor
open Go.Proofs Go.Proofs.YtmkagljofpddpaaGreatDoor Go.RowKit Go.ChangeShapes Go.WideShapes
theorem ahY:mapsRowed Tryz.checked.prog=true:=by kernel_rfl
theorem ahh:Tryz.checked.prog.stopsHeard=true:=by kernel_rfl
theorem ahi:Tryz.checked.prog.mayEnter=true:=by kernel_rfl
theorem ahZ:(Rows.algebraPermsRow.lifted==Tryz.checked.prog.liftsFinal)=true:=by kernel_rfl
theorem ah0:(Rows.algebraPermsRow.plainKeys==Tryz.checked.prog.plainKeys)=true:=by kernel_rfl
theorem ah1:(Tryz.checked.prog.make==some Rows.algebraPermsRow.make)=true:=by kernel_rfl
theorem ahj:(Tryz.checked.prog.stops==[])=true:=by kernel_rfl
theorem ahk:(Tryz.checked.prog.stopKnobs==[])=true:=by kernel_rfl
end Go.Eng.YtmkagljofpddpaaGreatDoor
