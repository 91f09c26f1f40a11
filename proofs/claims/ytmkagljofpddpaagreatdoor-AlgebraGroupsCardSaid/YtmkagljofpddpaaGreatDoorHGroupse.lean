/- Contracts of functions of the program: what each returns. Their conditions stand in them. -/
import Derived.Test.YtmkagljofpddpaaGreatDoorHGroupsd
namespace Go.Eng.YtmkagljofpddpaaGreatDoor
open Go.Proofs Go.Proofs.YtmkagljofpddpaaGreatDoor Go.RowKit Go.ChangeShapes Go.WideShapes
theorem aiP:mapsRowed Tryz.checked.prog=true:=by kernel_rfl
theorem ah3:Tryz.checked.prog.stopsHeard=true:=by kernel_rfl
theorem ah4:Tryz.checked.prog.mayEnter=true:=by kernel_rfl
theorem aiQ:(Rows.algebraPermsRow.lifted==Tryz.checked.prog.liftsFinal)=true:=by kernel_rfl
theorem aiR:(Rows.algebraPermsRow.plainKeys==Tryz.checked.prog.plainKeys)=true:=by kernel_rfl
theorem aiS:(Tryz.checked.prog.make==some Rows.algebraPermsRow.make)=true:=by kernel_rfl
theorem ah5:(Tryz.checked.prog.stops==[])=true:=by kernel_rfl
theorem ah6:(Tryz.checked.prog.stopKnobs==[])=true:=by kernel_rfl
end Go.Eng.YtmkagljofpddpaaGreatDoor
