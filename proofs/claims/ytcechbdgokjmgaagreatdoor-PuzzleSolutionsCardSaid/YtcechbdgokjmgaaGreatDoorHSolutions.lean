/- The law PuzzleSolutions holds: Solutions returns the solutions or the error of the reference. No condition. -/
import Derived.Test.YtcechbdgokjmgaaGreatDoorHSolutionsc
namespace Go.Proofs.YtcechbdgokjmgaaGreatDoor
open Go.ChangeShapes Go.WideShapes Go.ChangeAt Go.RowKit Go.Eng Go.Eng.YtcechbdgokjmgaaGreatDoor
set_option linter.unusedVariables false
set_option maxRecDepth 100000 in
theorem qc (os:Os) (started:os.Started) (H:Type) (enc:TypeId × Value→H):
 ReturnsInHanded {} Tryz.checked os 5 .any (fun w args=>(Rows.puzzleSolutionsSpec.pre enc Tryz.prog Tryz.f5 [] false w args∧laidMetH Tryz.prog rJ w)∧sizedMet enc Tryz.prog Tryz.f5 (OpenSpec.ofChange Rows.puzzleSolutionsSpec) false w args) (Rows.puzzleSolutionsSpec.post enc Tryz.prog Tryz.f5 false true false false):=by
 refine returnsInHanded_of_change_and (C:=Tryz.checked) (X:=fun w _=>laidMetH Tryz.prog rJ w) (fun _ _ _ hh h=>h.of_heap hh) own started (by kernel_rfl) Tryz.func5
  (ChangeSpec.witness_shaped (enc:=enc) (C:=Tryz.checked) (os:=os) (X:=fun w _=>laidMetH Tryz.prog rJ w) false (World.laidAll Tryz.prog os rJ) #[.agg #[.int .i64 0,.slice none 0 0,.int .i64 0,.slice none 0 0],.int .i64 0] 8 (World.laidAll_os _ _ _) (World.shaped_of_ZipB (by kernel_rfl) (by kernel_rfl)) (by kernel_rfl) (by kernel_rfl) (by kernel_rfl) (Q0 os _)) ?_
 intro W base args ds gs before hval0 hW _ _ hL _
 have hval:∀(j:Nat) t v,Tryz.f5.params[j]? =some t→args[j]? =some v→Value.okWide Tryz.prog W .any base t v:=hval0
 have hW':=hW
 obtain⟨p,q,hA0,hV,rfl,hfz,hnd⟩:=hW
 have hA:DataW.TrodAll enc Tryz.prog W 0 (fun _=>true) true Tryz.f5.params.toList args.toList ds p:=hA0
 rw[Tryz.params5]at hA hval
 obtain⟨v0,v1,d0,d1,p0,p1,rfl,rfl,rfl,h0,h1⟩:=trodAll_two hA
 obtain⟨ps0,hl0,hok0,hr0⟩:=QX (.inl ⟨_,Tryz.underlying27⟩) o27 (hval 0 27 v0 rfl rfl) h0
 obtain⟨a0_0,a0_1,a0_2,a0_3,rfl⟩:∃a0_0 a0_1 a0_2 a0_3,ps0=[a0_0,a0_1,a0_2,a0_3]:=by
  match ps0,hl0 with
  | [a0_0,a0_1,a0_2,a0_3],_=>exact⟨_,_,_,_,rfl⟩
 obtain⟨x0_0,e0_0,w0_0⟩:=hok0 0 (by decide)
 obtain⟨x0_1,e0_1,w0_1⟩:=hok0 1 (by decide)
 obtain⟨x0_2,e0_2,w0_2⟩:=hok0 2 (by decide)
 obtain⟨x0_3,e0_3,w0_3⟩:=hok0 3 (by decide)
 simp only[aC]at e0_0 e0_1 e0_2 e0_3
 subst e0_0 e0_1 e0_2 e0_3
 obtain⟨q1,hq1,hr1⟩:=Oh (.inl ⟨_,Tryz.underlying3⟩) o3 (hval 1 3 v1 rfl rfl) h1
 obtain⟨x1_0,rfl,w1_0⟩:=hq1
 refine(QY (CS x0_0 x0_1 x0_2 x0_3 x1_0 w0_3.2) ⟨rfl,fun i hi=>?_⟩ (Xl hL)).mono fun e W' ⟨he,hB⟩=>?_
 ·match i,hi with
  |0,_=>exact hr0
  |1,_=>exact hr1
 ·subst he
  exact⟨_,rfl,QZ (tb:=4) laidOut (by kernel_rfl) Tryz.underlying4 (by kernel_rfl) rfl rfl hW' hB⟩
theorem ng:Tryz.checked.prog.funcNamed "talisman/talismanlaw09.PuzzleSolutions" =some 5:=by kernel_rfl
theorem uZ:(Rows.puzzleSolutionsRow.inPlace==Tryz.checked.prog.inPlace 5)=true:=by kernel_rfl
theorem u6:(Rows.puzzleSolutionsRow.unfollowed==Tryz.checked.prog.unfollowed 5)=true:=by kernel_rfl
theorem u7:(Rows.puzzleSolutionsRow.recurses==Tryz.checked.prog.recurses 5)=true:=by kernel_rfl
theorem vg:(Rows.puzzleSolutionsRow.named==Tryz.checked.prog.varsNamed 5)=true:=by kernel_rfl
theorem vW:joinedFacts Tryz.checked.prog 5 Tryz.f5 Rows.puzzleSolutionsSpec Rows.puzzleSolutionsRow=true:=by
 unfold joinedFacts
 rw[uZ,u6,u7,vg]
 kernel_rfl
theorem vX:Tryz.f5.isInstance Tryz.checked.prog Rows.puzzleSolutionsRow.origin Rows.puzzleSolutionsRow.targs:=of_decide_eq_true (by kernel_rfl)
theorem vY:Tryz.f5.isWrapper Tryz.checked.prog Rows.puzzleSolutionsRow.wrapper Rows.puzzleSolutionsRow.mainSum:=by unfold Func.isWrapper;rw[if_neg (by decide+kernel)];exact⟨rfl,rfl⟩
theorem sK:Rows.PuzzleSolutionsSaid:=
 OpenClaim.holds_of_wide 5 Tryz.f5 rfl rfl rfl rfl rfl rfl rfl ⟨rfl,rfl,rfl,rfl,rfl⟩ rfl rfl rfl rfl rfl ng Tryz.func5 vW
  vX vY
  (fun os started H enc _=>qc os started H enc)
theorem vZ:Rows.puzzleSolutionsRow.wfByText (OpenSpec.ofChange Rows.puzzleSolutionsSpec)=true:=by kernel_rfl
theorem wm:Tryz.pinned.checked.prog.mainIs=some (true, "d7f9779eb41a764bbdc5453d28e744ba85039e605ae6f62236fdb6a87690a579".toList):=by kernel_rfl
theorem wo:true=Tryz.pinned.checked.prog.looks []:=by kernel_rfl
theorem wu:([27,3].all fun u=>!Tryz.prog.wantsStandIn u)=true:=by kernel_rfl
theorem wz:false=Rows.puzzleSolutionsRow.goesBy Tryz.pinned.checked.prog:=by kernel_rfl
theorem solutions_holds:Rows.PuzzleSolutionsCardSaid:=
 Claim7.holds_tied_plain_at .later [] [.data,.data,.data,.data,.sentinel,.sentinel,.pinned] true (true, "d7f9779eb41a764bbdc5453d28e744ba85039e605ae6f62236fdb6a87690a579") true
  sK (fun _ h=>by cases h) vZ (fun _ h=>by cases h) puzzleSolutions_row_tie rfl ⟨rfl,rfl⟩ wm rfl
  (fun f fn hf hfn=>by
   obtain rfl:f=5:=Option.some.inj (ng.symm.trans hf) |>.symm
   obtain rfl:fn=Tryz.f5:=(Option.some.inj (Tryz.func5.symm.trans hfn)).symm
   exact⟨wo,fun j t ht=>by
    rw[Tryz.params5]at ht
    have hm:t∈[27,3]:=by simpa using Array.mem_of_getElem? ht
    have hall:=wu
    exact(show Tryz.prog.wantsStandIn t=false by simpa using List.all_eq_true.1 hall t hm)⟩)
  wz
#print axioms solutions_holds
end Go.Proofs.YtcechbdgokjmgaaGreatDoor
