/- Make returns the puzzle or the error of the reference, and IsMinimal of the solution's puzzle the result or the error -/
import Derived.Test.YtcechbdgokjmgaaGreatDoorHMakesd
namespace Go.Proofs.YtcechbdgokjmgaaGreatDoor
open Go.ChangeShapes Go.WideShapes Go.ChangeAt Go.RowKit Go.Eng Go.Eng.YtcechbdgokjmgaaGreatDoor
set_option linter.unusedVariables false
set_option maxRecDepth 100000 in
theorem wJ (os:Os) (started:os.Started) (H:Type) (enc:TypeId × Value→H):
 ReturnsInHanded {} Tryz.checked os 8 .any (fun w args=>(Rows.puzzleMakesSpec.pre enc Tryz.prog Tryz.f8 [] false w args∧laidMetH Tryz.prog tQ w)∧sizedMet enc Tryz.prog Tryz.f8 (OpenSpec.ofChange Rows.puzzleMakesSpec) false w args) (Rows.puzzleMakesSpec.post enc Tryz.prog Tryz.f8 false true false false):=by
 refine returnsInHanded_of_change_and (C:=Tryz.checked) (X:=fun w _=>laidMetH Tryz.prog tQ w) (fun _ _ _ hh h=>h.of_heap hh) own started (by kernel_rfl) Tryz.func8
  (ChangeSpec.witness_shaped (enc:=enc) (C:=Tryz.checked) (os:=os) (X:=fun w _=>laidMetH Tryz.prog tQ w) false (World.laidAll Tryz.prog os tQ) #[.agg #[.int .i64 0,.slice none 0 0],.agg #[.slice none 0 0,.slice none 0 0,.int .i64 0]] 8 (World.laidAll_os _ _ _) (World.shaped_of_ZipB (by kernel_rfl) (by kernel_rfl)) (by kernel_rfl) (by kernel_rfl) (by kernel_rfl) (Ui os _)) ?_
 intro W base args ds gs before hval0 hW _ _ hL _;have hval:∀(j:Nat) t v,Tryz.f8.params[j]? =some t→args[j]? =some v→Value.okWide Tryz.prog W .any base t v:=hval0;have hW':=hW;obtain⟨p,q,hA0,hV,rfl,hfz,hnd⟩:=hW;have hA:DataW.TrodAll enc Tryz.prog W 0 (fun _=>true) true Tryz.f8.params.toList args.toList ds p:=hA0;rw[Tryz.params8]at hA hval;obtain⟨v0,v1,d0,d1,p0,p1,rfl,rfl,rfl,h0,h1⟩:=trodAll_two hA;obtain⟨ps0,hl0,hok0,hr0⟩:=Gp (.inl ⟨_,Tryz.underlying24⟩) o24 (hval 0 24 v0 rfl rfl) h0;obtain⟨a0_0,a0_1,rfl⟩:∃a0_0 a0_1,ps0=[a0_0,a0_1]:=by
  match ps0,hl0 with
  | [a0_0,a0_1],_=>exact⟨_,_,rfl⟩
 obtain⟨x0_0,e0_0,w0_0⟩:=hok0 0 (by decide)
 obtain⟨x0_1,e0_1,w0_1⟩:=hok0 1 (by decide)
 simp only[aD]at e0_0 e0_1;subst e0_0 e0_1;obtain⟨ps1,hl1,hok1,hr1⟩:=Gp (.inl ⟨_,Tryz.underlying85⟩) o85 (hval 1 85 v1 rfl rfl) h1;obtain⟨a1_0,a1_1,a1_2,rfl⟩:∃a1_0 a1_1 a1_2,ps1=[a1_0,a1_1,a1_2]:=by
  match ps1,hl1 with
  | [a1_0,a1_1,a1_2],_=>exact⟨_,_,_,rfl⟩
 obtain⟨x1_0,e1_0,w1_0⟩:=hok1 0 (by decide)
 obtain⟨x1_1,e1_1,w1_1⟩:=hok1 1 (by decide)
 obtain⟨x1_2,e1_2,w1_2⟩:=hok1 2 (by decide)
 simp only[aD]at e1_0 e1_1 e1_2;subst e1_0 e1_1 e1_2;refine(Ug (Tg x0_0 x0_1 x1_0 x1_1 x1_2 w1_0.2 w1_1.2) ⟨rfl,fun i hi=>?_⟩ (ZG hL)).mono fun e W' ⟨he,hB⟩=>?_
 ·match i,hi with
  |0,_=>exact hr0
  |1,_=>exact hr1
 ·subst he
  exact⟨_,rfl,Uh (tb:=4) laidOut (by kernel_rfl) Tryz.underlying4 (by kernel_rfl) rfl rfl hW' hB⟩
theorem uI:Tryz.checked.prog.funcNamed "talisman/talismanlaw09.PuzzleMakes" =some 8:=by kernel_rfl
theorem CG:(Rows.puzzleMakesRow.inPlace==Tryz.checked.prog.inPlace 8)=true:=by kernel_rfl
theorem CJ:(Rows.puzzleMakesRow.unfollowed==Tryz.checked.prog.unfollowed 8)=true:=by kernel_rfl
theorem CO:(Rows.puzzleMakesRow.recurses==Tryz.checked.prog.recurses 8)=true:=by kernel_rfl
theorem CQ:(Rows.puzzleMakesRow.named==Tryz.checked.prog.varsNamed 8)=true:=by kernel_rfl
theorem Ei:joinedFacts Tryz.checked.prog 8 Tryz.f8 Rows.puzzleMakesSpec Rows.puzzleMakesRow=true:=by
 unfold joinedFacts;rw[CG,CJ,CO,CQ]
 kernel_rfl
theorem Ej:Tryz.f8.isInstance Tryz.checked.prog Rows.puzzleMakesRow.origin Rows.puzzleMakesRow.targs:=of_decide_eq_true (by kernel_rfl)
theorem El:Tryz.f8.isWrapper Tryz.checked.prog Rows.puzzleMakesRow.wrapper Rows.puzzleMakesRow.mainSum:=by unfold Func.isWrapper;rw[if_neg (by decide+kernel)];exact⟨rfl,rfl⟩
theorem AV:Rows.PuzzleMakesSaid:=
 OpenClaim.holds_of_wide 8 Tryz.f8 rfl rfl rfl rfl rfl rfl rfl ⟨rfl,rfl,rfl,rfl,rfl⟩ rfl rfl rfl rfl rfl uI Tryz.func8 Ei
  Ej El
  (fun os started H enc _=>wJ os started H enc)
theorem Em:Rows.puzzleMakesRow.wfByText (OpenSpec.ofChange Rows.puzzleMakesSpec)=true:=by kernel_rfl
theorem En:Tryz.pinned.checked.prog.mainIs=some (true, "d7f9779eb41a764bbdc5453d28e744ba85039e605ae6f62236fdb6a87690a579".toList):=by kernel_rfl
theorem Eo:true=Tryz.pinned.checked.prog.looks []:=by kernel_rfl
theorem Ep:([24,85].all fun u=>!Tryz.prog.wantsStandIn u)=true:=by kernel_rfl
theorem Er:false=Rows.puzzleMakesRow.goesBy Tryz.pinned.checked.prog:=by kernel_rfl
theorem makes_holds:Rows.PuzzleMakesCardSaid:=
 Claim7.holds_tied_plain_at .later [] [.data,.data,.data,.data,.sentinel,.sentinel,.pinned] true (true, "d7f9779eb41a764bbdc5453d28e744ba85039e605ae6f62236fdb6a87690a579") true
  AV (fun _ h=>by cases h) Em (fun _ h=>by cases h) puzzleMakes_row_tie rfl ⟨rfl,rfl⟩ En rfl
  (fun f fn hf hfn=>by
   obtain rfl:f=8:=Option.some.inj (uI.symm.trans hf) |>.symm;obtain rfl:fn=Tryz.f8:=(Option.some.inj (Tryz.func8.symm.trans hfn)).symm;exact⟨Eo,fun j t ht=>by
    rw[Tryz.params8]at ht;have hm:t∈[24,85]:=by simpa using Array.mem_of_getElem? ht
    have hall:=Ep;exact(show Tryz.prog.wantsStandIn t=false by simpa using List.all_eq_true.1 hall t hm)⟩)
  Er
#print axioms makes_holds
end Go.Proofs.YtcechbdgokjmgaaGreatDoor
