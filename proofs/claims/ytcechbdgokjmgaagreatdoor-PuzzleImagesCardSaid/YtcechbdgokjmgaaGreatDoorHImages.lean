/- The law PuzzleImages holds: Image returns the puzzle or the error of the reference. No condition. -/
import Derived.Test.YtcechbdgokjmgaaGreatDoorHImagesc
namespace Go.Proofs.YtcechbdgokjmgaaGreatDoor
open Go.ChangeShapes Go.WideShapes Go.ChangeAt Go.RowKit Go.Eng Go.Eng.YtcechbdgokjmgaaGreatDoor
set_option linter.unusedVariables false
set_option maxRecDepth 100000 in
theorem tT (os:Os) (started:os.Started) (H:Type) (enc:TypeId × Value→H):
 ReturnsInHanded {} Tryz.checked os 14 .any (fun w args=>(Rows.puzzleImagesSpec.pre enc Tryz.prog Tryz.f14 [] false w args∧laidMetH Tryz.prog sH w)∧sizedMet enc Tryz.prog Tryz.f14 (OpenSpec.ofChange Rows.puzzleImagesSpec) false w args) (Rows.puzzleImagesSpec.post enc Tryz.prog Tryz.f14 false true false false):=by
 refine returnsInHanded_of_change_and (C:=Tryz.checked) (X:=fun w _=>laidMetH Tryz.prog sH w) (fun _ _ _ hh h=>h.of_heap hh) own started (by kernel_rfl) Tryz.func14
  (ChangeSpec.witness_shaped (enc:=enc) (C:=Tryz.checked) (os:=os) (X:=fun w _=>laidMetH Tryz.prog sH w) false (World.laidAll Tryz.prog os sH) #[.agg #[.int .i64 0,.slice none 0 0,.int .i64 0,.slice none 0 0],.agg #[.slice none 0 0,.bool false]] 8 (World.laidAll_os _ _ _) (World.shaped_of_ZipB (by kernel_rfl) (by kernel_rfl)) (by kernel_rfl) (by kernel_rfl) (by kernel_rfl) (Te os _)) ?_
 intro W base args ds gs before hval0 hW _ _ hL _;have hval:∀(j:Nat) t v,Tryz.f14.params[j]? =some t→args[j]? =some v→Value.okWide Tryz.prog W .any base t v:=hval0;have hW':=hW;obtain⟨p,q,hA0,hV,rfl,hfz,hnd⟩:=hW;have hA:DataW.TrodAll enc Tryz.prog W 0 (fun _=>true) true Tryz.f14.params.toList args.toList ds p:=hA0;rw[Tryz.params14]at hA hval;obtain⟨v0,v1,d0,d1,p0,p1,rfl,rfl,rfl,h0,h1⟩:=trodAll_two hA;obtain⟨ps0,hl0,hok0,hr0⟩:=FR (.inl ⟨_,Tryz.underlying27⟩) o27 (hval 0 27 v0 rfl rfl) h0;obtain⟨a0_0,a0_1,a0_2,a0_3,rfl⟩:∃a0_0 a0_1 a0_2 a0_3,ps0=[a0_0,a0_1,a0_2,a0_3]:=by
  match ps0,hl0 with
  | [a0_0,a0_1,a0_2,a0_3],_=>exact⟨_,_,_,_,rfl⟩
 obtain⟨x0_0,e0_0,w0_0⟩:=hok0 0 (by decide)
 obtain⟨x0_1,e0_1,w0_1⟩:=hok0 1 (by decide)
 obtain⟨x0_2,e0_2,w0_2⟩:=hok0 2 (by decide)
 obtain⟨x0_3,e0_3,w0_3⟩:=hok0 3 (by decide)
 simp only[aD]at e0_0 e0_1 e0_2 e0_3;subst e0_0 e0_1 e0_2 e0_3;obtain⟨ps1,hl1,hok1,hr1⟩:=FR (.inl ⟨_,Tryz.underlying127⟩) aeE (hval 1 127 v1 rfl rfl) h1;obtain⟨a1_0,a1_1,rfl⟩:∃a1_0 a1_1,ps1=[a1_0,a1_1]:=by
  match ps1,hl1 with
  | [a1_0,a1_1],_=>exact⟨_,_,rfl⟩
 obtain⟨x1_0,e1_0,w1_0⟩:=hok1 0 (by decide)
 obtain⟨x1_1,e1_1,w1_1⟩:=hok1 1 (by decide)
 simp only[aD]at e1_0 e1_1;subst e1_0 e1_1;refine(Tc (O4 x0_0 x0_1 x0_2 x0_3 x1_0 x1_1 w1_0.2) ⟨rfl,fun i hi=>?_⟩ (Y4 hL)).mono fun e W' ⟨he,hB⟩=>?_
 ·match i,hi with
  |0,_=>exact hr0
  |1,_=>exact hr1
 ·subst he
  exact⟨_,rfl,Td (tb:=4) laidOut (by kernel_rfl) Tryz.underlying4 (by kernel_rfl) rfl rfl hW' hB⟩
theorem ru:Tryz.checked.prog.funcNamed "talisman/talismanlaw09.PuzzleImages" =some 14:=by kernel_rfl
theorem Ad:(Rows.puzzleImagesRow.inPlace==Tryz.checked.prog.inPlace 14)=true:=by kernel_rfl
theorem Ae:(Rows.puzzleImagesRow.unfollowed==Tryz.checked.prog.unfollowed 14)=true:=by kernel_rfl
theorem Af:(Rows.puzzleImagesRow.recurses==Tryz.checked.prog.recurses 14)=true:=by kernel_rfl
theorem Ag:(Rows.puzzleImagesRow.named==Tryz.checked.prog.varsNamed 14)=true:=by kernel_rfl
theorem Cm:joinedFacts Tryz.checked.prog 14 Tryz.f14 Rows.puzzleImagesSpec Rows.puzzleImagesRow=true:=by
 unfold joinedFacts;rw[Ad,Ae,Af,Ag]
 kernel_rfl
theorem Cn:Tryz.f14.isInstance Tryz.checked.prog Rows.puzzleImagesRow.origin Rows.puzzleImagesRow.targs:=of_decide_eq_true (by kernel_rfl)
theorem Co:Tryz.f14.isWrapper Tryz.checked.prog Rows.puzzleImagesRow.wrapper Rows.puzzleImagesRow.mainSum:=by unfold Func.isWrapper;rw[if_neg (by decide+kernel)];exact⟨rfl,rfl⟩
theorem yK:Rows.PuzzleImagesSaid:=
 OpenClaim.holds_of_wide 14 Tryz.f14 rfl rfl rfl rfl rfl rfl rfl ⟨rfl,rfl,rfl,rfl,rfl⟩ rfl rfl rfl rfl rfl ru Tryz.func14 Cm
  Cn Co
  (fun os started H enc _=>tT os started H enc)
theorem Cq:Rows.puzzleImagesRow.wfByText (OpenSpec.ofChange Rows.puzzleImagesSpec)=true:=by kernel_rfl
theorem Cr:Tryz.pinned.checked.prog.mainIs=some (true, "d7f9779eb41a764bbdc5453d28e744ba85039e605ae6f62236fdb6a87690a579".toList):=by kernel_rfl
theorem Ct:true=Tryz.pinned.checked.prog.looks []:=by kernel_rfl
theorem Cu:([27,127].all fun u=>!Tryz.prog.wantsStandIn u)=true:=by kernel_rfl
theorem Cv:false=Rows.puzzleImagesRow.goesBy Tryz.pinned.checked.prog:=by kernel_rfl
theorem images_holds:Rows.PuzzleImagesCardSaid:=
 Claim7.holds_tied_plain_at .later [] [.data,.data,.data,.data,.sentinel,.sentinel,.pinned] true (true, "d7f9779eb41a764bbdc5453d28e744ba85039e605ae6f62236fdb6a87690a579") true
  yK (fun _ h=>by cases h) Cq (fun _ h=>by cases h) puzzleImages_row_tie rfl ⟨rfl,rfl⟩ Cr rfl
  (fun f fn hf hfn=>by
   obtain rfl:f=14:=Option.some.inj (ru.symm.trans hf) |>.symm;obtain rfl:fn=Tryz.f14:=(Option.some.inj (Tryz.func14.symm.trans hfn)).symm;exact⟨Ct,fun j t ht=>by
    rw[Tryz.params14]at ht;have hm:t∈[27,127]:=by simpa using Array.mem_of_getElem? ht
    have hall:=Cu;exact(show Tryz.prog.wantsStandIn t=false by simpa using List.all_eq_true.1 hall t hm)⟩)
  Cv
#print axioms images_holds
end Go.Proofs.YtcechbdgokjmgaaGreatDoor
