/- The law PuzzleMirrors holds: the image of a puzzle under a symmetry has the same grade, or the same error, and as many solutions, each of which is an image; the image under the inverse symmetry is the puzzle. No condition. -/
import Derived.Test.YtcechbdgokjmgaaGreatDoorHMirrorsd
namespace Go.Proofs.YtcechbdgokjmgaaGreatDoor
open Go.ChangeShapes Go.WideShapes Go.ChangeAt Go.RowKit Go.Eng Go.Eng.YtcechbdgokjmgaaGreatDoor
set_option linter.unusedVariables false
set_option maxRecDepth 100000 in
theorem vD (os:Os) (started:os.Started) (H:Type) (enc:TypeId × Value→H):
 ReturnsInHanded {} Tryz.checked os 15 .any (fun w args=>(Rows.puzzleMirrorsSpec.pre enc Tryz.prog Tryz.f15 [] false w args∧laidMetH Tryz.prog uQ w)∧sizedMet enc Tryz.prog Tryz.f15 (OpenSpec.ofChange Rows.puzzleMirrorsSpec) false w args) (Rows.puzzleMirrorsSpec.post enc Tryz.prog Tryz.f15 false true false false):=by
 refine returnsInHanded_of_change_and (C:=Tryz.checked) (X:=fun w _=>laidMetH Tryz.prog uQ w) (fun _ _ _ hh h=>h.of_heap hh) own started (by kernel_rfl) Tryz.func15
  (ChangeSpec.witness_shaped (enc:=enc) (C:=Tryz.checked) (os:=os) (X:=fun w _=>laidMetH Tryz.prog uQ w) false (World.laidAll Tryz.prog os uQ) #[.agg #[.int .i64 0,.slice none 0 0,.int .i64 0,.slice none 0 0],.agg #[.slice none 0 0,.bool false]] 8 (World.laidAll_os _ _ _) (World.shaped_of_ZipB (by kernel_rfl) (by kernel_rfl)) (by kernel_rfl) (by kernel_rfl) (by kernel_rfl) (Ve os _)) ?_
 intro W base args ds gs before hval0 hW _ _ hL _;have hval:∀(j:Nat) t v,Tryz.f15.params[j]? =some t→args[j]? =some v→Value.okWide Tryz.prog W .any base t v:=hval0;have hW':=hW;obtain⟨p,q,hA0,hV,rfl,hfz,hnd⟩:=hW;have hA:DataW.TrodAll enc Tryz.prog W 0 (fun _=>true) true Tryz.f15.params.toList args.toList ds p:=hA0;rw[Tryz.params15]at hA hval;obtain⟨v0,v1,d0,d1,p0,p1,rfl,rfl,rfl,h0,h1⟩:=trodAll_two hA;obtain⟨ps0,hl0,hok0,hr0⟩:=Hq (.inl ⟨_,Tryz.underlying27⟩) o27 (hval 0 27 v0 rfl rfl) h0;obtain⟨a0_0,a0_1,a0_2,a0_3,rfl⟩:∃a0_0 a0_1 a0_2 a0_3,ps0=[a0_0,a0_1,a0_2,a0_3]:=by
  match ps0,hl0 with
  | [a0_0,a0_1,a0_2,a0_3],_=>exact⟨_,_,_,_,rfl⟩
 obtain⟨x0_0,e0_0,w0_0⟩:=hok0 0 (by decide)
 obtain⟨x0_1,e0_1,w0_1⟩:=hok0 1 (by decide)
 obtain⟨x0_2,e0_2,w0_2⟩:=hok0 2 (by decide)
 obtain⟨x0_3,e0_3,w0_3⟩:=hok0 3 (by decide)
 simp only[aD]at e0_0 e0_1 e0_2 e0_3;subst e0_0 e0_1 e0_2 e0_3;obtain⟨ps1,hl1,hok1,hr1⟩:=Hq (.inl ⟨_,Tryz.underlying127⟩) ags (hval 1 127 v1 rfl rfl) h1;obtain⟨a1_0,a1_1,rfl⟩:∃a1_0 a1_1,ps1=[a1_0,a1_1]:=by
  match ps1,hl1 with
  | [a1_0,a1_1],_=>exact⟨_,_,rfl⟩
 obtain⟨x1_0,e1_0,w1_0⟩:=hok1 0 (by decide)
 obtain⟨x1_1,e1_1,w1_1⟩:=hok1 1 (by decide)
 simp only[aD]at e1_0 e1_1;subst e1_0 e1_1;refine(Vb (KT x0_0 x0_1 x0_2 x0_3 x1_0 x1_1 w0_3.2 w1_0.2) ⟨rfl,fun i hi=>?_⟩ (aaK hL)).mono fun e W' ⟨he,hB⟩=>?_
 ·match i,hi with
  |0,_=>exact hr0
  |1,_=>exact hr1
 ·subst he
  exact⟨_,rfl,Vd (tb:=4) laidOut (by kernel_rfl) Tryz.underlying4 (by kernel_rfl) rfl rfl hW' hB⟩
theorem rT:Tryz.checked.prog.funcNamed "talisman/talismanlaw09.PuzzleMirrors" =some 15:=by kernel_rfl
theorem zZ:(Rows.puzzleMirrorsRow.inPlace==Tryz.checked.prog.inPlace 15)=true:=by kernel_rfl
theorem z8:(Rows.puzzleMirrorsRow.unfollowed==Tryz.checked.prog.unfollowed 15)=true:=by kernel_rfl
theorem Aa:(Rows.puzzleMirrorsRow.recurses==Tryz.checked.prog.recurses 15)=true:=by kernel_rfl
theorem Ab:(Rows.puzzleMirrorsRow.named==Tryz.checked.prog.varsNamed 15)=true:=by kernel_rfl
theorem Cb:joinedFacts Tryz.checked.prog 15 Tryz.f15 Rows.puzzleMirrorsSpec Rows.puzzleMirrorsRow=true:=by
 unfold joinedFacts;rw[zZ,z8,Aa,Ab]
 kernel_rfl
theorem Cc:Tryz.f15.isInstance Tryz.checked.prog Rows.puzzleMirrorsRow.origin Rows.puzzleMirrorsRow.targs:=of_decide_eq_true (by kernel_rfl)
theorem Ce:Tryz.f15.isWrapper Tryz.checked.prog Rows.puzzleMirrorsRow.wrapper Rows.puzzleMirrorsRow.mainSum:=by unfold Func.isWrapper;rw[if_neg (by decide+kernel)];exact⟨rfl,rfl⟩
theorem yG:Rows.PuzzleMirrorsSaid:=
 OpenClaim.holds_of_wide 15 Tryz.f15 rfl rfl rfl rfl rfl rfl rfl ⟨rfl,rfl,rfl,rfl,rfl⟩ rfl rfl rfl rfl rfl rT Tryz.func15 Cb
  Cc Ce
  (fun os started H enc _=>vD os started H enc)
theorem Cg:Rows.puzzleMirrorsRow.wfByText (OpenSpec.ofChange Rows.puzzleMirrorsSpec)=true:=by kernel_rfl
theorem Ch:Tryz.pinned.checked.prog.mainIs=some (true, "d7f9779eb41a764bbdc5453d28e744ba85039e605ae6f62236fdb6a87690a579".toList):=by kernel_rfl
theorem Ci:true=Tryz.pinned.checked.prog.looks []:=by kernel_rfl
theorem Cj:([27,127].all fun u=>!Tryz.prog.wantsStandIn u)=true:=by kernel_rfl
theorem Ck:false=Rows.puzzleMirrorsRow.goesBy Tryz.pinned.checked.prog:=by kernel_rfl
theorem mirrors_holds:Rows.PuzzleMirrorsCardSaid:=
 Claim7.holds_tied_plain_at .later [] [.data,.data,.data,.data,.sentinel,.sentinel,.pinned] true (true, "d7f9779eb41a764bbdc5453d28e744ba85039e605ae6f62236fdb6a87690a579") true
  yG (fun _ h=>by cases h) Cg (fun _ h=>by cases h) puzzleMirrors_row_tie rfl ⟨rfl,rfl⟩ Ch rfl
  (fun f fn hf hfn=>by
   obtain rfl:f=15:=Option.some.inj (rT.symm.trans hf) |>.symm;obtain rfl:fn=Tryz.f15:=(Option.some.inj (Tryz.func15.symm.trans hfn)).symm;exact⟨Ci,fun j t ht=>by
    rw[Tryz.params15]at ht;have hm:t∈[27,127]:=by simpa using Array.mem_of_getElem? ht
    have hall:=Cj;exact(show Tryz.prog.wantsStandIn t=false by simpa using List.all_eq_true.1 hall t hm)⟩)
  Ck
#print axioms mirrors_holds
end Go.Proofs.YtcechbdgokjmgaaGreatDoor
