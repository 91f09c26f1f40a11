/- The law PuzzleStates holds: IsBroken, Justified and Apply return the results or errors of the reference. No condition. -/
import Derived.Test.YtcechbdgokjmgaaGreatDoorHStatesa
namespace Go.Proofs.YtcechbdgokjmgaaGreatDoor
open Go.ChangeShapes Go.WideShapes Go.ChangeAt Go.RowKit Go.Eng Go.Eng.YtcechbdgokjmgaaGreatDoor
set_option linter.unusedVariables false
theorem ai9 {H:Type} {enc:TypeId × Value→H} {W:World}:fq enc Tryz.prog W 40 [.str,.int .i64,.int .i64,.int .i64]:=
 lF (lss:=[[.str],[.int .i64],[.int .i64],[.int .i64]]) Tryz.underlying40 ⟨⟨rfl,by kernel_rfl,o9⟩,⟨rfl,by kernel_rfl,o3⟩,⟨rfl,by kernel_rfl,o3⟩,⟨rfl,by kernel_rfl,o3⟩,trivial⟩ (by kernel_rfl)
set_option maxRecDepth 100000 in
theorem ahu (os:Os) (started:os.Started) (H:Type) (enc:TypeId × Value→H):
 ReturnsInHanded {} Tryz.checked os 12 .any (fun w args=>(Rows.puzzleStatesSpec.pre enc Tryz.prog Tryz.f12 [] false w args∧laidMetH Tryz.prog NA w)∧sizedMet enc Tryz.prog Tryz.f12 (OpenSpec.ofChange Rows.puzzleStatesSpec) false w args) (Rows.puzzleStatesSpec.post enc Tryz.prog Tryz.f12 false true false false):=by
 refine returnsInHanded_of_change_and (C:=Tryz.checked) (X:=fun w _=>laidMetH Tryz.prog NA w) (fun _ _ _ hh h=>h.of_heap hh) own started (by kernel_rfl) Tryz.func12
  (ChangeSpec.witness_shaped (enc:=enc) (C:=Tryz.checked) (os:=os) (X:=fun w _=>laidMetH Tryz.prog NA w) false (World.laidAll Tryz.prog os NA) #[.agg #[.int .i64 0,.slice none 0 0,.int .i64 0,.slice none 0 0],.agg #[.slice none 0 0,.slice none 0 0],.agg #[.string ⟨#[]⟩,.int .i64 0,.int .i64 0,.int .i64 0]] 8 (World.laidAll_os _ _ _) (World.shaped_of_ZipB (by kernel_rfl) (by kernel_rfl)) (by kernel_rfl) (by kernel_rfl) (by kernel_rfl) (adO os _)) ?_
 intro W base args ds gs before hval0 hW _ _ hL _;have hval:∀(j:Nat) t v,Tryz.f12.params[j]? =some t→args[j]? =some v→Value.okWide Tryz.prog W .any base t v:=hval0;have hW':=hW;obtain⟨p,q,hA0,hV,rfl,hfz,hnd⟩:=hW;have hA:DataW.TrodAll enc Tryz.prog W 0 (fun _=>true) true Tryz.f12.params.toList args.toList ds p:=hA0;rw[Tryz.params12]at hA hval;obtain⟨v0,v1,v2,d0,d1,d2,p0,p1,p2,rfl,rfl,rfl,h0,h1,h2⟩:=trodAll_three hA;obtain⟨ps0,hl0,hok0,hr0⟩:=adL (.inl ⟨_,Tryz.underlying27⟩) o27 (hval 0 27 v0 rfl rfl) h0;obtain⟨a0_0,a0_1,a0_2,a0_3,rfl⟩:∃a0_0 a0_1 a0_2 a0_3,ps0=[a0_0,a0_1,a0_2,a0_3]:=by
  match ps0,hl0 with
  | [a0_0,a0_1,a0_2,a0_3],_=>exact⟨_,_,_,_,rfl⟩
 obtain⟨x0_0,e0_0,w0_0⟩:=hok0 0 (by decide)
 obtain⟨x0_1,e0_1,w0_1⟩:=hok0 1 (by decide)
 obtain⟨x0_2,e0_2,w0_2⟩:=hok0 2 (by decide)
 obtain⟨x0_3,e0_3,w0_3⟩:=hok0 3 (by decide)
 simp only[aC]at e0_0 e0_1 e0_2 e0_3;subst e0_0 e0_1 e0_2 e0_3;obtain⟨ps1,hl1,hok1,hr1⟩:=adL (.inl ⟨_,Tryz.underlying35⟩) o35 (hval 1 35 v1 rfl rfl) h1;obtain⟨a1_0,a1_1,rfl⟩:∃a1_0 a1_1,ps1=[a1_0,a1_1]:=by
  match ps1,hl1 with
  | [a1_0,a1_1],_=>exact⟨_,_,rfl⟩
 obtain⟨x1_0,e1_0,w1_0⟩:=hok1 0 (by decide)
 obtain⟨x1_1,e1_1,w1_1⟩:=hok1 1 (by decide)
 simp only[aC]at e1_0 e1_1;subst e1_0 e1_1;obtain⟨ps2,hl2,hok2,hr2⟩:=adL (.inl ⟨_,Tryz.underlying40⟩) ai9 (hval 2 40 v2 rfl rfl) h2;obtain⟨a2_0,a2_1,a2_2,a2_3,rfl⟩:∃a2_0 a2_1 a2_2 a2_3,ps2=[a2_0,a2_1,a2_2,a2_3]:=by
  match ps2,hl2 with
  | [a2_0,a2_1,a2_2,a2_3],_=>exact⟨_,_,_,_,rfl⟩
 obtain⟨x2_0,e2_0,w2_0⟩:=hok2 0 (by decide)
 obtain⟨x2_1,e2_1,w2_1⟩:=hok2 1 (by decide)
 obtain⟨x2_2,e2_2,w2_2⟩:=hok2 2 (by decide)
 obtain⟨x2_3,e2_3,w2_3⟩:=hok2 3 (by decide)
 simp only[aC]at e2_0 e2_1 e2_2 e2_3;subst e2_0 e2_1 e2_2 e2_3;refine(adM (ain x0_0 x0_1 x0_2 x0_3 ⟨x1_0,x1_1⟩ x2_0 x2_1 x2_2 x2_3 w1_0.2) ⟨rfl,fun i hi=>?_⟩ (adR hL)).mono fun e W' ⟨he,hB⟩=>?_
 ·match i,hi with
  |0,_=>exact hr0
  |1,_=>exact hr1
  |2,_=>exact hr2
 ·subst he
  exact⟨_,rfl,adN (tb:=4) laidOut (by kernel_rfl) Tryz.underlying4 (by kernel_rfl) rfl rfl hW' hB⟩
theorem ahs:Tryz.checked.prog.funcNamed "talisman/talismanlaw09.PuzzleStates" =some 12:=by kernel_rfl
theorem ahC:(Rows.puzzleStatesRow.inPlace==Tryz.checked.prog.inPlace 12)=true:=by kernel_rfl
theorem ahD:(Rows.puzzleStatesRow.unfollowed==Tryz.checked.prog.unfollowed 12)=true:=by kernel_rfl
theorem ahE:(Rows.puzzleStatesRow.recurses==Tryz.checked.prog.recurses 12)=true:=by kernel_rfl
theorem ahF:(Rows.puzzleStatesRow.named==Tryz.checked.prog.varsNamed 12)=true:=by kernel_rfl
theorem ahI:joinedFacts Tryz.checked.prog 12 Tryz.f12 Rows.puzzleStatesSpec Rows.puzzleStatesRow=true:=by
 unfold joinedFacts;rw[ahC,ahD,ahE,ahF]
 kernel_rfl
theorem ahJ:Tryz.f12.isInstance Tryz.checked.prog Rows.puzzleStatesRow.origin Rows.puzzleStatesRow.targs:=of_decide_eq_true (by kernel_rfl)
theorem ahK:Tryz.f12.isWrapper Tryz.checked.prog Rows.puzzleStatesRow.wrapper Rows.puzzleStatesRow.mainSum:=by unfold Func.isWrapper;rw[if_neg (by decide+kernel)];exact⟨rfl,rfl⟩
theorem ahz:Rows.PuzzleStatesSaid:=
 OpenClaim.holds_of_wide 12 Tryz.f12 rfl rfl rfl rfl rfl rfl rfl ⟨rfl,rfl,rfl,rfl,rfl⟩ rfl rfl rfl rfl rfl ahs Tryz.func12 ahI
  ahJ ahK
  (fun os started H enc _=>ahu os started H enc)
theorem ahL:Rows.puzzleStatesRow.wfByText (OpenSpec.ofChange Rows.puzzleStatesSpec)=true:=by kernel_rfl
theorem ahM:Tryz.pinned.checked.prog.mainIs=some (true, "d7f9779eb41a764bbdc5453d28e744ba85039e605ae6f62236fdb6a87690a579".toList):=by kernel_rfl
theorem ahN:true=Tryz.pinned.checked.prog.looks []:=by kernel_rfl
theorem ahO:([27,35,40].all fun u=>!Tryz.prog.wantsStandIn u)=true:=by kernel_rfl
theorem ahP:false=Rows.puzzleStatesRow.goesBy Tryz.pinned.checked.prog:=by kernel_rfl
theorem states_holds:Rows.PuzzleStatesCardSaid:=
 Claim7.holds_tied_plain_at .later [] [.data,.data,.data,.data,.sentinel,.sentinel,.pinned] true (true, "d7f9779eb41a764bbdc5453d28e744ba85039e605ae6f62236fdb6a87690a579") true
  ahz (fun _ h=>by cases h) ahL (fun _ h=>by cases h) puzzleStates_row_tie rfl ⟨rfl,rfl⟩ ahM rfl
  (fun f fn hf hfn=>by
   obtain rfl:f=12:=Option.some.inj (ahs.symm.trans hf) |>.symm;obtain rfl:fn=Tryz.f12:=(Option.some.inj (Tryz.func12.symm.trans hfn)).symm;exact⟨ahN,fun j t ht=>by
    rw[Tryz.params12]at ht;have hm:t∈[27,35,40]:=by simpa using Array.mem_of_getElem? ht
    have hall:=ahO;exact(show Tryz.prog.wantsStandIn t=false by simpa using List.all_eq_true.1 hall t hm)⟩)
  ahP
#print axioms states_holds
end Go.Proofs.YtcechbdgokjmgaaGreatDoor
