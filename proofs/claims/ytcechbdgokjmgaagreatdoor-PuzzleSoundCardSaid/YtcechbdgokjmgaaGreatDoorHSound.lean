/- The law PuzzleSound holds: no justified deduction in a state that allows a solution loses it. No condition. -/
import Derived.Test.YtcechbdgokjmgaaGreatDoorHSounda
namespace Go.Proofs.YtcechbdgokjmgaaGreatDoor
open Go.ChangeShapes Go.WideShapes Go.ChangeAt Go.RowKit Go.Eng Go.Eng.YtcechbdgokjmgaaGreatDoor
set_option linter.unusedVariables false
theorem o5j {H:Type} {enc:TypeId × Value→H} {W:World}:fq enc Tryz.prog W 5 [.int .u8]:=Qy Tryz.underlying5
set_option maxRecDepth 100000 in
theorem ahv (os:Os) (started:os.Started) (H:Type) (enc:TypeId × Value→H):
 ReturnsInHanded {} Tryz.checked os 13 .any (fun w args=>(Rows.puzzleSoundSpec.pre enc Tryz.prog Tryz.f13 [] false w args∧laidMetH Tryz.prog NA w)∧sizedMet enc Tryz.prog Tryz.f13 (OpenSpec.ofChange Rows.puzzleSoundSpec) false w args) (Rows.puzzleSoundSpec.post enc Tryz.prog Tryz.f13 false true false false):=by
 refine returnsInHanded_of_change_and (C:=Tryz.checked) (X:=fun w _=>laidMetH Tryz.prog NA w) (fun _ _ _ hh h=>h.of_heap hh) own started (by kernel_rfl) Tryz.func13
  (ChangeSpec.witness_shaped (enc:=enc) (C:=Tryz.checked) (os:=os) (X:=fun w _=>laidMetH Tryz.prog NA w) false (World.laidAll Tryz.prog os NA) #[.agg #[.int .i64 0,.slice none 0 0,.int .i64 0,.slice none 0 0],.slice none 0 0,.int .u8 0] 8 (World.laidAll_os _ _ _) (World.shaped_of_ZipB (by kernel_rfl) (by kernel_rfl)) (by kernel_rfl) (by kernel_rfl) (by kernel_rfl) (adO os _)) ?_
 intro W base args ds gs before hval0 hW _ _ hL _;have hval:∀(j:Nat) t v,Tryz.f13.params[j]? =some t→args[j]? =some v→Value.okWide Tryz.prog W .any base t v:=hval0;have hW':=hW;obtain⟨p,q,hA0,hV,rfl,hfz,hnd⟩:=hW;have hA:DataW.TrodAll enc Tryz.prog W 0 (fun _=>true) true Tryz.f13.params.toList args.toList ds p:=hA0;rw[Tryz.params13]at hA hval;obtain⟨v0,v1,v2,d0,d1,d2,p0,p1,p2,rfl,rfl,rfl,h0,h1,h2⟩:=trodAll_three hA;obtain⟨ps0,hl0,hok0,hr0⟩:=adL (.inl ⟨_,Tryz.underlying27⟩) o27 (hval 0 27 v0 rfl rfl) h0;obtain⟨a0_0,a0_1,a0_2,a0_3,rfl⟩:∃a0_0 a0_1 a0_2 a0_3,ps0=[a0_0,a0_1,a0_2,a0_3]:=by
  match ps0,hl0 with
  | [a0_0,a0_1,a0_2,a0_3],_=>exact⟨_,_,_,_,rfl⟩
 obtain⟨x0_0,e0_0,w0_0⟩:=hok0 0 (by decide)
 obtain⟨x0_1,e0_1,w0_1⟩:=hok0 1 (by decide)
 obtain⟨x0_2,e0_2,w0_2⟩:=hok0 2 (by decide)
 obtain⟨x0_3,e0_3,w0_3⟩:=hok0 3 (by decide)
 simp only[aC]at e0_0 e0_1 e0_2 e0_3;subst e0_0 e0_1 e0_2 e0_3;obtain⟨q1,hq1,hr1⟩:=acs (.inr (.inr ⟨_,Tryz.underlying25⟩)) o25 (hval 1 25 v1 rfl rfl) h1;obtain⟨x1_0,rfl,w1_0⟩:=hq1;obtain⟨q2,hq2,hr2⟩:=acs (.inl ⟨_,Tryz.underlying5⟩) o5j (hval 2 5 v2 rfl rfl) h2;obtain⟨x2_0,rfl,w2_0⟩:=hq2;refine(adM (aiq x0_0 x0_1 x0_2 x0_3 x1_0 x2_0 (ajb w2_0)) ⟨rfl,fun i hi=>?_⟩ (adR hL)).mono fun e W' ⟨he,hB⟩=>?_
 ·match i,hi with
  |0,_=>exact hr0
  |1,_=>exact hr1
  |2,_=>exact hr2
 ·subst he
  exact⟨_,rfl,adN (tb:=4) laidOut (by kernel_rfl) Tryz.underlying4 (by kernel_rfl) rfl rfl hW' hB⟩
theorem ahu:Tryz.checked.prog.funcNamed "talisman/talismanlaw09.PuzzleSound" =some 13:=by kernel_rfl
theorem ahH:(Rows.puzzleSoundRow.inPlace==Tryz.checked.prog.inPlace 13)=true:=by kernel_rfl
theorem ahI:(Rows.puzzleSoundRow.unfollowed==Tryz.checked.prog.unfollowed 13)=true:=by kernel_rfl
theorem ahJ:(Rows.puzzleSoundRow.recurses==Tryz.checked.prog.recurses 13)=true:=by kernel_rfl
theorem ahK:(Rows.puzzleSoundRow.named==Tryz.checked.prog.varsNamed 13)=true:=by kernel_rfl
theorem ahN:joinedFacts Tryz.checked.prog 13 Tryz.f13 Rows.puzzleSoundSpec Rows.puzzleSoundRow=true:=by
 unfold joinedFacts;rw[ahH,ahI,ahJ,ahK]
 kernel_rfl
theorem ahO:Tryz.f13.isInstance Tryz.checked.prog Rows.puzzleSoundRow.origin Rows.puzzleSoundRow.targs:=of_decide_eq_true (by kernel_rfl)
theorem ahP:Tryz.f13.isWrapper Tryz.checked.prog Rows.puzzleSoundRow.wrapper Rows.puzzleSoundRow.mainSum:=by unfold Func.isWrapper;rw[if_neg (by decide+kernel)];exact⟨rfl,rfl⟩
theorem ahB:Rows.PuzzleSoundSaid:=
 OpenClaim.holds_of_wide 13 Tryz.f13 rfl rfl rfl rfl rfl rfl rfl ⟨rfl,rfl,rfl,rfl,rfl⟩ rfl rfl rfl rfl rfl ahu Tryz.func13 ahN
  ahO ahP
  (fun os started H enc _=>ahv os started H enc)
theorem ahQ:Rows.puzzleSoundRow.wfByText (OpenSpec.ofChange Rows.puzzleSoundSpec)=true:=by kernel_rfl
theorem ahR:Tryz.pinned.checked.prog.mainIs=some (true, "d7f9779eb41a764bbdc5453d28e744ba85039e605ae6f62236fdb6a87690a579".toList):=by kernel_rfl
theorem ahS:true=Tryz.pinned.checked.prog.looks []:=by kernel_rfl
theorem ahT:([27,25,5].all fun u=>!Tryz.prog.wantsStandIn u)=true:=by kernel_rfl
theorem ahU:false=Rows.puzzleSoundRow.goesBy Tryz.pinned.checked.prog:=by kernel_rfl
theorem sound_holds:Rows.PuzzleSoundCardSaid:=
 Claim7.holds_tied_plain_at .later [] [.data,.data,.data,.data,.sentinel,.sentinel,.pinned] true (true, "d7f9779eb41a764bbdc5453d28e744ba85039e605ae6f62236fdb6a87690a579") true
  ahB (fun _ h=>by cases h) ahQ (fun _ h=>by cases h) puzzleSound_row_tie rfl ⟨rfl,rfl⟩ ahR rfl
  (fun f fn hf hfn=>by
   obtain rfl:f=13:=Option.some.inj (ahu.symm.trans hf) |>.symm;obtain rfl:fn=Tryz.f13:=(Option.some.inj (Tryz.func13.symm.trans hfn)).symm;exact⟨ahS,fun j t ht=>by
    rw[Tryz.params13]at ht;have hm:t∈[27,25,5]:=by simpa using Array.mem_of_getElem? ht
    have hall:=ahT;exact(show Tryz.prog.wantsStandIn t=false by simpa using List.all_eq_true.1 hall t hm)⟩)
  ahU
#print axioms sound_holds
end Go.Proofs.YtcechbdgokjmgaaGreatDoor
