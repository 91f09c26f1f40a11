/- The law PuzzleTexts holds: Print returns the text or the error of the reference, Read the puzzle, or the error and its line. No condition. -/
import Derived.Test.YtcechbdgokjmgaaGreatDoorHTextsa
namespace Go.Proofs.YtcechbdgokjmgaaGreatDoor
open Go.ChangeShapes Go.WideShapes Go.ChangeAt Go.RowKit Go.Eng Go.Eng.YtcechbdgokjmgaaGreatDoor
set_option linter.unusedVariables false
set_option maxRecDepth 100000 in
theorem ahw (os:Os) (started:os.Started) (H:Type) (enc:TypeId × Value→H):
 ReturnsInHanded {} Tryz.checked os 6 .any (fun w args=>(Rows.puzzleTextsSpec.pre enc Tryz.prog Tryz.f6 [] false w args∧laidMetH Tryz.prog NA w)∧sizedMet enc Tryz.prog Tryz.f6 (OpenSpec.ofChange Rows.puzzleTextsSpec) false w args) (Rows.puzzleTextsSpec.post enc Tryz.prog Tryz.f6 false true false false):=by
 refine returnsInHanded_of_change_and (C:=Tryz.checked) (X:=fun w _=>laidMetH Tryz.prog NA w) (fun _ _ _ hh h=>h.of_heap hh) own started (by kernel_rfl) Tryz.func6
  (ChangeSpec.witness_shaped (enc:=enc) (C:=Tryz.checked) (os:=os) (X:=fun w _=>laidMetH Tryz.prog NA w) false (World.laidAll Tryz.prog os NA) #[.agg #[.int .i64 0,.slice none 0 0,.int .i64 0,.slice none 0 0],.string ⟨#[]⟩] 8 (World.laidAll_os _ _ _) (World.shaped_of_ZipB (by kernel_rfl) (by kernel_rfl)) (by kernel_rfl) (by kernel_rfl) (by kernel_rfl) (adO os _)) ?_
 intro W base args ds gs before hval0 hW _ _ hL _;have hval:∀(j:Nat) t v,Tryz.f6.params[j]? =some t→args[j]? =some v→Value.okWide Tryz.prog W .any base t v:=hval0;have hW':=hW;obtain⟨p,q,hA0,hV,rfl,hfz,hnd⟩:=hW;have hA:DataW.TrodAll enc Tryz.prog W 0 (fun _=>true) true Tryz.f6.params.toList args.toList ds p:=hA0;rw[Tryz.params6]at hA hval;obtain⟨v0,v1,d0,d1,p0,p1,rfl,rfl,rfl,h0,h1⟩:=trodAll_two hA;obtain⟨ps0,hl0,hok0,hr0⟩:=adL (.inl ⟨_,Tryz.underlying27⟩) o27 (hval 0 27 v0 rfl rfl) h0;obtain⟨a0_0,a0_1,a0_2,a0_3,rfl⟩:∃a0_0 a0_1 a0_2 a0_3,ps0=[a0_0,a0_1,a0_2,a0_3]:=by
  match ps0,hl0 with
  | [a0_0,a0_1,a0_2,a0_3],_=>exact⟨_,_,_,_,rfl⟩
 obtain⟨x0_0,e0_0,w0_0⟩:=hok0 0 (by decide)
 obtain⟨x0_1,e0_1,w0_1⟩:=hok0 1 (by decide)
 obtain⟨x0_2,e0_2,w0_2⟩:=hok0 2 (by decide)
 obtain⟨x0_3,e0_3,w0_3⟩:=hok0 3 (by decide)
 simp only[aC]at e0_0 e0_1 e0_2 e0_3;subst e0_0 e0_1 e0_2 e0_3;obtain⟨q1,hq1,hr1⟩:=acs (.inr (.inl Tryz.underlying9)) o9 (hval 1 9 v1 rfl rfl) h1;obtain⟨x1_0,rfl,w1_0⟩:=hq1;refine(adM (ai5 x0_0 x0_1 x0_2 x0_3 x1_0 w0_3.2) ⟨rfl,fun i hi=>?_⟩ (adR hL)).mono fun e W' ⟨he,hB⟩=>?_
 ·match i,hi with
  |0,_=>exact hr0
  |1,_=>exact hr1
 ·subst he
  exact⟨_,rfl,adN (tb:=4) laidOut (by kernel_rfl) Tryz.underlying4 (by kernel_rfl) rfl rfl hW' hB⟩
theorem ahu:Tryz.checked.prog.funcNamed "talisman/talismanlaw09.PuzzleTexts" =some 6:=by kernel_rfl
theorem ahS:(Rows.puzzleTextsRow.inPlace==Tryz.checked.prog.inPlace 6)=true:=by kernel_rfl
theorem ahT:(Rows.puzzleTextsRow.unfollowed==Tryz.checked.prog.unfollowed 6)=true:=by kernel_rfl
theorem ahU:(Rows.puzzleTextsRow.recurses==Tryz.checked.prog.recurses 6)=true:=by kernel_rfl
theorem ahV:(Rows.puzzleTextsRow.named==Tryz.checked.prog.varsNamed 6)=true:=by kernel_rfl
theorem ah0:joinedFacts Tryz.checked.prog 6 Tryz.f6 Rows.puzzleTextsSpec Rows.puzzleTextsRow=true:=by
 unfold joinedFacts;rw[ahS,ahT,ahU,ahV]
 kernel_rfl
theorem ah1:Tryz.f6.isInstance Tryz.checked.prog Rows.puzzleTextsRow.origin Rows.puzzleTextsRow.targs:=of_decide_eq_true (by kernel_rfl)
theorem ah2:Tryz.f6.isWrapper Tryz.checked.prog Rows.puzzleTextsRow.wrapper Rows.puzzleTextsRow.mainSum:=by unfold Func.isWrapper;rw[if_neg (by decide+kernel)];exact⟨rfl,rfl⟩
theorem ahF:Rows.PuzzleTextsSaid:=
 OpenClaim.holds_of_wide 6 Tryz.f6 rfl rfl rfl rfl rfl rfl rfl ⟨rfl,rfl,rfl,rfl,rfl⟩ rfl rfl rfl rfl rfl ahu Tryz.func6 ah0
  ah1 ah2
  (fun os started H enc _=>ahw os started H enc)
theorem ah3:Rows.puzzleTextsRow.wfByText (OpenSpec.ofChange Rows.puzzleTextsSpec)=true:=by kernel_rfl
theorem ah4:Tryz.pinned.checked.prog.mainIs=some (true, "d7f9779eb41a764bbdc5453d28e744ba85039e605ae6f62236fdb6a87690a579".toList):=by kernel_rfl
theorem ah5:true=Tryz.pinned.checked.prog.looks []:=by kernel_rfl
theorem ah6:([27,9].all fun u=>!Tryz.prog.wantsStandIn u)=true:=by kernel_rfl
theorem ah7:false=Rows.puzzleTextsRow.goesBy Tryz.pinned.checked.prog:=by kernel_rfl
theorem texts_holds:Rows.PuzzleTextsCardSaid:=
 Claim7.holds_tied_plain_at .later [] [.data,.data,.data,.data,.sentinel,.sentinel,.pinned] true (true, "d7f9779eb41a764bbdc5453d28e744ba85039e605ae6f62236fdb6a87690a579") true
  ahF (fun _ h=>by cases h) ah3 (fun _ h=>by cases h) puzzleTexts_row_tie rfl ⟨rfl,rfl⟩ ah4 rfl
  (fun f fn hf hfn=>by
   obtain rfl:f=6:=Option.some.inj (ahu.symm.trans hf) |>.symm;obtain rfl:fn=Tryz.f6:=(Option.some.inj (Tryz.func6.symm.trans hfn)).symm;exact⟨ah5,fun j t ht=>by
    rw[Tryz.params6]at ht;have hm:t∈[27,9]:=by simpa using Array.mem_of_getElem? ht
    have hall:=ah6;exact(show Tryz.prog.wantsStandIn t=false by simpa using List.all_eq_true.1 hall t hm)⟩)
  ah7
#print axioms texts_holds
end Go.Proofs.YtcechbdgokjmgaaGreatDoor
