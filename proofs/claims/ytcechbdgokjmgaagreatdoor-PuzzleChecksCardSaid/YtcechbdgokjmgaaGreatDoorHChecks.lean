/- The law PuzzleChecks holds: Check and Explain (of the first deduction) return the results or errors of the reference. No condition. -/
import Derived.Test.YtcechbdgokjmgaaGreatDoorHChecksa
namespace Go.Proofs.YtcechbdgokjmgaaGreatDoor
open Go.ChangeShapes Go.WideShapes Go.ChangeAt Go.RowKit Go.Eng Go.Eng.YtcechbdgokjmgaaGreatDoor
set_option linter.unusedVariables false
set_option maxRecDepth 100000 in
theorem ahp (os:Os) (started:os.Started) (H:Type) (enc:TypeId × Value→H):
 ReturnsInHanded {} Tryz.checked os 10 .any (fun w args=>(Rows.puzzleChecksSpec.pre enc Tryz.prog Tryz.f10 [] false w args∧laidMetH Tryz.prog NA w)∧sizedMet enc Tryz.prog Tryz.f10 (OpenSpec.ofChange Rows.puzzleChecksSpec) false w args) (Rows.puzzleChecksSpec.post enc Tryz.prog Tryz.f10 false true false false):=by
 refine returnsInHanded_of_change_and (C:=Tryz.checked) (X:=fun w _=>laidMetH Tryz.prog NA w) (fun _ _ _ hh h=>h.of_heap hh) own started (by kernel_rfl) Tryz.func10
  (ChangeSpec.witness_shaped (enc:=enc) (C:=Tryz.checked) (os:=os) (X:=fun w _=>laidMetH Tryz.prog NA w) false (World.laidAll Tryz.prog os NA) #[.agg #[.int .i64 0,.slice none 0 0,.int .i64 0,.slice none 0 0],.slice none 0 0] 8 (World.laidAll_os _ _ _) (World.shaped_of_ZipB (by kernel_rfl) (by kernel_rfl)) (by kernel_rfl) (by kernel_rfl) (by kernel_rfl) (adO os _)) ?_
 intro W base args ds gs before hval0 hW _ _ hL _;have hval:∀(j:Nat) t v,Tryz.f10.params[j]? =some t→args[j]? =some v→Value.okWide Tryz.prog W .any base t v:=hval0;have hW':=hW;obtain⟨p,q,hA0,hV,rfl,hfz,hnd⟩:=hW;have hA:DataW.TrodAll enc Tryz.prog W 0 (fun _=>true) true Tryz.f10.params.toList args.toList ds p:=hA0;rw[Tryz.params10]at hA hval;obtain⟨v0,v1,d0,d1,p0,p1,rfl,rfl,rfl,h0,h1⟩:=trodAll_two hA;obtain⟨ps0,hl0,hok0,hr0⟩:=adL (.inl ⟨_,Tryz.underlying27⟩) o27 (hval 0 27 v0 rfl rfl) h0;obtain⟨a0_0,a0_1,a0_2,a0_3,rfl⟩:∃a0_0 a0_1 a0_2 a0_3,ps0=[a0_0,a0_1,a0_2,a0_3]:=by
  match ps0,hl0 with
  | [a0_0,a0_1,a0_2,a0_3],_=>exact⟨_,_,_,_,rfl⟩
 obtain⟨x0_0,e0_0,w0_0⟩:=hok0 0 (by decide)
 obtain⟨x0_1,e0_1,w0_1⟩:=hok0 1 (by decide)
 obtain⟨x0_2,e0_2,w0_2⟩:=hok0 2 (by decide)
 obtain⟨x0_3,e0_3,w0_3⟩:=hok0 3 (by decide)
 simp only[aC]at e0_0 e0_1 e0_2 e0_3;subst e0_0 e0_1 e0_2 e0_3;obtain⟨x1_0,w1_0,hr1⟩:=aiP (hval 1 53 v1 rfl rfl) h1;refine(adM (aiG x0_0 x0_1 x0_2 x0_3 x1_0 w1_0) ⟨rfl,fun i hi=>?_⟩ (adR hL)).mono fun e W' ⟨he,hB⟩=>?_
 ·match i,hi with
  |0,_=>exact hr0
  |1,_=>exact hr1
 ·subst he
  exact⟨_,rfl,adN (tb:=4) laidOut (by kernel_rfl) Tryz.underlying4 (by kernel_rfl) rfl rfl hW' hB⟩
theorem TS:Tryz.checked.prog.funcNamed "talisman/talismanlaw09.PuzzleChecks" =some 10:=by kernel_rfl
theorem ahy:(Rows.puzzleChecksRow.inPlace==Tryz.checked.prog.inPlace 10)=true:=by kernel_rfl
theorem ahz:(Rows.puzzleChecksRow.unfollowed==Tryz.checked.prog.unfollowed 10)=true:=by kernel_rfl
theorem ahA:(Rows.puzzleChecksRow.recurses==Tryz.checked.prog.recurses 10)=true:=by kernel_rfl
theorem ahB:(Rows.puzzleChecksRow.named==Tryz.checked.prog.varsNamed 10)=true:=by kernel_rfl
theorem ahJ:joinedFacts Tryz.checked.prog 10 Tryz.f10 Rows.puzzleChecksSpec Rows.puzzleChecksRow=true:=by
 unfold joinedFacts;rw[ahy,ahz,ahA,ahB]
 kernel_rfl
theorem ahK:Tryz.f10.isInstance Tryz.checked.prog Rows.puzzleChecksRow.origin Rows.puzzleChecksRow.targs:=of_decide_eq_true (by kernel_rfl)
theorem ahL:Tryz.f10.isWrapper Tryz.checked.prog Rows.puzzleChecksRow.wrapper Rows.puzzleChecksRow.mainSum:=by unfold Func.isWrapper;rw[if_neg (by decide+kernel)];exact⟨rfl,rfl⟩
theorem ahw:Rows.PuzzleChecksSaid:=
 OpenClaim.holds_of_wide 10 Tryz.f10 rfl rfl rfl rfl rfl rfl rfl ⟨rfl,rfl,rfl,rfl,rfl⟩ rfl rfl rfl rfl rfl TS Tryz.func10 ahJ
  ahK ahL
  (fun os started H enc _=>ahp os started H enc)
theorem ahM:Rows.puzzleChecksRow.wfByText (OpenSpec.ofChange Rows.puzzleChecksSpec)=true:=by kernel_rfl
theorem ahN:Tryz.pinned.checked.prog.mainIs=some (true, "d7f9779eb41a764bbdc5453d28e744ba85039e605ae6f62236fdb6a87690a579".toList):=by kernel_rfl
theorem ahO:true=Tryz.pinned.checked.prog.looks []:=by kernel_rfl
theorem ahP:([27,53].all fun u=>!Tryz.prog.wantsStandIn u)=true:=by kernel_rfl
theorem ahQ:false=Rows.puzzleChecksRow.goesBy Tryz.pinned.checked.prog:=by kernel_rfl
theorem checks_holds:Rows.PuzzleChecksCardSaid:=
 Claim7.holds_tied_plain_at .later [] [.data,.data,.data,.data,.sentinel,.sentinel,.pinned] true (true, "d7f9779eb41a764bbdc5453d28e744ba85039e605ae6f62236fdb6a87690a579") true
  ahw (fun _ h=>by cases h) ahM (fun _ h=>by cases h) puzzleChecks_row_tie rfl ⟨rfl,rfl⟩ ahN rfl
  (fun f fn hf hfn=>by
   obtain rfl:f=10:=Option.some.inj (TS.symm.trans hf) |>.symm;obtain rfl:fn=Tryz.f10:=(Option.some.inj (Tryz.func10.symm.trans hfn)).symm;exact⟨ahO,fun j t ht=>by
    rw[Tryz.params10]at ht;have hm:t∈[27,53]:=by simpa using Array.mem_of_getElem? ht
    have hall:=ahP;exact(show Tryz.prog.wantsStandIn t=false by simpa using List.all_eq_true.1 hall t hm)⟩)
  ahQ
#print axioms checks_holds
end Go.Proofs.YtcechbdgokjmgaaGreatDoor
