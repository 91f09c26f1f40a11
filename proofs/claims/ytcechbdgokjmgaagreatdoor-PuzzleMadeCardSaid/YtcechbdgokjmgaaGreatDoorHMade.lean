/- The law PuzzleMade holds: what is made is solved up to the grade, and minimal. No condition. -/
import Derived.Test.YtcechbdgokjmgaaGreatDoorHMadec
namespace Go.Proofs.YtcechbdgokjmgaaGreatDoor
open Go.ChangeShapes Go.WideShapes Go.ChangeAt Go.RowKit Go.Eng Go.Eng.YtcechbdgokjmgaaGreatDoor
set_option linter.unusedVariables false
set_option maxRecDepth 100000 in
theorem xg (os:Os) (started:os.Started) (H:Type) (enc:TypeId × Value→H):
 ReturnsInHanded {} Tryz.checked os 9 .any (fun w args=>(Rows.puzzleMadeSpec.pre enc Tryz.prog Tryz.f9 [] false w args∧laidMetH Tryz.prog tH w)∧sizedMet enc Tryz.prog Tryz.f9 (OpenSpec.ofChange Rows.puzzleMadeSpec) false w args) (Rows.puzzleMadeSpec.post enc Tryz.prog Tryz.f9 false true false false):=by
 refine returnsInHanded_of_change_and (C:=Tryz.checked) (X:=fun w _=>laidMetH Tryz.prog tH w) (fun _ _ _ hh h=>h.of_heap hh) own started (by kernel_rfl) Tryz.func9
  (ChangeSpec.witness_shaped (enc:=enc) (C:=Tryz.checked) (os:=os) (X:=fun w _=>laidMetH Tryz.prog tH w) false (World.laidAll Tryz.prog os tH) #[.agg #[.int .i64 0,.slice none 0 0],.agg #[.slice none 0 0,.slice none 0 0,.int .i64 0]] 8 (World.laidAll_os _ _ _) (World.shaped_of_ZipB (by kernel_rfl) (by kernel_rfl)) (by kernel_rfl) (by kernel_rfl) (by kernel_rfl) (Sy os _)) ?_
 intro W base args ds gs before hval0 hW _ _ hL _;have hval:∀(j:Nat) t v,Tryz.f9.params[j]? =some t→args[j]? =some v→Value.okWide Tryz.prog W .any base t v:=hval0;have hW':=hW;obtain⟨p,q,hA0,hV,rfl,hfz,hnd⟩:=hW;have hA:DataW.TrodAll enc Tryz.prog W 0 (fun _=>true) true Tryz.f9.params.toList args.toList ds p:=hA0;rw[Tryz.params9]at hA hval;obtain⟨v0,v1,d0,d1,p0,p1,rfl,rfl,rfl,h0,h1⟩:=trodAll_two hA;obtain⟨ps0,hl0,hok0,hr0⟩:=FV (.inl ⟨_,Tryz.underlying24⟩) o24 (hval 0 24 v0 rfl rfl) h0;obtain⟨a0_0,a0_1,rfl⟩:∃a0_0 a0_1,ps0=[a0_0,a0_1]:=by
  match ps0,hl0 with
  | [a0_0,a0_1],_=>exact⟨_,_,rfl⟩
 obtain⟨x0_0,e0_0,w0_0⟩:=hok0 0 (by decide)
 obtain⟨x0_1,e0_1,w0_1⟩:=hok0 1 (by decide)
 simp only[aC]at e0_0 e0_1;subst e0_0 e0_1;obtain⟨ps1,hl1,hok1,hr1⟩:=FV (.inl ⟨_,Tryz.underlying85⟩) o85 (hval 1 85 v1 rfl rfl) h1;obtain⟨a1_0,a1_1,a1_2,rfl⟩:∃a1_0 a1_1 a1_2,ps1=[a1_0,a1_1,a1_2]:=by
  match ps1,hl1 with
  | [a1_0,a1_1,a1_2],_=>exact⟨_,_,_,rfl⟩
 obtain⟨x1_0,e1_0,w1_0⟩:=hok1 0 (by decide)
 obtain⟨x1_1,e1_1,w1_1⟩:=hok1 1 (by decide)
 obtain⟨x1_2,e1_2,w1_2⟩:=hok1 2 (by decide)
 simp only[aC]at e1_0 e1_1 e1_2;subst e1_0 e1_1 e1_2;refine(Sv (Vd x0_0 x0_1 x1_0 x1_1 x1_2 w1_0.2 w1_1.2) ⟨rfl,fun i hi=>?_⟩ (YC hL)).mono fun e W' ⟨he,hB⟩=>?_
 ·match i,hi with
  |0,_=>exact hr0
  |1,_=>exact hr1
 ·subst he
  exact⟨_,rfl,Sw (tb:=4) laidOut (by kernel_rfl) Tryz.underlying4 (by kernel_rfl) rfl rfl hW' hB⟩
theorem wu:Tryz.checked.prog.funcNamed "talisman/talismanlaw09.PuzzleMade" =some 9:=by kernel_rfl
theorem DU:(Rows.puzzleMadeRow.inPlace==Tryz.checked.prog.inPlace 9)=true:=by kernel_rfl
theorem DV:(Rows.puzzleMadeRow.unfollowed==Tryz.checked.prog.unfollowed 9)=true:=by kernel_rfl
theorem DW:(Rows.puzzleMadeRow.recurses==Tryz.checked.prog.recurses 9)=true:=by kernel_rfl
theorem DX:(Rows.puzzleMadeRow.named==Tryz.checked.prog.varsNamed 9)=true:=by kernel_rfl
theorem Ib:joinedFacts Tryz.checked.prog 9 Tryz.f9 Rows.puzzleMadeSpec Rows.puzzleMadeRow=true:=by
 unfold joinedFacts;rw[DU,DV,DW,DX]
 kernel_rfl
theorem Ic:Tryz.f9.isInstance Tryz.checked.prog Rows.puzzleMadeRow.origin Rows.puzzleMadeRow.targs:=of_decide_eq_true (by kernel_rfl)
theorem Ie:Tryz.f9.isWrapper Tryz.checked.prog Rows.puzzleMadeRow.wrapper Rows.puzzleMadeRow.mainSum:=by unfold Func.isWrapper;rw[if_neg (by decide+kernel)];exact⟨rfl,rfl⟩
theorem Co:Rows.PuzzleMadeSaid:=
 OpenClaim.holds_of_wide 9 Tryz.f9 rfl rfl rfl rfl rfl rfl rfl ⟨rfl,rfl,rfl,rfl,rfl⟩ rfl rfl rfl rfl rfl wu Tryz.func9 Ib
  Ic Ie
  (fun os started H enc _=>xg os started H enc)
theorem Ig:Rows.puzzleMadeRow.wfByText (OpenSpec.ofChange Rows.puzzleMadeSpec)=true:=by kernel_rfl
theorem Ih:Tryz.pinned.checked.prog.mainIs=some (true, "d7f9779eb41a764bbdc5453d28e744ba85039e605ae6f62236fdb6a87690a579".toList):=by kernel_rfl
theorem Ii:true=Tryz.pinned.checked.prog.looks []:=by kernel_rfl
theorem Ij:([24,85].all fun u=>!Tryz.prog.wantsStandIn u)=true:=by kernel_rfl
theorem Ik:false=Rows.puzzleMadeRow.goesBy Tryz.pinned.checked.prog:=by kernel_rfl
theorem made_holds:Rows.PuzzleMadeCardSaid:=
 Claim7.holds_tied_plain_at .later [] [.data,.data,.data,.data,.sentinel,.sentinel,.pinned] true (true, "d7f9779eb41a764bbdc5453d28e744ba85039e605ae6f62236fdb6a87690a579") true
  Co (fun _ h=>by cases h) Ig (fun _ h=>by cases h) puzzleMade_row_tie rfl ⟨rfl,rfl⟩ Ih rfl
  (fun f fn hf hfn=>by
   obtain rfl:f=9:=Option.some.inj (wu.symm.trans hf) |>.symm;obtain rfl:fn=Tryz.f9:=(Option.some.inj (Tryz.func9.symm.trans hfn)).symm;exact⟨Ii,fun j t ht=>by
    rw[Tryz.params9]at ht;have hm:t∈[24,85]:=by simpa using Array.mem_of_getElem? ht
    have hall:=Ij;exact(show Tryz.prog.wantsStandIn t=false by simpa using List.all_eq_true.1 hall t hm)⟩)
  Ik
#print axioms made_holds
end Go.Proofs.YtcechbdgokjmgaaGreatDoor
