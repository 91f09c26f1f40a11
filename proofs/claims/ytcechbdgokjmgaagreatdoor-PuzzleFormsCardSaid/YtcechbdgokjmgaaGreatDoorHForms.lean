/- The law PuzzleForms: the errors, the state at the beginning and the hint of a puzzle are those of the reference. -/
import Derived.Test.YtcechbdgokjmgaaGreatDoorHFormsc
namespace Go.Proofs.YtcechbdgokjmgaaGreatDoor
open Go.ChangeShapes Go.WideShapes Go.ChangeAt Go.RowKit Go.Eng Go.Eng.YtcechbdgokjmgaaGreatDoor
set_option linter.unusedVariables false
set_option maxRecDepth 100000 in
theorem vD (os:Os) (started:os.Started) (H:Type) (enc:TypeId × Value→H):
 ReturnsInHanded {} Tryz.checked os 3 .any (fun w args=>(Rows.puzzleFormsSpec.pre enc Tryz.prog Tryz.f3 [] false w args∧laidMetH Tryz.prog rV w)∧sizedMet enc Tryz.prog Tryz.f3 (OpenSpec.ofChange Rows.puzzleFormsSpec) false w args) (Rows.puzzleFormsSpec.post enc Tryz.prog Tryz.f3 false true false false):=by
 refine returnsInHanded_of_change_and (C:=Tryz.checked) (X:=fun w _=>laidMetH Tryz.prog rV w) (fun _ _ _ hh h=>h.of_heap hh) own started (by kernel_rfl) Tryz.func3
  (ChangeSpec.witness_shaped (enc:=enc) (C:=Tryz.checked) (os:=os) (X:=fun w _=>laidMetH Tryz.prog rV w) false (World.laidAll Tryz.prog os rV) #[.agg #[.int .i64 0,.slice none 0 0,.int .i64 0,.slice none 0 0]] 8 (World.laidAll_os _ _ _) (World.shaped_of_ZipB (by kernel_rfl) (by kernel_rfl)) (by kernel_rfl) (by kernel_rfl) (by kernel_rfl) (RU os _)) ?_
 intro W base args ds gs before hval0 hW _ _ hL _
 have hval:∀(j:Nat) t v,Tryz.f3.params[j]? =some t→args[j]? =some v→Value.okWide Tryz.prog W .any base t v:=hval0
 have hW':=hW
 obtain⟨p,q,hA0,hV,rfl,hfz,hnd⟩:=hW
 have hA:DataW.TrodAll enc Tryz.prog W 0 (fun _=>true) true Tryz.f3.params.toList args.toList ds p:=hA0
 rw[Tryz.params3]at hA hval
 obtain⟨v0,d0,rfl,rfl,h0⟩:=trodAll_one hA
 obtain⟨ps0,hl0,hok0,hr0⟩:=RP (.inl ⟨_,Tryz.underlying27⟩) o27 (hval 0 27 v0 rfl rfl) h0
 obtain⟨a0_0,a0_1,a0_2,a0_3,rfl⟩:∃a0_0 a0_1 a0_2 a0_3,ps0=[a0_0,a0_1,a0_2,a0_3]:=by
  match ps0,hl0 with
  | [a0_0,a0_1,a0_2,a0_3],_=>exact⟨_,_,_,_,rfl⟩
 obtain⟨x0_0,e0_0,w0_0⟩:=hok0 0 (by decide)
 obtain⟨x0_1,e0_1,w0_1⟩:=hok0 1 (by decide)
 obtain⟨x0_2,e0_2,w0_2⟩:=hok0 2 (by decide)
 obtain⟨x0_3,e0_3,w0_3⟩:=hok0 3 (by decide)
 simp only[aC]at e0_0 e0_1 e0_2 e0_3
 subst e0_0 e0_1 e0_2 e0_3
 refine(RQ (QZ x0_0 x0_1 x0_2 x0_3) ⟨rfl,fun i hi=>?_⟩ (XW hL)).mono fun e W' ⟨he,hB⟩=>?_
 ·match i,hi with
  |0,_=>exact hr0
 ·subst he
  exact⟨_,rfl,RS (tb:=4) laidOut (by kernel_rfl) Tryz.underlying4 (by kernel_rfl) rfl rfl hW' hB⟩
theorem sS:Tryz.checked.prog.funcNamed "talisman/talismanlaw09.PuzzleForms" =some 3:=by kernel_rfl
theorem Bw:(Rows.puzzleFormsRow.inPlace==Tryz.checked.prog.inPlace 3)=true:=by kernel_rfl
theorem Bz:(Rows.puzzleFormsRow.unfollowed==Tryz.checked.prog.unfollowed 3)=true:=by kernel_rfl
theorem BA:(Rows.puzzleFormsRow.recurses==Tryz.checked.prog.recurses 3)=true:=by kernel_rfl
theorem BD:(Rows.puzzleFormsRow.named==Tryz.checked.prog.varsNamed 3)=true:=by kernel_rfl
theorem CY:joinedFacts Tryz.checked.prog 3 Tryz.f3 Rows.puzzleFormsSpec Rows.puzzleFormsRow=true:=by
 unfold joinedFacts
 rw[Bw,Bz,BA,BD]
 kernel_rfl
theorem CZ:Tryz.f3.isInstance Tryz.checked.prog Rows.puzzleFormsRow.origin Rows.puzzleFormsRow.targs:=of_decide_eq_true (by kernel_rfl)
theorem C8:Tryz.f3.isWrapper Tryz.checked.prog Rows.puzzleFormsRow.wrapper Rows.puzzleFormsRow.mainSum:=by unfold Func.isWrapper;rw[if_neg (by decide+kernel)];exact⟨rfl,rfl⟩
theorem zI:Rows.PuzzleFormsSaid:=
 OpenClaim.holds_of_wide 3 Tryz.f3 rfl rfl rfl rfl rfl rfl rfl ⟨rfl,rfl,rfl,rfl,rfl⟩ rfl rfl rfl rfl rfl sS Tryz.func3 CY
  CZ C8
  (fun os started H enc _=>vD os started H enc)
theorem Da:Rows.puzzleFormsRow.wfByText (OpenSpec.ofChange Rows.puzzleFormsSpec)=true:=by kernel_rfl
theorem Db:Tryz.pinned.checked.prog.mainIs=some (true, "d7f9779eb41a764bbdc5453d28e744ba85039e605ae6f62236fdb6a87690a579".toList):=by kernel_rfl
theorem Dc:true=Tryz.pinned.checked.prog.looks []:=by kernel_rfl
theorem Df:([27].all fun u=>!Tryz.prog.wantsStandIn u)=true:=by kernel_rfl
theorem Dg:false=Rows.puzzleFormsRow.goesBy Tryz.pinned.checked.prog:=by kernel_rfl
theorem forms_holds:Rows.PuzzleFormsCardSaid:=
 Claim7.holds_tied_plain_at .later [] [.data,.data,.data,.data,.sentinel,.sentinel,.pinned] true (true, "d7f9779eb41a764bbdc5453d28e744ba85039e605ae6f62236fdb6a87690a579") true
  zI (fun _ h=>by cases h) Da (fun _ h=>by cases h) puzzleForms_row_tie rfl ⟨rfl,rfl⟩ Db rfl
  (fun f fn hf hfn=>by
   obtain rfl:f=3:=Option.some.inj (sS.symm.trans hf) |>.symm
   obtain rfl:fn=Tryz.f3:=(Option.some.inj (Tryz.func3.symm.trans hfn)).symm
   exact⟨Dc,fun j t ht=>by
    rw[Tryz.params3]at ht
    have hm:t∈[27]:=by simpa using Array.mem_of_getElem? ht
    have hall:=Df
    exact(show Tryz.prog.wantsStandIn t=false by simpa using List.all_eq_true.1 hall t hm)⟩)
  Dg
#print axioms forms_holds
end Go.Proofs.YtcechbdgokjmgaaGreatDoor
