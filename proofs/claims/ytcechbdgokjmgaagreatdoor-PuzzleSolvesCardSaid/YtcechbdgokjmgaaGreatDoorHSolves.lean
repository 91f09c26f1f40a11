/- The law PuzzleSolves holds: Solve, Grade and Score return the results or errors of the reference. No condition. -/
import Derived.Test.YtcechbdgokjmgaaGreatDoorHSolvesd
namespace Go.Proofs.YtcechbdgokjmgaaGreatDoor
open Go.ChangeShapes Go.WideShapes Go.ChangeAt Go.RowKit Go.Eng Go.Eng.YtcechbdgokjmgaaGreatDoor
set_option linter.unusedVariables false
set_option maxRecDepth 100000 in
theorem tN (os:Os) (started:os.Started) (H:Type) (enc:TypeId × Value→H):
 ReturnsInHanded {} Tryz.checked os 4 .any (fun w args=>(Rows.puzzleSolvesSpec.pre enc Tryz.prog Tryz.f4 [] false w args∧laidMetH Tryz.prog sH w)∧sizedMet enc Tryz.prog Tryz.f4 (OpenSpec.ofChange Rows.puzzleSolvesSpec) false w args) (Rows.puzzleSolvesSpec.post enc Tryz.prog Tryz.f4 false true false false):=by
 refine returnsInHanded_of_change_and (C:=Tryz.checked) (X:=fun w _=>laidMetH Tryz.prog sH w) (fun _ _ _ hh h=>h.of_heap hh) own started (by kernel_rfl) Tryz.func4
  (ChangeSpec.witness_shaped (enc:=enc) (C:=Tryz.checked) (os:=os) (X:=fun w _=>laidMetH Tryz.prog sH w) false (World.laidAll Tryz.prog os sH) #[.agg #[.int .i64 0,.slice none 0 0,.int .i64 0,.slice none 0 0],.int .i64 0] 8 (World.laidAll_os _ _ _) (World.shaped_of_ZipB (by kernel_rfl) (by kernel_rfl)) (by kernel_rfl) (by kernel_rfl) (by kernel_rfl) (Tf os _)) ?_
 intro W base args ds gs before hval0 hW _ _ hL _
 have hval:∀(j:Nat) t v,Tryz.f4.params[j]? =some t→args[j]? =some v→Value.okWide Tryz.prog W .any base t v:=hval0
 have hW':=hW
 obtain⟨p,q,hA0,hV,rfl,hfz,hnd⟩:=hW
 have hA:DataW.TrodAll enc Tryz.prog W 0 (fun _=>true) true Tryz.f4.params.toList args.toList ds p:=hA0
 rw[Tryz.params4]at hA hval
 obtain⟨v0,v1,d0,d1,p0,p1,rfl,rfl,rfl,h0,h1⟩:=trodAll_two hA
 obtain⟨ps0,hl0,hok0,hr0⟩:=Tc (.inl ⟨_,Tryz.underlying27⟩) o27 (hval 0 27 v0 rfl rfl) h0
 obtain⟨a0_0,a0_1,a0_2,a0_3,rfl⟩:∃a0_0 a0_1 a0_2 a0_3,ps0=[a0_0,a0_1,a0_2,a0_3]:=by
  match ps0,hl0 with
  | [a0_0,a0_1,a0_2,a0_3],_=>exact⟨_,_,_,_,rfl⟩
 obtain⟨x0_0,e0_0,w0_0⟩:=hok0 0 (by decide)
 obtain⟨x0_1,e0_1,w0_1⟩:=hok0 1 (by decide)
 obtain⟨x0_2,e0_2,w0_2⟩:=hok0 2 (by decide)
 obtain⟨x0_3,e0_3,w0_3⟩:=hok0 3 (by decide)
 simp only[aD]at e0_0 e0_1 e0_2 e0_3
 subst e0_0 e0_1 e0_2 e0_3
 obtain⟨q1,hq1,hr1⟩:=P9 (.inl ⟨_,Tryz.underlying3⟩) o3 (hval 1 3 v1 rfl rfl) h1
 obtain⟨x1_0,rfl,w1_0⟩:=hq1
 refine(Td (O6 x0_0 x0_1 x0_2 x0_3 x1_0) ⟨rfl,fun i hi=>?_⟩ (Y1 hL)).mono fun e W' ⟨he,hB⟩=>?_
 ·match i,hi with
  |0,_=>exact hr0
  |1,_=>exact hr1
 ·subst he
  exact⟨_,rfl,Te (tb:=4) laidOut (by kernel_rfl) Tryz.underlying4 (by kernel_rfl) rfl rfl hW' hB⟩
theorem q9:Tryz.checked.prog.funcNamed "talisman/talismanlaw09.PuzzleSolves" =some 4:=by kernel_rfl
theorem Ae:(Rows.puzzleSolvesRow.inPlace==Tryz.checked.prog.inPlace 4)=true:=by kernel_rfl
theorem Af:(Rows.puzzleSolvesRow.unfollowed==Tryz.checked.prog.unfollowed 4)=true:=by kernel_rfl
theorem Ag:(Rows.puzzleSolvesRow.recurses==Tryz.checked.prog.recurses 4)=true:=by kernel_rfl
theorem Ah:(Rows.puzzleSolvesRow.named==Tryz.checked.prog.varsNamed 4)=true:=by kernel_rfl
theorem Ck:joinedFacts Tryz.checked.prog 4 Tryz.f4 Rows.puzzleSolvesSpec Rows.puzzleSolvesRow=true:=by
 unfold joinedFacts
 rw[Ae,Af,Ag,Ah]
 kernel_rfl
theorem Cm:Tryz.f4.isInstance Tryz.checked.prog Rows.puzzleSolvesRow.origin Rows.puzzleSolvesRow.targs:=of_decide_eq_true (by kernel_rfl)
theorem Cn:Tryz.f4.isWrapper Tryz.checked.prog Rows.puzzleSolvesRow.wrapper Rows.puzzleSolvesRow.mainSum:=by unfold Func.isWrapper;rw[if_neg (by decide+kernel)];exact⟨rfl,rfl⟩
theorem yF:Rows.PuzzleSolvesSaid:=
 OpenClaim.holds_of_wide 4 Tryz.f4 rfl rfl rfl rfl rfl rfl rfl ⟨rfl,rfl,rfl,rfl,rfl⟩ rfl rfl rfl rfl rfl q9 Tryz.func4 Ck
  Cm Cn
  (fun os started H enc _=>tN os started H enc)
theorem Co:Rows.puzzleSolvesRow.wfByText (OpenSpec.ofChange Rows.puzzleSolvesSpec)=true:=by kernel_rfl
theorem Cq:Tryz.pinned.checked.prog.mainIs=some (true, "d7f9779eb41a764bbdc5453d28e744ba85039e605ae6f62236fdb6a87690a579".toList):=by kernel_rfl
theorem Cr:true=Tryz.pinned.checked.prog.looks []:=by kernel_rfl
theorem Ct:([27,3].all fun u=>!Tryz.prog.wantsStandIn u)=true:=by kernel_rfl
theorem Cu:false=Rows.puzzleSolvesRow.goesBy Tryz.pinned.checked.prog:=by kernel_rfl
theorem solves_holds:Rows.PuzzleSolvesCardSaid:=
 Claim7.holds_tied_plain_at .later [] [.data,.data,.data,.data,.sentinel,.sentinel,.pinned] true (true, "d7f9779eb41a764bbdc5453d28e744ba85039e605ae6f62236fdb6a87690a579") true
  yF (fun _ h=>by cases h) Co (fun _ h=>by cases h) puzzleSolves_row_tie rfl ⟨rfl,rfl⟩ Cq rfl
  (fun f fn hf hfn=>by
   obtain rfl:f=4:=Option.some.inj (q9.symm.trans hf) |>.symm
   obtain rfl:fn=Tryz.f4:=(Option.some.inj (Tryz.func4.symm.trans hfn)).symm
   exact⟨Cr,fun j t ht=>by
    rw[Tryz.params4]at ht
    have hm:t∈[27,3]:=by simpa using Array.mem_of_getElem? ht
    have hall:=Ct
    exact(show Tryz.prog.wantsStandIn t=false by simpa using List.all_eq_true.1 hall t hm)⟩)
  Cu
#print axioms solves_holds
end Go.Proofs.YtcechbdgokjmgaaGreatDoor
