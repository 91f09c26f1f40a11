/- The law AlgebraGroups holds: the group laws of permutations. No condition. -/
import Derived.Test.YtmkagljofpddpaaGreatDoorHGroupse
namespace Go.Proofs.YtmkagljofpddpaaGreatDoor
open Go.ChangeShapes Go.WideShapes Go.ChangeAt Go.RowKit Go.Eng Go.Eng.YtmkagljofpddpaaGreatDoor
set_option linter.unusedVariables false
set_option maxRecDepth 100000 in
theorem uW (os:Os) (started:os.Started) (H:Type) (enc:TypeId × Value→H):
 ReturnsInHanded {} Tryz.checked os 13 .any (fun w args=>(Rows.algebraGroupsSpec.pre enc Tryz.prog Tryz.f13 [] false w args∧laidMetH Tryz.prog uR w)∧sizedMet enc Tryz.prog Tryz.f13 (OpenSpec.ofChange Rows.algebraGroupsSpec) false w args) (Rows.algebraGroupsSpec.post enc Tryz.prog Tryz.f13 false true false false):=by
 refine returnsInHanded_of_change_and (C:=Tryz.checked) (X:=fun w _=>laidMetH Tryz.prog uR w) (fun _ _ _ hh h=>h.of_heap hh) own started (by kernel_rfl) Tryz.func13
  (ChangeSpec.witness_shaped (enc:=enc) (C:=Tryz.checked) (os:=os) (X:=fun w _=>laidMetH Tryz.prog uR w) false (World.laidAll Tryz.prog os uR) #[.slice none 0 0,.slice none 0 0,.agg #[.int .i8 0,.int .i8 0]] 8 (World.laidAll_os _ _ _) (World.shaped_of_ZipB (by kernel_rfl) (by kernel_rfl)) (by kernel_rfl) (by kernel_rfl) (by kernel_rfl) (ZM os _)) ?_
 intro W base args ds gs before hval0 hW _ _ hL _;have hval:∀(j:Nat) t v,Tryz.f13.params[j]? =some t→args[j]? =some v→Value.okWide Tryz.prog W .any base t v:=hval0;have hW':=hW;obtain⟨p,q,hA0,hV,rfl,hfz,hnd⟩:=hW;have hA:DataW.TrodAll enc Tryz.prog W 0 (fun _=>true) true Tryz.f13.params.toList args.toList ds p:=hA0;rw[Tryz.params13]at hA hval;obtain⟨v0,v1,v2,d0,d1,d2,p0,p1,p2,rfl,rfl,rfl,h0,h1,h2⟩:=trodAll_three hA;obtain⟨q0,hq0,hr0⟩:=FZ (.inr (.inr ⟨_,Tryz.underlying22⟩)) o22 (hval 0 22 v0 rfl rfl) h0;obtain⟨x0_0,rfl,w0_0⟩:=hq0;obtain⟨q1,hq1,hr1⟩:=FZ (.inr (.inr ⟨_,Tryz.underlying22⟩)) o22 (hval 1 22 v1 rfl rfl) h1;obtain⟨x1_0,rfl,w1_0⟩:=hq1;obtain⟨ps2,hl2,hok2,hr2⟩:=ZJ (.inr ⟨_,_,Tryz.underlying107⟩) akl (hval 2 107 v2 rfl rfl) h2;obtain⟨a2_0,a2_1,rfl⟩:∃a2_0 a2_1,ps2=[a2_0,a2_1]:=by
  match ps2,hl2 with
  | [a2_0,a2_1],_=>exact⟨_,_,rfl⟩
 obtain⟨x2_0,e2_0,w2_0⟩:=hok2 0 qqD;obtain⟨x2_1,e2_1,w2_1⟩:=hok2 1 qqD;simp only[aH]at e2_0 e2_1;subst e2_0 e2_1;refine(ZK (Sd x0_0 x1_0 x2_0 x2_1 w0_0.2 w1_0.2 (abD w2_0) (abD w2_1)) ⟨rfl,fun i hi=>?_⟩ (aft hL)).mono fun e W' ⟨he,hB⟩=>?_
 ·match i,hi with
  |0,_=>exact hr0
  |1,_=>exact hr1
  |2,_=>exact hr2
 ·subst he
  exact⟨_,rfl,ZL (tb:=4) laidOut (by kernel_rfl) Tryz.underlying4 (by kernel_rfl) rfl rfl hW' hB⟩
theorem El:Tryz.checked.prog.funcNamed "talisman/talismanlaw01.AlgebraGroups" =some 13:=by kernel_rfl
theorem Cq:(Rows.algebraGroupsRow.inPlace==Tryz.checked.prog.inPlace 13)=true:=by kernel_rfl
theorem Cr:(Rows.algebraGroupsRow.unfollowed==Tryz.checked.prog.unfollowed 13)=true:=by kernel_rfl
theorem Ct:(Rows.algebraGroupsRow.recurses==Tryz.checked.prog.recurses 13)=true:=by kernel_rfl
theorem Cu:(Rows.algebraGroupsRow.named==Tryz.checked.prog.varsNamed 13)=true:=by kernel_rfl
theorem Cv:Rows.algebraGroupsRow.wf (OpenSpec.ofChange Rows.algebraGroupsSpec)=true:=by kernel_rfl
theorem Cw:Rows.algebraGroupsRow.veiledFits Tryz.checked.prog Tryz.f13.params.toList (Tryz.f13.params.toList++Rows.algebraGroupsSpec.plain.varTypes Tryz.checked.prog++Tryz.f13.resultTypes.toList)=true:=by kernel_rfl
theorem Cx:(Rows.algebraGroupsRow.veiled==(Tryz.f13.params.toList++Rows.algebraGroupsSpec.plain.varTypes Tryz.checked.prog++Tryz.f13.resultTypes.toList).any (Tryz.checked.prog.veiledRec ·))=true:=by kernel_rfl
theorem Cy:namedTie Tryz.checked.prog Rows.algebraGroupsRow.named Rows.algebraGroupsSpec.vars=true:=by kernel_rfl
theorem Em:joinedFacts Tryz.checked.prog 13 Tryz.f13 Rows.algebraGroupsSpec Rows.algebraGroupsRow=true:=by
 unfold joinedFacts;rw[Cq,Cr,Ct,Cu,Cv,Cw,Cx,Cy,show laidOutB Tryz.checked.prog=true from laidOut,aiP,ah3,ah4,ah5,ah6,show(Rows.algebraGroupsRow.lifted==Tryz.checked.prog.liftsFinal)=true from aiQ,show(Rows.algebraGroupsRow.plainKeys==Tryz.checked.prog.plainKeys)=true from aiR,show(Tryz.checked.prog.make==some Rows.algebraGroupsRow.make)=true from aiS]
 kernel_rfl
theorem En:Tryz.f13.isInstance Tryz.checked.prog Rows.algebraGroupsRow.origin Rows.algebraGroupsRow.targs:=of_decide_eq_true (by kernel_rfl)
theorem Eo:Tryz.f13.isWrapper Tryz.checked.prog Rows.algebraGroupsRow.wrapper Rows.algebraGroupsRow.mainSum:=by unfold Func.isWrapper;rw[if_neg qqV];exact⟨rfl,rfl⟩
theorem Ab:Rows.AlgebraGroupsSaid:=
 OpenClaim.holds_of_wide 13 Tryz.f13 rfl rfl rfl rfl rfl rfl rfl ⟨rfl,rfl,rfl,rfl,rfl⟩ rfl rfl rfl rfl rfl El Tryz.func13 Em
  En Eo
  (fun os started H enc _=>uW os started H enc)
theorem Ep:Rows.algebraGroupsRow.wfByText (OpenSpec.ofChange Rows.algebraGroupsSpec)=true:=by kernel_rfl
theorem Er:Tryz.pinned.checked.prog.mainIs=some (true, "85bb9aa69ad3b31dbd3b3f77a125f770588f5fc743e7111cd0f55a27e279a77f".toList):=by kernel_rfl
theorem Es:true=Tryz.pinned.checked.prog.looks []:=by kernel_rfl
theorem Et:([22,22,107].all fun u=>!Tryz.prog.wantsStandIn u)=true:=by kernel_rfl
theorem Eu:false=Rows.algebraGroupsRow.goesBy Tryz.pinned.checked.prog:=by kernel_rfl
theorem groups_holds:Rows.AlgebraGroupsCardSaid:=
 Claim7.holds_tied_plain_at .later [] [.data,.data,.data,.data,.sentinel,.sentinel,.pinned] true (true, "85bb9aa69ad3b31dbd3b3f77a125f770588f5fc743e7111cd0f55a27e279a77f") true
  Ab (fun _ h=>by cases h) Ep (fun _ h=>by cases h) algebraGroups_row_tie rfl ⟨rfl,rfl⟩ Er rfl
  (fun f fn hf hfn=>by
    obtain rfl:f=13:=Option.some.inj ((show Tryz.prog.funcNamed "talisman/talismanlaw01.AlgebraGroups" =some 13 by kernel_rfl).symm.trans hf) |>.symm
    obtain rfl:fn=Tryz.f13:=(Option.some.inj (Tryz.func13.symm.trans hfn)).symm;exact⟨Es,fun j t ht=>by
     rw[Tryz.params13]at ht;have hm:t∈[22,22,107]:=by simpa using Array.mem_of_getElem? ht
     have hall:=Et;exact(show Tryz.prog.wantsStandIn t=false by simpa using List.all_eq_true.1 hall t hm)⟩)
  Eu
#print axioms groups_holds
end Go.Proofs.YtmkagljofpddpaaGreatDoor
