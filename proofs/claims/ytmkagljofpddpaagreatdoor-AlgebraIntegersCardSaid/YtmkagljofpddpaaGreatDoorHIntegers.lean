/- The law AlgebraIntegers holds: the number functions return what the reference returns. No condition. -/
import Derived.Test.YtmkagljofpddpaaGreatDoorHIntegerse
namespace Go.Proofs.YtmkagljofpddpaaGreatDoor
open Go.ChangeShapes Go.WideShapes Go.ChangeAt Go.RowKit Go.Eng Go.Eng.YtmkagljofpddpaaGreatDoor
set_option linter.unusedVariables false
set_option maxRecDepth 100000 in
theorem sZ (os:Os) (started:os.Started) (H:Type) (enc:TypeId × Value->H):
 ReturnsInHanded {} Tryz.checked os 5 .any (λw args=>(Rows.algebraIntegersSpec.pre enc Tryz.prog Tryz.f5 [] false w args/\laidMetH Tryz.prog vG w)/\sizedMet enc Tryz.prog Tryz.f5 (OpenSpec.ofChange Rows.algebraIntegersSpec) false w args) (Rows.algebraIntegersSpec.post enc Tryz.prog Tryz.f5 false true false false):=by
 refine returnsInHanded_of_change_and (C:=Tryz.checked) (X:=λw _=>laidMetH Tryz.prog vG w) (λ_ _ _ hh h=>h.of_heap hh) own started (by kernel_rfl) Tryz.func5
  (ChangeSpec.witness_shaped (enc:=enc) (C:=Tryz.checked) (os:=os) (X:=λw _=>laidMetH Tryz.prog vG w) false (World.laidAll Tryz.prog os vG) #[.string ⟨#[]⟩,.int .i64 0,.int .i64 0] 8 (World.laidAll_os _ _ _) (World.shaped_of_ZipB (by kernel_rfl) (by kernel_rfl)) (by kernel_rfl) (by kernel_rfl) (by kernel_rfl) (Z0 os _)) ?_
 intro W base args ds gs before hval0 hW _ _ hL _;have hval:∀(j:Nat) t v,Tryz.f5.params[j]? =some t->args[j]? =some v->Value.okWide Tryz.prog W .any base t v:=hval0;have hW':=hW;obtain⟨p,q,hA0,hV,rfl,hfz,hnd⟩:=hW;have hA:DataW.TrodAll enc Tryz.prog W 0 (λ_=>true) true Tryz.f5.params.toList args.toList ds p:=hA0;rw[Tryz.params5]at hA hval;obtain⟨v0,v1,v2,d0,d1,d2,p0,p1,p2,rfl,rfl,rfl,h0,h1,h2⟩:=trodAll_three hA;obtain⟨q0,hq0,hr0⟩:=xO (.inr (.inl Tryz.underlying9)) o9 (hval 0 9 v0 rfl rfl) h0;obtain⟨x0_0,rfl,w0_0⟩:=hq0;obtain⟨q1,hq1,hr1⟩:=xO (.inl ⟨_,Tryz.underlying3⟩) o3 (hval 1 3 v1 rfl rfl) h1;obtain⟨x1_0,rfl,w1_0⟩:=hq1;obtain⟨q2,hq2,hr2⟩:=xO (.inl ⟨_,Tryz.underlying3⟩) o3 (hval 2 3 v2 rfl rfl) h2;obtain⟨x2_0,rfl,w2_0⟩:=hq2;refine(ZX (KH x0_0 x1_0 x2_0 (WV w1_0) (WV w2_0)) ⟨rfl,λi hi=>?_⟩ (afT hL)).mono λe W' ⟨he,hB⟩=>?_
 ·match i,hi with
  |0,_=>exact hr0
  |1,_=>exact hr1
  |2,_=>exact hr2
 ·subst he
  exact⟨_,rfl,ZY (tb:=4) laidOut (by kernel_rfl) Tryz.underlying4 (by kernel_rfl) rfl rfl hW' hB⟩
theorem Az:Tryz.checked.prog.funcNamed "talisman/talismanlaw01.AlgebraIntegers" =some 5:=by kernel_rfl
theorem y5:(Rows.algebraIntegersRow.inPlace==Tryz.checked.prog.inPlace 5)=true:=by kernel_rfl
theorem y7:(Rows.algebraIntegersRow.unfollowed==Tryz.checked.prog.unfollowed 5)=true:=by kernel_rfl
theorem y8:(Rows.algebraIntegersRow.recurses==Tryz.checked.prog.recurses 5)=true:=by kernel_rfl
theorem y9:(Rows.algebraIntegersRow.named==Tryz.checked.prog.varsNamed 5)=true:=by kernel_rfl
theorem za:Rows.algebraIntegersRow.wf (OpenSpec.ofChange Rows.algebraIntegersSpec)=true:=by kernel_rfl
theorem ze:Rows.algebraIntegersRow.veiledFits Tryz.checked.prog Tryz.f5.params.toList (Tryz.f5.params.toList++Rows.algebraIntegersSpec.plain.varTypes Tryz.checked.prog++Tryz.f5.resultTypes.toList)=true:=by kernel_rfl
theorem zf:(Rows.algebraIntegersRow.veiled==(Tryz.f5.params.toList++Rows.algebraIntegersSpec.plain.varTypes Tryz.checked.prog++Tryz.f5.resultTypes.toList).any (Tryz.checked.prog.veiledRec ·))=true:=by kernel_rfl
theorem zh:namedTie Tryz.checked.prog Rows.algebraIntegersRow.named Rows.algebraIntegersSpec.vars=true:=by kernel_rfl
theorem AA:joinedFacts Tryz.checked.prog 5 Tryz.f5 Rows.algebraIntegersSpec Rows.algebraIntegersRow=true:=by
 unfold joinedFacts;rw[y5,y7,y8,y9,za,ze,zf,zh,show laidOutB Tryz.checked.prog=true from laidOut,ajA,aiI,aiJ,aiK,aiL,show(Rows.algebraIntegersRow.lifted==Tryz.checked.prog.liftsFinal)=true from ajB,show(Rows.algebraIntegersRow.plainKeys==Tryz.checked.prog.plainKeys)=true from ajC,show(Tryz.checked.prog.make==some Rows.algebraIntegersRow.make)=true from ajD]
 kernel_rfl
theorem AB:Tryz.f5.isInstance Tryz.checked.prog Rows.algebraIntegersRow.origin Rows.algebraIntegersRow.targs:=of_decide_eq_true (by kernel_rfl)
theorem AJ:Tryz.f5.isWrapper Tryz.checked.prog Rows.algebraIntegersRow.wrapper Rows.algebraIntegersRow.mainSum:=by unfold Func.isWrapper;rw[if_neg qqV];exact⟨rfl,rfl⟩
theorem xP:Rows.AlgebraIntegersSaid:=
 OpenClaim.holds_of_wide 5 Tryz.f5 rfl rfl rfl rfl rfl rfl rfl ⟨rfl,rfl,rfl,rfl,rfl⟩ rfl rfl rfl rfl rfl Az Tryz.func5 AA
  AB AJ
  (λos started H enc _=>sZ os started H enc)
theorem AL:Rows.algebraIntegersRow.wfByText (OpenSpec.ofChange Rows.algebraIntegersSpec)=true:=by kernel_rfl
theorem AP:Tryz.pinned.checked.prog.mainIs=some (true, "85bb9aa69ad3b31dbd3b3f77a125f770588f5fc743e7111cd0f55a27e279a77f".toList):=by kernel_rfl
theorem AQ:true=Tryz.pinned.checked.prog.looks []:=by kernel_rfl
theorem AV:([9,3,3].all λu=>!Tryz.prog.wantsStandIn u)=true:=by kernel_rfl
theorem AX:false=Rows.algebraIntegersRow.goesBy Tryz.pinned.checked.prog:=by kernel_rfl
theorem integers_holds:Rows.AlgebraIntegersCardSaid:=
 Claim7.holds_tied_plain_at .later [] [.data,.data,.data,.data,.sentinel,.sentinel,.pinned] true (true, "85bb9aa69ad3b31dbd3b3f77a125f770588f5fc743e7111cd0f55a27e279a77f") true
  xP (λ_ h=>by cases h) AL (λ_ h=>by cases h) algebraIntegers_row_tie rfl ⟨rfl,rfl⟩ AP rfl
  (λf fn hf hfn=>by
    obtain rfl:f=5:=Option.some.inj ((show Tryz.prog.funcNamed "talisman/talismanlaw01.AlgebraIntegers" =some 5 by kernel_rfl).symm.trans hf) |>.symm
    obtain rfl:fn=Tryz.f5:=(Option.some.inj (Tryz.func5.symm.trans hfn)).symm;exact⟨AQ,λj t ht=>by
     rw[Tryz.params5]at ht;have hm:t∈[9,3,3]:=by simpa using Array.mem_of_getElem? ht
     have hall:=AV;exact(show Tryz.prog.wantsStandIn t=false by simpa using List.all_eq_true.1 hall t hm)⟩)
  AX
#print axioms integers_holds
end Go.Proofs.YtmkagljofpddpaaGreatDoor
