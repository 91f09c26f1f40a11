/- The law AlgebraPerms holds: CheckPerm, Compose, Invert, Power, Cycles and Sign return what the reference returns, or the first error. No condition. -/
import Derived.Test.YtmkagljofpddpaaGreatDoorHPermse
namespace Go.Proofs.YtmkagljofpddpaaGreatDoor
open Go.ChangeShapes Go.WideShapes Go.ChangeAt Go.RowKit Go.Eng Go.Eng.YtmkagljofpddpaaGreatDoor
set_option linter.unusedVariables false
set_option maxRecDepth 100000 in
theorem xB (os:Os) (started:os.Started) (H:Type) (enc:TypeId × Value→H):
 ReturnsInHanded {} Tryz.checked os 12 .any (fun w args=>(Rows.algebraPermsSpec.pre enc Tryz.prog Tryz.f12 [] false w args∧laidMetH Tryz.prog uN w)∧sizedMet enc Tryz.prog Tryz.f12 (OpenSpec.ofChange Rows.algebraPermsSpec) false w args) (Rows.algebraPermsSpec.post enc Tryz.prog Tryz.f12 false true false false):=by
 refine returnsInHanded_of_change_and (C:=Tryz.checked) (X:=fun w _=>laidMetH Tryz.prog uN w) (fun _ _ _ hh h=>h.of_heap hh) own started (by kernel_rfl) Tryz.func12
  (ChangeSpec.witness_shaped (enc:=enc) (C:=Tryz.checked) (os:=os) (X:=fun w _=>laidMetH Tryz.prog uN w) false (World.laidAll Tryz.prog os uN) #[.slice none 0 0,.slice none 0 0,.int .i64 0] 8 (World.laidAll_os _ _ _) (World.shaped_of_ZipB (by kernel_rfl) (by kernel_rfl)) (by kernel_rfl) (by kernel_rfl) (by kernel_rfl) (Zf os _)) ?_
 intro W base args ds gs before hval0 hW _ _ hL _;have hval:∀(j:Nat) t v,Tryz.f12.params[j]? =some t→args[j]? =some v→Value.okWide Tryz.prog W .any base t v:=hval0;have hW':=hW;obtain⟨p,q,hA0,hV,rfl,hfz,hnd⟩:=hW;have hA:DataW.TrodAll enc Tryz.prog W 0 (fun _=>true) true Tryz.f12.params.toList args.toList ds p:=hA0;rw[Tryz.params12]at hA hval;obtain⟨v0,v1,v2,d0,d1,d2,p0,p1,p2,rfl,rfl,rfl,h0,h1,h2⟩:=trodAll_three hA;obtain⟨q0,hq0,hr0⟩:=xA (.inr (.inr ⟨_,Tryz.underlying22⟩)) o22 (hval 0 22 v0 rfl rfl) h0;obtain⟨x0_0,rfl,w0_0⟩:=hq0;obtain⟨q1,hq1,hr1⟩:=xA (.inr (.inr ⟨_,Tryz.underlying22⟩)) o22 (hval 1 22 v1 rfl rfl) h1;obtain⟨x1_0,rfl,w1_0⟩:=hq1;obtain⟨q2,hq2,hr2⟩:=xA (.inl ⟨_,Tryz.underlying3⟩) o3 (hval 2 3 v2 rfl rfl) h2;obtain⟨x2_0,rfl,w2_0⟩:=hq2;refine(Zd (Wh x0_0 x1_0 x2_0 w0_0.2 w1_0.2 (ahg w2_0)) ⟨rfl,fun i hi=>?_⟩ (aeP hL)).mono fun e W' ⟨he,hB⟩=>?_
 ·match i,hi with
  |0,_=>exact hr0
  |1,_=>exact hr1
  |2,_=>exact hr2
 ·subst he
  exact⟨_,rfl,Ze (tb:=4) laidOut (by kernel_rfl) Tryz.underlying4 (by kernel_rfl) rfl rfl hW' hB⟩
theorem F9:Tryz.checked.prog.funcNamed "talisman/talismanlaw01.AlgebraPerms" =some 12:=by kernel_rfl
theorem D6:(Rows.algebraPermsRow.inPlace==Tryz.checked.prog.inPlace 12)=true:=by kernel_rfl
theorem D7:(Rows.algebraPermsRow.unfollowed==Tryz.checked.prog.unfollowed 12)=true:=by kernel_rfl
theorem D8:(Rows.algebraPermsRow.recurses==Tryz.checked.prog.recurses 12)=true:=by kernel_rfl
theorem Ea:(Rows.algebraPermsRow.named==Tryz.checked.prog.varsNamed 12)=true:=by kernel_rfl
theorem Eb:Rows.algebraPermsRow.wf (OpenSpec.ofChange Rows.algebraPermsSpec)=true:=by kernel_rfl
theorem Ec:Rows.algebraPermsRow.veiledFits Tryz.checked.prog Tryz.f12.params.toList (Tryz.f12.params.toList++Rows.algebraPermsSpec.plain.varTypes Tryz.checked.prog++Tryz.f12.resultTypes.toList)=true:=by kernel_rfl
theorem Ed:(Rows.algebraPermsRow.veiled==(Tryz.f12.params.toList++Rows.algebraPermsSpec.plain.varTypes Tryz.checked.prog++Tryz.f12.resultTypes.toList).any (Tryz.checked.prog.veiledRec ·))=true:=by kernel_rfl
theorem Ee:namedTie Tryz.checked.prog Rows.algebraPermsRow.named Rows.algebraPermsSpec.vars=true:=by kernel_rfl
theorem Ga:joinedFacts Tryz.checked.prog 12 Tryz.f12 Rows.algebraPermsSpec Rows.algebraPermsRow=true:=by
 unfold joinedFacts;rw[D6,D7,D8,Ea,Eb,Ec,Ed,Ee,show laidOutB Tryz.checked.prog=true from laidOut,ahY,ahh,ahi,ahj,ahk,show(Rows.algebraPermsRow.lifted==Tryz.checked.prog.liftsFinal)=true from ahZ,show(Rows.algebraPermsRow.plainKeys==Tryz.checked.prog.plainKeys)=true from ah0,show(Tryz.checked.prog.make==some Rows.algebraPermsRow.make)=true from ah1]
 kernel_rfl
theorem Gb:Tryz.f12.isInstance Tryz.checked.prog Rows.algebraPermsRow.origin Rows.algebraPermsRow.targs:=of_decide_eq_true (by kernel_rfl)
theorem Gc:Tryz.f12.isWrapper Tryz.checked.prog Rows.algebraPermsRow.wrapper Rows.algebraPermsRow.mainSum:=by unfold Func.isWrapper;rw[if_neg (by decide+kernel)];exact⟨rfl,rfl⟩
theorem Cm:Rows.AlgebraPermsSaid:=
 OpenClaim.holds_of_wide 12 Tryz.f12 rfl rfl rfl rfl rfl rfl rfl ⟨rfl,rfl,rfl,rfl,rfl⟩ rfl rfl rfl rfl rfl F9 Tryz.func12 Ga
  Gb Gc
  (fun os started H enc _=>xB os started H enc)
theorem Gd:Rows.algebraPermsRow.wfByText (OpenSpec.ofChange Rows.algebraPermsSpec)=true:=by kernel_rfl
theorem Gf:Tryz.pinned.checked.prog.mainIs=some (true, "85bb9aa69ad3b31dbd3b3f77a125f770588f5fc743e7111cd0f55a27e279a77f".toList):=by kernel_rfl
theorem Gg:true=Tryz.pinned.checked.prog.looks []:=by kernel_rfl
theorem Gh:([22,22,3].all fun u=>!Tryz.prog.wantsStandIn u)=true:=by kernel_rfl
theorem Gi:false=Rows.algebraPermsRow.goesBy Tryz.pinned.checked.prog:=by kernel_rfl
theorem perms_holds:Rows.AlgebraPermsCardSaid:=
 Claim7.holds_tied_plain_at .later [] [.data,.data,.data,.data,.sentinel,.sentinel,.pinned] true (true, "85bb9aa69ad3b31dbd3b3f77a125f770588f5fc743e7111cd0f55a27e279a77f") true
  Cm (fun _ h=>by cases h) Gd (fun _ h=>by cases h) algebraPerms_row_tie rfl ⟨rfl,rfl⟩ Gf rfl
  (fun f fn hf hfn=>by
    obtain rfl:f=12:=Option.some.inj ((show Tryz.prog.funcNamed "talisman/talismanlaw01.AlgebraPerms" =some 12 by kernel_rfl).symm.trans hf) |>.symm
    obtain rfl:fn=Tryz.f12:=(Option.some.inj (Tryz.func12.symm.trans hfn)).symm;exact⟨Gg,fun j t ht=>by
     rw[Tryz.params12]at ht;have hm:t∈[22,22,3]:=by simpa using Array.mem_of_getElem? ht
     have hall:=Gh;exact(show Tryz.prog.wantsStandIn t=false by simpa using List.all_eq_true.1 hall t hm)⟩)
  Gi
#print axioms perms_holds
end Go.Proofs.YtmkagljofpddpaaGreatDoor
