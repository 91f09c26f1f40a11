/- Contracts of functions of the program: what each returns. Their conditions stand in them. -/
import Derived.Shelf.Strings.BuilderF
import Derived.Test.YtcechbdgokjmgaaGreatDoorHFormsb
namespace Go.Eng.YtcechbdgokjmgaaGreatDoor
open Go.Proofs
set_option linter.unusedSimpArgs false
set_option linter.unusedVariables false
set_option maxHeartbeats 0
set_option maxRecDepth 100000
def Ns:LSp:=fun xs objs K=>match xs,objs with
 | [.agg [.int .i64 c,.isl (.rows .i64 ls) .none,.int .i64 sum,.isl (.ints .i64 gv) .none]],[]=>VC ((1≤gv.length∧gv.length≤1000000)∧ls.length≤5000∧∀i,i<ls.length→1≤(ls.getD i []).length∧(ls.getD i []).length≤5000)∧K [.agg [.int .i64 c,.isl (.rows .i64 ls) .none,.int .i64 sum,.rsl 0 0 gv.length]] [.cells (.ints .i64 gv) false]
 |_,_=>False
theorem Y4:LOK Tryz.prog 124 Ns:=by
 intro xs objs K hk
 unfold Ns at hk
 split at hk
 ·exact⟨_,_,hk.2,IG _ _ _ _ hk.1.get.1 hk.1.get.2.1 hk.1.get.2.2⟩
 ·exact hk.elim
def Gj:PSp:=fun xs K=>match xs with
 | [.agg [.int .i64 c,.isl (.rows .i64 ls) .none],.isl (.ints .i64 f) .none]=>VC (bK ls∧f.length≤2000000∧sj c ls f=0∧qD f ls)∧K (.tup [.bp (decide (nV (gM f ls ls.length)<0)),.int .i64 0])
 |_=>False
theorem TI:POK Tryz.prog 122 Gj:=by
 intro xs K hk
 unfold Gj at hk
 split at hk
 ·exact⟨_,hk.2,CU _ _ _ hk.1.get.1 hk.1.get.2.1 hk.1.get.2.2.1 hk.1.get.2.2.2⟩
 ·exact hk.elim
def mkS (c:Int) (ls:List (List Int)) (sum:Int) (nv:List Int) (g:Nat) (gv:List Int) (y:Int):List Int:=
 if(sol c ls sum (gv.set y.toNat 0) g).2.2≠0 then(gv.set y.toNat 0).set y.toNat (nv.getD y.toNat 0)else gv.set y.toNat 0
noncomputable def adG:CPT:=aA 88 (aB jS) (aA 89 (aB gF) (aA 93 (aB zo) (aA 98 (aB pW) (aA 99 (kr zy) (aA 121 (aB u7) (aA 122 (aB Gj) (aA 123 (aB Nh) (aA 124 (eU [] Ns) noC))))))))
theorem mJ:aW Tryz.prog adG:=ak (au jG) (ak (au jF) (ak (au FH) (ak (au wJ) (ak (iB F7) (ak (au IK) (ak (au TI) (ak (au YN) (ak (dK [] Y4) aD))))))))
def AV (c:Int) (ls:List (List Int)) (nv:List Int) (g:Int):Int:=aL [fV c ls,ji g,if(nv.length:Int)≠c then 2 else 0]
def TJ (ls:List (List Int)) (nv:List Int):Bool:=decide (nV (gM nv ls ls.length)<0)
def Gl (c:Int) (ls:List (List Int)) (nv ov:List Int) (g:Int):(Int × List (List Int) × Int × List Int) × Int:=
 if AV c ls nv g≠0 then((0,[],0,[]),AV c ls nv g)else if(iR nv).2≠0∨(iR nv).1=false then((0,[],0,[]),1)else if TJ ls nv=false then((0,[],0,[]),16)
 else if(ov.length:Int)≠c∨sG 5 ov≠0 then((0,[],0,[]),14)
 else((c,ls,fQ nv (ls.getD 0 []) (ls.getD 0 []).length,ov.foldl (mkS c ls (fQ nv (ls.getD 0 []) (ls.getD 0 []).length) nv g.toNat) nv),0)
abbrev pzT (p:Int × List (List Int) × Int × List Int):PV:=pzV p.1 p.2.1 p.2.2.1 p.2.2.2
theorem zC (e:Int):Sup (bF [PV.agg [.int .i64 0,.nils,.int .i64 0,.nils],.int .i64 e]) (.tup [pzT (0,[],0,[]),.int .i64 e]):=by all_goals(refine Sup.via ?_;repeat'((conv=>whnf);first|intro _|apply aI|with_reducible exact vM rfl|exact⟨⟩|apply nM|apply fM);all_goals((try apply vM);(try simp only[vq]at*);try omega);all_goals(try(simp[CL.sub];done)))
theorem QA (c:Int) (ls:List (List Int)) (nv ov:List Int) (g:Int) (h:bK ls) (hn:nv.length≤5000) (ho:ov.length≤5000):
 aF Tryz.prog 53 [.agg [.int .i64 c,.isl (.rows .i64 ls) .none],.isl (.ints .i64 nv) .none,.isl (.ints .i64 ov) .none,.int .i64 g] (.tup [pzT (Gl c ls nv ov g).1,.int .i64 (Gl c ls nv ov g).2]):=by
 unfold Gl
 by_cases h1:AV c ls nv g=0
 case neg=>
  rw[if_pos h1]
  refine cu (md:=1) (rf:=[]) mixed aj mJ Tryz.func53 (by rfl) (by rfl) (by rfl) ?_
  repeat'((conv=>whnf);first|(intro hq;(try simp only[vw]at hq);try first|exact absurd hq (by decide)|exfalso;omega)|apply aI|with_reducible exact vM rfl|exact⟨⟩|apply nM|apply fM)
  all_goals((try apply vM);(try simp only[vq]at*);try omega)
  all_goals first|exact h|exact zC _|(exfalso;exact ‹¬aL [_,_,_]≠0› h1)|skip
 rw[if_neg (by rw[h1];simp)]
 have hb:fV c ls=0:=by
  by_cases e:fV c ls=0
  ·exact e
  ·exact absurd ((jR [fV c ls,ji g,if(nv.length:Int)≠c then 2 else 0] 0 (by simp) (fun i hi=>absurd hi (Nat.not_lt_zero i)) e).symm.trans h1) e
 by_cases h2:(iR nv).2≠0∨(iR nv).1=false
 ·rw[if_pos h2]
  refine cu (md:=1) (rf:=[]) mixed aj mJ Tryz.func53 (by rfl) (by rfl) (by rfl) ?_
  repeat'((conv=>whnf);first|(intro hq;(try simp only[vw]at hq);try first|exact absurd hq (by decide)|exfalso;omega)|apply aI|with_reducible exact vM rfl|exact⟨⟩|apply nM|apply fM)
  all_goals((try apply vM);(try simp only[vq]at*);try omega)
  all_goals first|exact h|exact zC _|(exfalso;exact ‹aL [_,_,_]≠0› h1)|omega|(exfalso;rcases h2 with h2|h2<;>simp_all;done)|skip
 rw[if_neg h2]
 obtain⟨hlc,hnr,hi⟩:(nv.length:Int)=c∧nK nv=true∧iR nv=(true,0):=by
  have a1:(iR nv).2=0:=Classical.not_not.1 fun e=>h2 (.inl e)
  have a2:(iR nv).1=true:=by
   cases e:(iR nv).1 with
   |true=>rfl
   |false=>exact absurd (.inr e) h2
  have a3:cfE nv=0:=by
   by_cases e:cfE nv=0
   ·exact e
   ·unfold iR at a1;rw[if_pos e]at a1;exact absurd a1 e
  refine⟨?_,?_,Prod.ext a2 a1⟩
  ·by_cases e:(nv.length:Int)=c
   ·exact e
   ·unfold AV at h1
    rw[if_pos e,hb]at h1
    by_cases eg:ji g=0
    ·rw[eg]at h1;simp[aL]at h1
    ·have:=jR [0,ji g,2] 1 (by simp) (fun i hi=>by(have:i=0:=by omega);subst this;rfl) eg
     rw[this]at h1;exact absurd h1 eg
  ·unfold iR at a2;rw[if_neg (by rw[a3];simp)]at a2;exact a2
 have hp:=Qz hb
 have hfil:bK ls∧nv.length≤2000000∧sj c ls nv=0∧qD nv ls:=by
  have hr:=AU hnr
  have hc:=hp.c1
  have hN:∀x∈nv,0≤x∧x≤16:=fun x hx=>by have:=hr x hx;omega
  refine⟨h,by omega,?_,⟨hp.ll.1,by have:=hp.ll;omega⟩,fun i hi=>?_⟩
  ·have e1:iO c ls=0:=by
    by_cases e:iO c ls=0
    ·exact e
    ·unfold fV at hb
     exact absurd ((jR [iO c ls,if 16<c then 20 else 0,if ls.length=0 then 12 else 0] 0 (by simp) (fun i hi=>absurd hi (Nat.not_lt_zero i)) e).symm.trans hb) e
   have e2:rZ nv=0:=by
    unfold rZ
    rw[if_neg]
    intro e
    rw[List.any_eq_true]at e
    obtain⟨x,hx,e⟩:=e
    have:=hN x hx
    unfold rY at e
    simp at e
    omega
   unfold sj
   rw[e1,e2,if_neg (by omega)];rfl
  ·have hL:=hp.ln i hi
   refine⟨by have:=hL.len;omega,fun x hx=>by have:=hL.rng x hx;omega,fun k hk=>?_⟩
   have:=vZ hN ((ls.getD i []).take k)
   have e:fQ nv (ls.getD i []) k=mF nv ((ls.getD i []).take k):=rfl
   rw[List.length_take,Nat.min_eq_left hk]at this
   have:=hL.len
   omega
 have hi1:(iR nv).1=true:=by rw[hi]
 have hi2:(iR nv).2=0:=by rw[hi]
 cases h3:TJ ls nv with
 |false=>
  have h3':¬nV (gM nv ls ls.length)<0:=of_decide_eq_false h3
  rw[if_pos rfl]
  refine cu (md:=1) (rf:=[]) mixed aj mJ Tryz.func53 (by rfl) (by rfl) (by rfl) ?_
  repeat'((conv=>whnf);first|(intro hq;(try simp only[vw]at hq);try first|exact absurd hq (by decide)|exfalso;omega)|apply aI|with_reducible exact vM rfl|exact⟨⟩|apply nM|apply fM)
  all_goals((try apply vM);(try simp only[vq]at*);try omega)
  all_goals first|exact h|exact hfil|exact zC _|(exfalso;exact ‹aL [_,_,_]≠0› h1)|(exfalso;exact h3' (by assumption))|omega|(exfalso;simp_all;done)|skip
 |true=>
  have h3':nV (gM nv ls ls.length)<0:=of_decide_eq_true h3
  rw[if_neg (by simp)]
  by_cases h4:(ov.length:Int)≠c∨sG 5 ov≠0
  ·rw[if_pos h4]
   refine cu (md:=1) (rf:=[]) mixed aj mJ Tryz.func53 (by rfl) (by rfl) (by rfl) ?_
   repeat'((conv=>whnf);first|(intro hq;(try simp only[vw]at hq);try first|exact absurd hq (by decide)|exfalso;omega)|apply aI|with_reducible exact vM rfl|exact⟨⟩|apply nM|apply fM)
   all_goals((try apply vM);(try simp only[vq]at*);try omega)
   all_goals first|exact h|exact hfil|exact zC _|(exfalso;exact ‹aL [_,_,_]≠0› h1)|(exfalso;exact ‹¬nV _<0› h3')|omega|(exfalso;rcases h4 with h4|h4<;>contradiction)|(exfalso;simp_all;done)|skip
  rw[if_neg h4]
  have h5:(ov.length:Int)=c:=Classical.not_not.1 fun e=>h4 (.inl e)
  have h6:sG 5 ov=0:=Classical.not_not.1 fun e=>h4 (.inr e)
  have hll:=hp.ll
  have hc:=hp.c1
  have hcond:(1≤nv.length∧nv.length≤1000000)∧ls.length≤5000∧∀i,i<ls.length→1≤(ls.getD i []).length∧(ls.getD i []).length≤5000:=⟨by omega,by omega,fun i hi=>by have:=hp.ln i hi;have:=this.ne;have:=(hp.ln i hi).len;omega⟩
  refine cu (md:=1) (rf:=[]) mixed aj mJ Tryz.func53 (by rfl) (by rfl) (by rfl) ?_
  repeat'((conv=>whnf);first|(intro hq;(try simp only[vw]at hq);try first|exact absurd hq (by decide)|exfalso;omega)|apply aI|with_reducible exact vM rfl|exact⟨⟩|apply nM|apply fM)
  all_goals((try apply vM);(try simp only[vq]at*);try omega)
  all_goals(try first|exact h|exact hfil|exact hcond|(exfalso;exact ‹aL [_,_,_]≠0› h1)|(exfalso;exact ‹¬nV _<0› h3')|omega|(exfalso;exact ‹sG 5 ov≠0› h6)|(exfalso;simp_all;done))
  conv=>whnf
  refine aJ (X:=Nat) (fun k=>k≤(ls.getD 0 []).length) (fun k=>[(84,.int .i64 k)]) (fun k=>[(35,.cells (.pv [.int .i64 c,.isl (.rows .i64 ls) .none,.int .i64 (fQ nv (ls.getD 0 []) k),(.rsl 31 0 nv.length)]) false)]) (fun k=>(ls.getD 0 []).length-k) 0 ⟨aG,mixed,aj,mJ,aN⟩ (by rfl) (by omega) ?_ ?_
  ·repeat'((conv=>whnf);first|intro _|apply aI|with_reducible exact vM rfl|exact⟨⟩|apply nM|apply fM)
   all_goals((try apply vM);(try simp only[vq]at*);try omega)
  intro k hk
  have hL:=hp.ln 0 (by omega)
  have hN:∀x∈nv,0≤x∧x≤16:=fun x hx=>by have:=AU hnr x hx;omega
  have hsb:=vZ hN ((ls.getD 0 []).take k)
  rw[List.length_take,Nat.min_eq_left hk]at hsb
  have esb:fQ nv (ls.getD 0 []) k=mF nv ((ls.getD 0 []).take k):=rfl
  have hLl:=hL.len
  by_cases hlt:k<(ls.getD 0 []).length
  ·have hx:=hL.rng ((ls.getD 0 []).getD k 0) (p9 hlt)
   have hv:=hN (nv.getD ((ls.getD 0 []).getD k 0).toNat 0) (p9 (by omega))
   have hsx:=zk nv (ls.getD 0 []) k hlt
   repeat'((conv=>whnf);first|(intro hq;(try simp only[vw]at hq);try first|exact absurd hq (by decide)|exfalso;omega)|apply aI|with_reducible exact vM rfl|exact⟨⟩|apply nM|apply fM)
   all_goals((try apply vM);(try simp only[vq]at*);try omega)
   all_goals(try simp only[Int.toNat_zero]at*)
   all_goals(try omega)
   refine⟨k+1,[],⟨by omega,by omega⟩,?_⟩
   rw[hsx]
   repeat'((conv=>whnf);first|intro _|apply aI|with_reducible exact vM rfl|exact⟨⟩|apply nM|apply fM)
   all_goals((try apply vM);(try simp only[vq]at*);try omega)
   all_goals skip
  have e:k=(ls.getD 0 []).length:=by omega
  subst e
  repeat'((conv=>whnf);first|(intro hq;(try simp only[vw]at hq);try first|exact absurd hq (by decide)|exfalso;omega)|apply aI|with_reducible exact vM rfl|exact⟨⟩|apply nM|apply fM)
  all_goals((try apply vM);(try simp only[vq]at*);try omega)
  all_goals(try simp only[Int.toNat_zero]at*)
  all_goals(try(exfalso;omega))
  conv=>whnf
  obtain⟨sm,hsm⟩:∃sm,fQ nv (ls.getD 0 []) (ls.getD 0 []).length=sm:=⟨_,rfl⟩
  rw[hsm]
  refine aJ (X:=Nat) (fun k=>k≤ov.length) (fun k=>[(99,.int .i64 k)]) (fun k=>[(31,.cells (.ints .i64 ((ov.take k).foldl (mkS c ls sm nv g.toNat) nv)) false)]) (fun k=>ov.length-k) 0 ⟨aG,mixed,aj,mJ,aN⟩ (by rfl) (by omega) ?_ ?_
  ·repeat'((conv=>whnf);first|intro _|apply aI|with_reducible exact vM rfl|exact⟨⟩|apply nM|apply fM)
   all_goals((try apply vM);(try simp only[vq]at*);try omega)
  intro k hk
  obtain⟨gk,hgk⟩:∃gk,(ov.take k).foldl (mkS c ls sm nv g.toNat) nv=gk:=⟨_,rfl⟩
  have hsub:mI gk nv:=by
   rw[←hgk]
   clear hgk
   generalize ov.take k=l
   have:∀(l:List Int) (v:List Int),mI v nv→mI (l.foldl (mkS c ls sm nv g.toNat) v) nv:=by
    intro l
    induction l with
    |nil=>exact fun v h=>h
    |cons y l ih=>
     intro v h
     refine ih _ ?_
     unfold mkS
     split
     ·exact(h.set0 _).set1 _
     ·exact h.set0 _
   exact this l nv (mI.refl nv)
  have hgl:=hsub.1
  have hsmb: -999999999≤sm∧sm≤999999999:=by
   have:=vZ hN (ls.getD 0 [])
   have e:fQ nv (ls.getD 0 []) (ls.getD 0 []).length=mF nv ((ls.getD 0 []).take (ls.getD 0 []).length):=rfl
   rw[List.take_length]at e
   omega
  have hg5:1≤g∧g≤5:=by
   unfold AV at h1
   rw[hb]at h1
   by_cases eg:ji g=0
   ·unfold ji at eg
    by_cases e:g<1∨5<g
    ·rw[if_pos e]at eg;cases eg
    ·omega
   ·have:=jR [0,ji g,if(nv.length:Int)≠c then 2 else 0] 1 (by simp) (fun i hi=>by(have:i=0:=by omega);subst this;rfl) eg
    rw[this]at h1;exact absurd h1 eg
  by_cases hlk:k<ov.length
  ·have hy:0≤ov.getD k 0∧ov.getD k 0<ov.length:=by
    unfold sG at h6
    rw[if_neg (by omega)]at h6
    have:=iZ h6 k hlk
    unfold Ay at this
    by_cases e:ov.getD k 0<0∨ov.length≤ov.getD k 0∨ov.getD k 0∈ov.take k
    ·rw[if_pos e]at this;cases this
    ·omega
   have hnext:(ov.take (k+1)).foldl (mkS c ls sm nv g.toNat) nv=mkS c ls sm nv g.toNat gk (ov.getD k 0):=by
    rw[cK hlk,List.foldl_append,hgk];rfl
   have hpz:=abG hb hlc hnr hsmb (hsub.set0 (ov.getD k 0).toNat)
   have hsl:(gk.set (ov.getD k 0).toNat 0).length=nv.length:=by rw[List.length_set];exact hgl
   have tk:List.take (nv.length-0) (List.drop 0 (gk.set (ov.getD k 0).toNat 0))=gk.set (ov.getD k 0).toNat 0:=dB hsl
   rw[hgk]
   cases ho:jm (sol c ls sm (gk.set (ov.getD k 0).toNat 0) g.toNat)with
   |none=>
    have he:(sol c ls sm (gk.set (ov.getD k 0).toNat 0) g.toNat).2.2≠0:=by
     unfold jm at ho
     by_cases e:(sol c ls sm (gk.set (ov.getD k 0).toNat 0) g.toNat).2.2=21
     ·rw[e];decide
     ·rw[if_neg e]at ho;cases ho
    have hst:mkS c ls sm nv g.toNat gk (ov.getD k 0)=(gk.set (ov.getD k 0).toNat 0).set (ov.getD k 0).toNat (nv.getD (ov.getD k 0).toNat 0):=by unfold mkS;rw[if_pos he]
    repeat'((conv=>whnf);first|apply Exists.intro (none)|(intro hq;(try simp only[vw]at hq);try first|exact absurd hq (by decide)|exfalso;omega)|apply aI|with_reducible exact vM rfl|exact⟨⟩|apply nM|apply fM)
    all_goals((try apply vM);(try simp only[vq]at*);try omega)
    all_goals(try first|omega|exact⟨by rw[tk];exact hpz,by omega,by rw[tk];exact ho⟩)
    refine⟨k+1,[],⟨by omega,by omega⟩,?_⟩
    rw[hnext,hst]
    repeat'((conv=>whnf);first|intro _|apply aI|with_reducible exact vM rfl|exact⟨⟩|apply nM|apply fM)
    all_goals((try apply vM);(try simp only[vq]at*);try omega)
   |some r=>
    have hr:sol c ls sm (gk.set (ov.getD k 0).toNat 0) g.toNat=r:=by
     unfold jm at ho
     by_cases e:(sol c ls sm (gk.set (ov.getD k 0).toNat 0) g.toNat).2.2=21
     ·rw[if_pos e]at ho;cases ho
     ·rw[if_neg e]at ho;exact Option.some.inj ho
    have hs1:r.2.2≠0→mkS c ls sm nv g.toNat gk (ov.getD k 0)=(gk.set (ov.getD k 0).toNat 0).set (ov.getD k 0).toNat (nv.getD (ov.getD k 0).toNat 0):=fun e=>by unfold mkS;rw[hr,if_pos e]
    have hs0:¬r.2.2≠0→mkS c ls sm nv g.toNat gk (ov.getD k 0)=gk.set (ov.getD k 0).toNat 0:=fun e=>by unfold mkS;rw[hr,if_neg e]
    repeat'((conv=>whnf);first|apply Exists.intro (some r)|(intro hq;(try simp only[vw]at hq);try first|exact absurd hq (by decide)|exfalso;omega)|apply aI|with_reducible exact vM rfl|exact⟨⟩|apply nM|apply fM)
    all_goals((try apply vM);(try simp only[vq]at*);try omega)
    all_goals(try first|omega|exact⟨by rw[tk];exact hpz,by omega,by rw[tk];exact ho⟩)
    ·refine⟨k+1,[],⟨by omega,by omega⟩,?_⟩
     rw[hnext,hs1 (by assumption)]
     repeat'((conv=>whnf);first|intro _|apply aI|with_reducible exact vM rfl|exact⟨⟩|apply nM|apply fM)
     all_goals((try apply vM);(try simp only[vq]at*);try omega)
    ·refine⟨k+1,[],⟨by omega,by omega⟩,?_⟩
     rw[hnext,hs0 (by assumption)]
     repeat'((conv=>whnf);first|intro _|apply aI|with_reducible exact vM rfl|exact⟨⟩|apply nM|apply fM)
     all_goals((try apply vM);(try simp only[vq]at*);try omega)
  have e:k=ov.length:=by omega
  subst e
  rw[List.take_length]at hgk⊢
  rw[hgk]
  have s2:(CL.ints .i64 gk).sub 0 nv.length=.ints .i64 gk:=congrArg (CL.ints .i64) (dB hgl)
  repeat'((conv=>whnf);first|(intro hq;(try simp only[vw]at hq);try first|exact absurd hq (by decide)|exfalso;omega)|apply aI|with_reducible exact vM rfl|exact⟨⟩|apply nM|apply fM)
  all_goals((try apply vM);(try simp only[vq]at*);try omega)
  rw[s2]
  exact Sup.of rfl
end Go.Eng.YtcechbdgokjmgaaGreatDoor
namespace Go.Eng.YtcechbdgokjmgaaGreatDoor
open Go.Proofs Go.RowKit
set_option linter.unusedSimpArgs false
set_option linter.unusedVariables false
set_option maxHeartbeats 0
set_option maxRecDepth 100000
theorem J6 {s w:ByteArray} {l:List Int} (h:bX s w=some l):l.length≤s.size:=by
 unfold bX at h
 split at h
 ·obtain rfl:=Option.some.inj h
  unfold numsL
  rw[List.length_map,List.length_drop]
  have:=xP 32 s
  omega
 ·cases h
structure TK (r:Rd) (n:Nat):Prop where
 ln:r.line=n
 ll:r.L.length≤n
 rw:∀x∈r.L,x.length≤5000
 gl:r.gv.length≤5000
theorem Y5 {r:Rd} {n:Nat} {s:ByteArray} (h:TK r n) (hs:s.size≤4096):TK (nxt r s).2 (n+1):=by
 have h1:=h.ln
 have h2:=h.ll
 have h3:=h.rw
 have h4:=h.gl
 unfold nxt
 repeat' split
 all_goals refine⟨by simp only;omega,?_,?_,?_⟩
 all_goals simp only
 all_goals first|exact h3|exact h4|omega|(rw[List.length_append,List.length_cons,List.length_nil];omega)|(simp;done)|skip
 ·intro x hx
  rcases List.mem_append.1 hx with hx|hx
  ·exact h3 _ hx
  ·obtain rfl:=List.mem_singleton.1 hx
   have:=J6 ‹bX s DR=some _›
   omega
 ·have:=J6 ‹bX s uV=some _›
  omega
noncomputable def rdG:Rd→List ByteArray→Rd × Bool
 |r,[]=>(r,true)
 |r,x::t=>if(nxt r x).1=true then rdG (nxt r x).2 t else((nxt r x).2,false)
def rd0:Rd:=⟨0,[],0,[],0,false⟩
abbrev kNl:ByteArray:=⟨#[10]⟩
def vg (s:ByteArray):Int:=aL [if 4096<(s.size:Int)then 25 else 0,if Fq s kNl=false then 27 else 0]
noncomputable def gZ (s:ByteArray):Rd × Bool:=rdG rd0 (dA 10 (jf s kNl))
noncomputable def Nt (s:ByteArray):(Int × List (List Int) × Int × List Int) × Int × Int:=
 if vg s≠0 then((0,[],0,[]),0,vg s)
 else if(gZ s).2=false then((0,[],0,[]),(gZ s).1.line,24)
 else if(gZ s).1.done=false then((0,[],0,[]),(gZ s).1.line+1,24)
 else if pzE (gZ s).1.c (gZ s).1.L (gZ s).1.sum (gZ s).1.gv≠0 then((0,[],0,[]),0,pzE (gZ s).1.c (gZ s).1.L (gZ s).1.sum (gZ s).1.gv)
 else(((gZ s).1.c,(gZ s).1.L,(gZ s).1.sum,(gZ s).1.gv),0,0)
noncomputable def aco:CPT:=aA 22 (aB lF) (aA 88 (aB jS) (aA 89 (aB gF) (aA 112 (aB R8) (aA 113 (aB zf) (aA 114 (aB Sb) (aA 115 (eU [] SX) noC))))))
theorem xS:aW Tryz.prog aco:=ak (au kN) (ak (au jG) (ak (au jF) (ak (au aa2) (ak (au Fp) (ak (au aa3) (ak (dK [] abo) aD))))))
def abH (r:(Int × List (List Int) × Int × List Int) × Int × Int):PV:=.tup [pzT r.1,.int .i64 r.2.1,.int .i64 r.2.2]
theorem zD (a b:Int):Sup (bF [PV.agg [.int .i64 0,.nils,.int .i64 0,.nils],.int .i64 a,.int .i64 b]) (abH ((0,[],0,[]),a,b)):=by all_goals(refine Sup.via ?_;repeat'((conv=>whnf);first|intro _|apply aI|with_reducible exact vM rfl|exact⟨⟩|apply nM|apply fM);all_goals((try apply vM);(try simp only[vq]at*);try omega);all_goals(try(simp[CL.sub];done)))
theorem QB (s:ByteArray) (hs:s.size≤1000000):aF Tryz.prog 44 [.str s] (abH (Nt s)):=by
 have hx:aL [if decide (4096<(s.size:Int))=true then 25 else 0,if(!Fq s ⟨#[10]⟩)=true then 27 else 0]=vg s:=by unfold vg;simp
 have htr:(jf s kNl).size≤s.size:=by
  have e3:(jf s kNl).size=(Go.Lib.trimSuffix s.data.toList kNl.data.toList).length:=by
   show(List.toArray _).size=_
   rw[List.size_toArray]
  have e1:s.size=s.data.toList.length:=by rw[Array.length_toList];rfl
  rw[e3,e1]
  unfold Go.Lib.trimSuffix
  split
  ·rw[List.length_take];omega
  ·omega
 unfold Nt
 by_cases he:vg s=0
 case neg=>
  rw[if_pos he]
  have he2:=he
  unfold vg at he2
  refine cu (md:=1) (rf:=[]) mixed aj xS Tryz.func44 (by rfl) (by rfl) (by rfl) ?_
  repeat'((conv=>whnf);first|refine Exists.intro (10) ?_|(intro hq;(try simp only[vw]at hq);try first|exact absurd hq (by decide)|exfalso;omega)|apply aI|with_reducible exact vM rfl|exact⟨⟩|apply nM|apply fM)
  all_goals try refine VC.mk ?_
  all_goals first|omega|(exfalso;exact hq he2)|(exfalso;exact ‹¬aL [_,_]≠0› he2)|(rw[←hx];exact zD _ _)|(simp;done)|skip
 rw[if_neg (by rw[he];simp)]
 have he2:=he
 unfold vg at he2
 have h4:s.size≤4096:=by
  by_cases e:4096<(s.size:Int)
  ·rw[if_pos e]at he2;cases h:Fq s kNl<;>simp[aL,h]at he2
  ·omega
 refine cu (md:=1) (rf:=[]) mixed aj xS Tryz.func44 (by rfl) (by rfl) (by rfl) ?_
 repeat'((conv=>whnf);first|refine Exists.intro (10) ?_|(intro hq;(try simp only[vw]at hq);try first|exact absurd hq (by decide)|exfalso;omega)|apply aI|with_reducible exact vM rfl|exact⟨⟩|apply nM|apply fM)
 all_goals try refine VC.mk ?_
 all_goals(try first|omega|(exfalso;exact hq he2)|(simp;done)|(refine And.intro rfl ?_;show(jf s kNl).size<_;omega))
 conv=>whnf
 have hG:gZ s=rdG rd0 (dA 10 (jf s kNl)):=rfl
 have hln:=xP 10 (jf s kNl)
 have hsz:∀j,j<(dA 10 (jf s kNl)).length→((dA 10 (jf s kNl)).getD j .empty).size≤4096:=fun j hj=>by
  have:=Ce (uU hj)
  omega
 generalize dA 10 (jf s kNl)=W at hG hln hsz⊢
 refine aJ (X:=Nat × Rd) (fun x=>x.1≤W.length∧TK x.2 x.1∧gZ s=rdG x.2 (W.drop x.1)) (fun x=>[(28,.int .i64 x.1)]) (fun x=>[(18,.cells (.pv [.int .i64 x.2.c,.isl (.rows .i64 x.2.L) (.own 22),.int .i64 x.2.sum,.isl (.ints .i64 x.2.gv) .none,.int .i64 x.2.line,.bp x.2.done]) false),(22,.tok 1 x.2.L.length)]) (fun x=>W.length-x.1) (0,rd0) ⟨aG,mixed,aj,xS,aN⟩ (by rfl) ⟨by omega,⟨rfl,Nat.le_refl 0,fun x hx=>absurd hx (by simp[rd0]),by simp[rd0]⟩,hG⟩ ?_ ?_
 ·repeat'((conv=>whnf);first|intro _|apply aI|with_reducible exact vM rfl|exact⟨⟩|apply nM|apply fM)
  all_goals((try apply vM);(try simp only[vq]at*);try omega)
  all_goals skip
 rintro⟨i,r⟩ ⟨hi,hr,hT⟩
 simp only at hi hr hT
 by_cases hlt:i<W.length
 ·have hsi:=hsz i hlt
  have hd:W.drop i=W.getD i .empty::W.drop (i+1):=by rw[List.getD_eq_getElem?_getD,List.getElem?_eq_getElem hlt];simp
  have hr1:=hr.ln
  have hr2:=hr.ll
  have hok:=Y5 hr hsi
  rw[hd]at hT
  unfold rdG at hT
  repeat'((conv=>whnf);first|refine Exists.intro (10) ?_|(intro hq;(try simp only[vw]at hq);try first|exact absurd hq (by decide)|exfalso;omega)|apply aI|with_reducible exact vM rfl|exact⟨⟩|apply nM|apply fM)
  all_goals((try apply vM);(try simp only[vq]at*);try omega)
  ·have hq:(nxt r (W.getD i .empty)).1=false:=hq
   rw[if_neg (by rw[hq];simp)]at hT
   rw[hT]
   exact zD _ _
  have hq:(nxt r (W.getD i .empty)).1=true:=hq
  rw[if_pos hq]at hT
  refine⟨(i+1,(nxt r (W.getD i .empty)).2),[],⟨⟨by simp only;omega,hok,hT⟩,by simp only;omega⟩,?_⟩
  repeat'((conv=>whnf);first|refine Exists.intro (10) ?_|(intro hq;(try simp only[vw]at hq);try first|exact absurd hq (by decide)|exfalso;omega)|apply aI|with_reducible exact vM rfl|exact⟨⟩|apply nM|apply fM)
  all_goals((try apply vM);(try simp only[vq]at*);try omega)
  all_goals skip
 have e:i=W.length:=by omega
 subst e
 have hT2:gZ s=(r,true):=by rw[hT,List.drop_length];rfl
 have hr1:=hr.ln
 have hr2:=hr.ll
 have hLN:bK r.L:=⟨by omega,hr.rw⟩
 have hgl:=hr.gl
 rw[hT2]
 repeat'((conv=>whnf);first|refine Exists.intro (10) ?_|(intro hq;(try simp only[vw]at hq);try first|exact absurd hq (by decide)|exfalso;omega)|apply aI|with_reducible exact vM rfl|exact⟨⟩|apply nM|apply fM)
 all_goals((try apply vM);(try simp only[vq]at*);try omega)
 all_goals(try omega)
 ·rw[if_neg (by simp),if_pos hq]
  exact zD _ _
 ·exact⟨hLN,hgl⟩
 ·rename_i hd
  rw[if_neg (by simp),if_neg (by simp only[hd];simp),if_pos hq]
  exact zD _ _
 ·rename_i hd
  rw[if_neg (by simp),if_neg (by simp only[hd];simp),if_neg hq]
  exact Sup.of rfl
end Go.Eng.YtcechbdgokjmgaaGreatDoor
namespace Go.Eng.YtcechbdgokjmgaaGreatDoor
open Go.Proofs
set_option linter.unusedSimpArgs false
set_option linter.unusedVariables false
set_option maxHeartbeats 0
set_option maxRecDepth 100000
abbrev lI:ByteArray:=⟨#[99,101,108,108]⟩
abbrev sIs:ByteArray:=⟨#[105,115]⟩
abbrev Gm:ByteArray:=⟨#[110,111,116]⟩
abbrev sBy:ByteArray:=⟨#[98,121]⟩
abbrev AX:ByteArray:=⟨#[111,110,32,108,105,110,101]⟩
def exW (g:Int) (r:ByteArray) (y x k:Int):List ByteArray:=
 [lI,itB y,sIs]++(if g≤3 then []else [Gm])++[itB x,sBy,r]++(if 0≤k then [AX,itB k]else [])
def Nu (c:Int) (ls:List (List Int)) (sum:Int) (gv:List Int) (r:ByteArray) (y x k:Int):ByteArray × Int:=
 if pzE c ls sum gv≠0 then(sF,pzE c ls sum gv)else if cO c ls r y x k≠0 then(sF,cO c ls r y x k)else(joB (exW (aU r) r y x k) kBl,0)
noncomputable def adH:CPT:=aA 22 (aB lF) (aA 101 (aB oq) (aA 107 (aB y9) (aA 126 (aB Ta) (aA 129 (aB Dy) (aA 130 (aB oZ) noC)))))
theorem gy:aW Tryz.prog adH:=ak (au kN) (ak (au pY) (ak (au Fh) (ak (au abp) (ak (au Jl) (ak (au o7) aD)))))
theorem vk {g:Int} {r:ByteArray} {y x k:Int} (hy:nH y) (hx:nH x) (hk:nH k) (hr:r.size≤6):RV (exW g r y x k) 1000000:=by
 have h1:=oP hy
 have h2:=oP hx
 have h3:=oP hk
 refine⟨?_,fun w hw=>?_⟩
 ·unfold exW;split<;>split<;>simp
 ·unfold exW at hw
  simp only[List.mem_append,List.mem_cons,List.not_mem_nil,or_false]at hw
  rcases hw with((((rfl|rfl|rfl)|hw)|(rfl|rfl|rfl))|hw)
  ·decide
  ·omega
  ·decide
  ·split at hw
   ·simp at hw
   ·simp at hw;subst hw;decide
  ·omega
  ·decide
  ·omega
  ·split at hw
   ·simp at hw
    rcases hw with rfl|rfl
    ·decide
    ·omega
   ·simp at hw
theorem Gn (c:Int) (ls:List (List Int)) (sum:Int) (gv:List Int) (h:bK ls) (hg:gv.length≤5000) (r:ByteArray) (y x k:Int):
 aF Tryz.prog 63 [pzV c ls sum gv,ddV r y x k] (.tup [.str (Nu c ls sum gv r y x k).1,.int .i64 (Nu c ls sum gv r y x k).2]):=by
 unfold Nu
 by_cases he:pzE c ls sum gv=0
 case neg=>
  rw[if_pos he]
  refine av (md:=1) (rf:=[]) mixed aj gy Tryz.func63 (by rfl) (by rfl) (by rfl) ?_
  repeat'((conv=>whnf);first|(intro hq;(try simp only[vw]at hq);try first|exact absurd hq (by decide)|exfalso;omega)|apply aI|with_reducible exact vM rfl|exact⟨⟩|apply nM|apply fM)
  all_goals((try apply vM);(try simp only[vq]at*);try omega)
  all_goals first|exact⟨h,hg⟩|exact h|exact Sup.of rfl|(exfalso;exact he (by assumption))|(exfalso;contradiction)|skip
 rw[if_neg (by rw[he];simp)]
 by_cases hd:cO c ls r y x k=0
 case neg=>
  rw[if_pos hd]
  refine av (md:=1) (rf:=[]) mixed aj gy Tryz.func63 (by rfl) (by rfl) (by rfl) ?_
  repeat'((conv=>whnf);first|(intro hq;(try simp only[vw]at hq);try first|exact absurd hq (by decide)|exfalso;omega)|apply aI|with_reducible exact vM rfl|exact⟨⟩|apply nM|apply fM)
  all_goals((try apply vM);(try simp only[vq]at*);try omega)
  all_goals first|exact⟨h,hg⟩|exact h|exact Sup.of rfl|(exfalso;exact hd (by assumption))|(exfalso;contradiction)|skip
 rw[if_neg (by rw[hd];simp)]
 have hp:=dR.of he
 have hc:=hp.c1
 have hll:=hp.ll
 have ho:=mq.of hd
 have hy:=ho.y
 have hx:=ho.x
 have hte:=y8
 have hk:k= -1∨(0≤k∧k<128):=by
  unfold cO at hd
  by_cases h1:aU r=0
  ·rw[if_pos h1]at hd;cases hd
  rw[if_neg h1]at hd
  by_cases h2:y<0∨c≤y
  ·rw[if_pos h2]at hd;cases hd
  rw[if_neg h2]at hd
  by_cases h3:x<1∨c<x
  ·rw[if_pos h3]at hd;cases hd
  rw[if_neg h3]at hd
  by_cases h4:aU r=2∨aU r=3
  ·rw[if_pos h4]at hd
   by_cases h5:k= -1
   ·exact .inl h5
   ·rw[if_pos h5]at hd;cases hd
  ·rw[if_neg h4]at hd
   by_cases h5:k<0∨ls.length≤k∨y∉ls.getD k.toNat []
   ·rw[if_pos h5]at hd;cases hd
   ·have h6:¬k<0:=fun e=>h5 (.inl e)
    have h7:¬(ls.length:Int)≤k:=fun e=>h5 (.inr (.inl e))
    omega
 have b1:nH y:=⟨by omega,by omega⟩
 have b2:nH x:=⟨by omega,by omega⟩
 have b3:nH k:=⟨by omega,by omega⟩
 obtain⟨rfl,hg'⟩|⟨rfl,hg'⟩|⟨rfl,hg'⟩|⟨rfl,hg'⟩|⟨rfl,hg'⟩|hg':=mh r
 ·rw[hg']
  have hw:=vk (g:=1) (r:=bJ) (k:=k) b1 b2 b3 (by decide)
  rcases hk with hk0|hk0
  ·have e:exW 1 bJ y x k=([lI,itB y,sIs]++[itB x,sBy,bJ]):=by unfold exW;rw[if_pos (show(1:Int)≤3 by decide),if_neg (show¬(0:Int)≤k by omega),List.append_nil];(try rfl)
   rw[e]at hw⊢
   refine av (md:=1) (rf:=[]) mixed aj gy Tryz.func63 (by rfl) (by rfl) (by rfl) ?_
   repeat'((conv=>whnf);first|apply Exists.intro (1)|(intro hq;(try simp only[vw]at hq);try first|exact absurd hq (by decide)|exfalso;omega)|apply aI|with_reducible exact vM rfl|exact⟨⟩|apply nM|apply fM)
   all_goals((try apply vM);(try simp only[vq]at*);try omega)
   all_goals first|exact⟨h,hg⟩|exact h|exact hg'|exact hd|exact he|exact b1|exact b2|exact b3|(rw[hte];decide)|exact hw|(simp;done)|(exfalso;contradiction)|(exfalso;omega)|exact Sup.of rfl|skip
  ·have e:exW 1 bJ y x k=([lI,itB y,sIs]++[itB x,sBy,bJ])++[AX,itB k]:=by unfold exW;rw[if_pos (show(1:Int)≤3 by decide),if_pos (show(0:Int)≤k by omega)];(try rfl)
   rw[e]at hw⊢
   refine av (md:=1) (rf:=[]) mixed aj gy Tryz.func63 (by rfl) (by rfl) (by rfl) ?_
   repeat'((conv=>whnf);first|apply Exists.intro (1)|(intro hq;(try simp only[vw]at hq);try first|exact absurd hq (by decide)|exfalso;omega)|apply aI|with_reducible exact vM rfl|exact⟨⟩|apply nM|apply fM)
   all_goals((try apply vM);(try simp only[vq]at*);try omega)
   all_goals first|exact⟨h,hg⟩|exact h|exact hg'|exact hd|exact he|exact b1|exact b2|exact b3|(rw[hte];decide)|exact hw|(simp;done)|(exfalso;contradiction)|(exfalso;omega)|exact Sup.of rfl|skip
 ·rw[hg']
  have hw:=vk (g:=2) (r:=bR) (k:=k) b1 b2 b3 (by decide)
  rcases hk with hk0|hk0
  ·have e:exW 2 bR y x k=([lI,itB y,sIs]++[itB x,sBy,bR]):=by unfold exW;rw[if_pos (show(2:Int)≤3 by decide),if_neg (show¬(0:Int)≤k by omega),List.append_nil];(try rfl)
   rw[e]at hw⊢
   refine av (md:=1) (rf:=[]) mixed aj gy Tryz.func63 (by rfl) (by rfl) (by rfl) ?_
   repeat'((conv=>whnf);first|apply Exists.intro (2)|(intro hq;(try simp only[vw]at hq);try first|exact absurd hq (by decide)|exfalso;omega)|apply aI|with_reducible exact vM rfl|exact⟨⟩|apply nM|apply fM)
   all_goals((try apply vM);(try simp only[vq]at*);try omega)
   all_goals first|exact⟨h,hg⟩|exact h|exact hg'|exact hd|exact he|exact b1|exact b2|exact b3|(rw[hte];decide)|exact hw|(simp;done)|(exfalso;contradiction)|(exfalso;omega)|exact Sup.of rfl|skip
  ·have e:exW 2 bR y x k=([lI,itB y,sIs]++[itB x,sBy,bR])++[AX,itB k]:=by unfold exW;rw[if_pos (show(2:Int)≤3 by decide),if_pos (show(0:Int)≤k by omega)];(try rfl)
   rw[e]at hw⊢
   refine av (md:=1) (rf:=[]) mixed aj gy Tryz.func63 (by rfl) (by rfl) (by rfl) ?_
   repeat'((conv=>whnf);first|apply Exists.intro (2)|(intro hq;(try simp only[vw]at hq);try first|exact absurd hq (by decide)|exfalso;omega)|apply aI|with_reducible exact vM rfl|exact⟨⟩|apply nM|apply fM)
   all_goals((try apply vM);(try simp only[vq]at*);try omega)
   all_goals first|exact⟨h,hg⟩|exact h|exact hg'|exact hd|exact he|exact b1|exact b2|exact b3|(rw[hte];decide)|exact hw|(simp;done)|(exfalso;contradiction)|(exfalso;omega)|exact Sup.of rfl|skip
 ·rw[hg']
  have hw:=vk (g:=3) (r:=bS) (k:=k) b1 b2 b3 (by decide)
  rcases hk with hk0|hk0
  ·have e:exW 3 bS y x k=([lI,itB y,sIs]++[itB x,sBy,bS]):=by unfold exW;rw[if_pos (show(3:Int)≤3 by decide),if_neg (show¬(0:Int)≤k by omega),List.append_nil];(try rfl)
   rw[e]at hw⊢
   refine av (md:=1) (rf:=[]) mixed aj gy Tryz.func63 (by rfl) (by rfl) (by rfl) ?_
   repeat'((conv=>whnf);first|apply Exists.intro (3)|(intro hq;(try simp only[vw]at hq);try first|exact absurd hq (by decide)|exfalso;omega)|apply aI|with_reducible exact vM rfl|exact⟨⟩|apply nM|apply fM)
   all_goals((try apply vM);(try simp only[vq]at*);try omega)
   all_goals first|exact⟨h,hg⟩|exact h|exact hg'|exact hd|exact he|exact b1|exact b2|exact b3|(rw[hte];decide)|exact hw|(simp;done)|(exfalso;contradiction)|(exfalso;omega)|exact Sup.of rfl|skip
  ·have e:exW 3 bS y x k=([lI,itB y,sIs]++[itB x,sBy,bS])++[AX,itB k]:=by unfold exW;rw[if_pos (show(3:Int)≤3 by decide),if_pos (show(0:Int)≤k by omega)];(try rfl)
   rw[e]at hw⊢
   refine av (md:=1) (rf:=[]) mixed aj gy Tryz.func63 (by rfl) (by rfl) (by rfl) ?_
   repeat'((conv=>whnf);first|apply Exists.intro (3)|(intro hq;(try simp only[vw]at hq);try first|exact absurd hq (by decide)|exfalso;omega)|apply aI|with_reducible exact vM rfl|exact⟨⟩|apply nM|apply fM)
   all_goals((try apply vM);(try simp only[vq]at*);try omega)
   all_goals first|exact⟨h,hg⟩|exact h|exact hg'|exact hd|exact he|exact b1|exact b2|exact b3|(rw[hte];decide)|exact hw|(simp;done)|(exfalso;contradiction)|(exfalso;omega)|exact Sup.of rfl|skip
 ·rw[hg']
  have hw:=vk (g:=4) (r:=bP) (k:=k) b1 b2 b3 (by decide)
  rcases hk with hk0|hk0
  ·have e:exW 4 bP y x k=([lI,itB y,sIs]++[Gm]++[itB x,sBy,bP]):=by unfold exW;rw[if_neg (show¬(4:Int)≤3 by decide),if_neg (show¬(0:Int)≤k by omega),List.append_nil];(try rfl)
   rw[e]at hw⊢
   refine av (md:=1) (rf:=[]) mixed aj gy Tryz.func63 (by rfl) (by rfl) (by rfl) ?_
   repeat'((conv=>whnf);first|apply Exists.intro (4)|(intro hq;(try simp only[vw]at hq);try first|exact absurd hq (by decide)|exfalso;omega)|apply aI|with_reducible exact vM rfl|exact⟨⟩|apply nM|apply fM)
   all_goals((try apply vM);(try simp only[vq]at*);try omega)
   all_goals first|exact⟨h,hg⟩|exact h|exact hg'|exact hd|exact he|exact b1|exact b2|exact b3|(rw[hte];decide)|exact hw|(simp;done)|(exfalso;contradiction)|(exfalso;omega)|exact Sup.of rfl|skip
  ·have e:exW 4 bP y x k=([lI,itB y,sIs]++[Gm]++[itB x,sBy,bP])++[AX,itB k]:=by unfold exW;rw[if_neg (show¬(4:Int)≤3 by decide),if_pos (show(0:Int)≤k by omega)];(try rfl)
   rw[e]at hw⊢
   refine av (md:=1) (rf:=[]) mixed aj gy Tryz.func63 (by rfl) (by rfl) (by rfl) ?_
   repeat'((conv=>whnf);first|apply Exists.intro (4)|(intro hq;(try simp only[vw]at hq);try first|exact absurd hq (by decide)|exfalso;omega)|apply aI|with_reducible exact vM rfl|exact⟨⟩|apply nM|apply fM)
   all_goals((try apply vM);(try simp only[vq]at*);try omega)
   all_goals first|exact⟨h,hg⟩|exact h|exact hg'|exact hd|exact he|exact b1|exact b2|exact b3|(rw[hte];decide)|exact hw|(simp;done)|(exfalso;contradiction)|(exfalso;omega)|exact Sup.of rfl|skip
 ·rw[hg']
  have hw:=vk (g:=5) (r:=bQ) (k:=k) b1 b2 b3 (by decide)
  rcases hk with hk0|hk0
  ·have e:exW 5 bQ y x k=([lI,itB y,sIs]++[Gm]++[itB x,sBy,bQ]):=by unfold exW;rw[if_neg (show¬(5:Int)≤3 by decide),if_neg (show¬(0:Int)≤k by omega),List.append_nil];(try rfl)
   rw[e]at hw⊢
   refine av (md:=1) (rf:=[]) mixed aj gy Tryz.func63 (by rfl) (by rfl) (by rfl) ?_
   repeat'((conv=>whnf);first|apply Exists.intro (5)|(intro hq;(try simp only[vw]at hq);try first|exact absurd hq (by decide)|exfalso;omega)|apply aI|with_reducible exact vM rfl|exact⟨⟩|apply nM|apply fM)
   all_goals((try apply vM);(try simp only[vq]at*);try omega)
   all_goals first|exact⟨h,hg⟩|exact h|exact hg'|exact hd|exact he|exact b1|exact b2|exact b3|(rw[hte];decide)|exact hw|(simp;done)|(exfalso;contradiction)|(exfalso;omega)|exact Sup.of rfl|skip
  ·have e:exW 5 bQ y x k=([lI,itB y,sIs]++[Gm]++[itB x,sBy,bQ])++[AX,itB k]:=by unfold exW;rw[if_neg (show¬(5:Int)≤3 by decide),if_pos (show(0:Int)≤k by omega)];(try rfl)
   rw[e]at hw⊢
   refine av (md:=1) (rf:=[]) mixed aj gy Tryz.func63 (by rfl) (by rfl) (by rfl) ?_
   repeat'((conv=>whnf);first|apply Exists.intro (5)|(intro hq;(try simp only[vw]at hq);try first|exact absurd hq (by decide)|exfalso;omega)|apply aI|with_reducible exact vM rfl|exact⟨⟩|apply nM|apply fM)
   all_goals((try apply vM);(try simp only[vq]at*);try omega)
   all_goals first|exact⟨h,hg⟩|exact h|exact hg'|exact hd|exact he|exact b1|exact b2|exact b3|(rw[hte];decide)|exact hw|(simp;done)|(exfalso;contradiction)|(exfalso;omega)|exact Sup.of rfl|skip
 have:=ho.g
 omega
end Go.Eng.YtcechbdgokjmgaaGreatDoor
namespace Go.Eng
open Go.Proofs Go.Shelf Go.RowKit
set_option linter.unusedSimpArgs false
set_option linter.unusedVariables false
theorem wo {P:Program} {w:World} {ops:Array Oper} {rest:List Oper} {o:Oper} {a:Act} {Q:Exit→Act→World→Prop} (hgd:o.guard=none) (sl x:Operand) (t u:TypeId)
 (ho:o.op=.call {callee:=.builtin .append,args:= #[sl,x],argTypes:= #[t,u]})
 (e:TypeId) (i:TypeInfo) (ht:P.underlying t=some (.slice e)) (hu:P.underlying u=some .string) (hi:P.info? e=some i) (hz:i.zero=some (.int .u8 0)) (hsize:i.size=1) (hby:i.bytes=1)
 (v:Value) (n:Nat) (xs:List Value) (hs:a.eval sl=v) (hown:w.ownsRowF 0 e 1 v n xs) (s:ByteArray) (hx:a.eval x=.string s) (h63:n+s.size≤maxLen) (hbytes:n+s.size≤140737488355328)
 (h:∀v' w',w'.ownsRowF 0 e 1 v' (n+s.size) (xs++Lib.strCells s)→w.grownBy w' v.ownBlock→(∀b,b<w.heap.size→bsz w' b=bsz w b)→(∀g,v'.ownBlock=some g→v.ownBlock=some g∨w.heap.size≤g)→wpList P ops Q rest (a.put o.dst v') w'):
 wpList P ops Q (o::rest) a w:=by
 refine wpList_plain hgd fun K hK=>?_
 obtain⟨v',w',hr,h2,h3,h4,h5⟩:=LH (P:=P) w t u o.type e i ht hu hi hz hsize hby v n xs hown s h63 hbytes
 unfold Oper.wp execOp
 simp only[ho,resolve,invoke,builtin,Sem.run_bind,Sem.run_pure,Result.andThen_ok,List.map_toArray,List.map_cons,List.map_nil,hs,hx,hr]
 exact hK _ _ (h v' w' h2 h3 h4 h5)
theorem wM (w:World) (a:Addr) (x:Value) (b:Nat):bsz (w.setCell a x) b=bsz w b:=by
 unfold bsz World.setCell
 rw[Array.getElem?_modify]
 by_cases e:a.block=b
 ·rw[if_pos e]
  cases w.heap[b]? with
  |none=>rfl
  |some o=>
   cases o with
   |cells c t f=>simp only[Option.map_some];split<;>simp
   |_=>rfl
 ·rw[if_neg e]
theorem Gp (a b:ByteArray):Lib.strCells a++Lib.strCells b=Lib.strCells (a++b):=by
 unfold Lib.strCells
 rw[←List.map_append]
 congr 1
theorem QC {P:Program} {ρ:Ren} (L:Lays.n240 P ρ) (X:Builder.X72 P ρ) (b:Nat) (p v:Value) (w:World) (hbk:w.heap[b]? =some (.cells #[p,v] (ρ.t 72) (0,0))) (hp:p=.pointer none∨p=.pointer (some ⟨b,0,none⟩)):
 Calls P (ρ.f 240) #[.pointer (some ⟨b,0,none⟩)] w fun e w'=>e=.returned (.tuple #[])∧w'.heap[b]? =some (.cells #[.pointer (some ⟨b,0,none⟩),v] (ρ.t 72) (0,0))∧w'.os=w.os∧w'.tape=w.tape∧w'.output=w.output∧w'.heap.size=w.heap.size∧
  (∀b',b'≠b→w'.heap[b']? =w.heap[b']?)∧∀b',bsz w' b'=bsz w b':=by
 rcases hp with rfl|rfl
 ·refine(Any.Builder_copyCheck_fresh L X b w (by rw[Lib.cell_of_heap hbk];rfl) (by simp[World.shape?,hbk]) (Lib.frozen_of_heap hbk 0)).mono ?_
  rintro e w' ⟨rfl,rfl⟩
  exact⟨rfl,by simp[World.setCell,Array.getElem?_modify,hbk],rfl,rfl,rfl,by simp[World.setCell],fun b' hb'=>Below.heap_setCell _ _ _ _ hb',fun b'=>wM _ _ _ _⟩
 ·refine(Any.Builder_copyCheck_used L X b w (by rw[Lib.cell_of_heap hbk];rfl)).mono ?_
  rintro e w' ⟨rfl,rfl⟩
  exact⟨rfl,hbk,rfl,rfl,rfl,rfl,fun _ _=>rfl,fun _=>rfl⟩
set_option maxHeartbeats 4000000 in
set_option maxRecDepth 100000 in
theorem QD {P:Program} {ρ:Ren} (L:Lays.n166 P ρ) (X:Builder.Extra P ρ) (b:Nat) (p v:Value) (bs s:ByteArray) (w:World) (hbk:w.heap[b]? =some (.cells #[p,v] (ρ.t 72) (0,0))) (hp:p=.pointer none∨p=.pointer (some ⟨b,0,none⟩))
 (hne:v.ownBlock≠some b) (hown:w.ownsRowF 0 (ρ.t 5) 1 v bs.size (Lib.strCells bs)) (hlen:bs.size+s.size≤140737488355328):
 Calls P (ρ.f 166) #[.pointer (some ⟨b,0,none⟩),.string s] w fun ex w'=>∃val v',ex=.returned val∧uI (ρ.t 72) (ρ.t 5) b v w w' (bs++s) v'∧val=.tuple #[.int .i64 s.size,.nilIface]:=by
 obtain⟨i0,hi,hz0,hz1,hz2⟩:=info_parts X.infoByte
 have mixed:=L.mixed
 have t72:=L.t72;have a72:=L.a72;have z72:=L.z72;have v72:=L.v72;have u72:=run_underlying L.t72
 have t70:=L.t70;have a70:=L.a70;have z70:=L.z70;have v70:=L.v70;have u70:=run_underlying L.t70
 have t37:=L.t37;have a37:=L.a37;have z37:=L.z37;have v37:=L.v37;have u37:=run_underlying L.t37
 have t3:=L.t3;have a3:=L.a3;have z3:=L.z3;have v3:=L.v3;have u3:=run_underlying L.t3
 have t9:=L.t9;have a9:=L.a9;have z9:=L.z9;have v9:=L.v9;have u9:=run_underlying L.t9
 have t4:=L.t4;have a4:=L.a4;have z4:=L.z4;have v4:=L.v4;have u4:=run_underlying L.t4
 have t164:=L.t164;have a164:=L.a164;have z164:=L.z164;have v164:=L.v164;have u164:=run_underlying L.t164
 have t5:=X.t5;have a5:=X.a5;have z5:=X.z5;have v5:=X.v5;have u5:=run_underlying X.t5
 have e240:∀args w,(callFunc (ρ.f 240) args).run P w=.ok (.enter (ρ.f 240) args) w:=enters_of L.f240 (by kernel_rfl) rfl
 go_enter L.f166,Body.n166_ntmps ρ
 go_wp2_with (go_at_fn (ρ.f 240);refine(QC {L with} X.toX72 b p v _ hbk hp).mono ?_)
 rintro e w1 ⟨rfl,hb1,o1,tp1,ou1,sz1,oth1,bz1⟩
 have hown1:w1.ownsRowF 0 (ρ.t 5) 1 v bs.size (Lib.strCells bs):=lT hown fun g hg=>oth1 g (fun e=>hne (by rw[hg,e]))
 have c0:w1.cell? ⟨b,0,none⟩=some (.pointer (some ⟨b,0,none⟩)):=by rw[Lib.cell_of_heap hb1];rfl
 have c1:w1.cell? ⟨b,1,none⟩=some v:=by rw[Lib.cell_of_heap hb1];rfl
 go_wp2_with (at_builtin;refine wo rfl _ _ (ρ.t 37) (ρ.t 9) rfl (ρ.t 5) i0 L.t37 L.t9 hi hz0 hz1 hz2 _ _ _ rfl hown1 s rfl ?c3 ?c4 ?_)
 case c3=>unfold maxLen;omega
 case c4=>omega
 intro v' w2 hown' hgrow hbz hnew
 have hlt:b<w1.heap.size:=lt_of_heap hb1
 have hb2:w2.heap[b]? =some (.cells #[.pointer (some ⟨b,0,none⟩),v] (ρ.t 72) (0,0)):=by
  rw[hgrow.block b hlt (fun e=>hne e.symm)]
  exact hb1
 have d0:w2.cell? ⟨b,0,none⟩=some (.pointer (some ⟨b,0,none⟩)):=by rw[Lib.cell_of_heap hb2];rfl
 have d1:w2.cell? ⟨b,1,none⟩=some v:=by rw[Lib.cell_of_heap hb2];rfl
 have f1:w2.frozen? ⟨b,1,none⟩=false:=Lib.frozen_of_heap hb2 1
 have hvb:v'.ownBlock≠some b:=fun e=>by
  rcases hnew b e with h|h
  ·exact hne h
  ·omega
 obtain⟨ao,n',cap,rfl⟩:∃ao n' cap,v'=.slice ao n' cap:=by
  rcases hown'.2 with⟨hv,_⟩|⟨g,cap,cur,fz,hv,_⟩
  ·exact⟨_,_,_,hv⟩
  ·exact⟨_,_,_,hv⟩
 go_wp2
 go_ret2
 refine⟨_,.slice ao n' cap,rfl,⟨⟨_,?_,.inr rfl⟩,hvb,?_,?_,?_,?_,?_,?_,?_,?_⟩,rfl⟩
 ·simp[World.setCell,Array.getElem?_modify,hb2]
 ·rw[←Gp,ByteArray.size_append]
  exact lT hown' fun g hg=>Below.heap_setCell _ _ _ _ (fun e=>hvb (by rw[hg,e]))
 ·intro g hg
  rcases hnew g hg with h|h
  ·exact .inl h
  ·exact .inr (by omega)
 ·exact hgrow.os.trans o1
 ·exact hgrow.tape.trans tp1
 ·exact hgrow.output.trans ou1
 ·have:=hgrow.size;simp[World.setCell];omega
 ·intro b' h1 h2 h3
  rw[Below.heap_setCell _ _ _ _ h2,hgrow.block b' (by omega) (fun e=>h3 e.symm)]
  exact oth1 b' h2
 ·intro b' h1
  rw[wM,hbz b' (by omega)]
set_option maxHeartbeats 4000000 in
set_option maxRecDepth 100000 in
theorem Nv {P:Program} {ρ:Ren} (L:Lays.n169 P ρ) (X:Builder.Extra P ρ) (b:Nat) (p v:Value) (s:ByteArray) (w:World) (hbk:w.heap[b]? =some (.cells #[p,v] (ρ.t 72) (0,0))) (hp:p=.pointer none∨p=.pointer (some ⟨b,0,none⟩))
 (hne:v.ownBlock≠some b) (hown:w.ownsRowF 0 (ρ.t 5) 1 v s.size (Lib.strCells s)) (h0:0<s.size):
 Calls P (ρ.f 169) #[.pointer (some ⟨b,0,none⟩)] w fun ex w'=>∃val v',ex=.returned val∧uI (ρ.t 72) (ρ.t 5) b v w w' s v'∧val=.string s:=by
 obtain⟨g,cap,cur,fz,rfl,hbg,hg,hfz,hnc,hcm,hcs,htake⟩:∃g cap cur fz,v=.slice (some ⟨g,0,none⟩) s.size cap∧0≤g∧w.heap[g]? =some (.cells cur (ρ.t 5) fz)∧fz.2≤s.size*1∧s.size≤cap∧cap≤maxLen∧cur.size=cap*1∧cur.toList.take (s.size*1)=Lib.strCells s:=by
  rcases hown.2 with⟨_,hz⟩|⟨g,cap,cur,fz,hv,r⟩
  ·omega
  ·exact⟨g,cap,cur,fz,hv,r⟩
 have hgb:g≠b:=fun e=>hne (by simp[Value.ownBlock,e])
 have hls:s.data.toList.length=s.size:=by rw[Array.length_toList];rfl
 have c1:w.drew.cell? ⟨b,1,none⟩=some (.slice (some ⟨g,0,none⟩) s.size cap):=by
  have:w.drew.heap[b]? =some (.cells #[p,.slice (some ⟨g,0,none⟩) s.size cap] (ρ.t 72) (0,0)):=hbk
  rw[Lib.cell_of_heap this];rfl
 have hSD:(Builtin.unsafeSliceData_ #[(ρ.t 37)] (ρ.t 127) #[.slice (some ⟨g,0,none⟩) s.size cap]).run P w.drew=.ok (.pointer (some ⟨g,0,none⟩)) w.drew:=
  Lib.run_unsafeSliceData_row _ _ _ _ _ _ (by omega)
 have hUS:(Builtin.unsafeString_ #[(ρ.t 127),(ρ.t 3)] (ρ.t 9) #[.pointer (some ⟨g,0,none⟩),.int .i64 s.size]).run P w.drew=.ok (.string s) (w.drew.freeze ⟨g,0,none⟩ s.size):=by
  have:=Lib.run_unsafeString_row (P:=P) w.drew (ρ.t 127) (ρ.t 3) (ρ.t 9) (ρ.t 5) L.t127 X.cellsByte g cur.size (by have hg':w.drew.heap[g]? =some (.cells cur (ρ.t 5) fz):=hg;simp[World.shape?,hg']) s.data.toList (by intro e;rw[e]at hls;exact absurd hls (by rw[List.length_nil];omega)) (by omega) (by unfold maxLen at hcm;omega) (by
   intro j x hx
   exact hown.cells (g:=g) rfl j (.int .u8 x.toNat) (by simp[Lib.strCells,hx]))
  rw[hls]at this
  exact this
 have hfin:uI (ρ.t 72) (ρ.t 5) b (.slice (some ⟨g,0,none⟩) s.size cap) w (w.drew.freeze ⟨g,0,none⟩ s.size) s (.slice (some ⟨g,0,none⟩) s.size cap):=by
  have hgn:(w.drew.freeze ⟨g,0,none⟩ s.size).heap[g]? =some (.cells cur (ρ.t 5) (if fz.1==fz.2 then(0,0+s.size)else(min fz.1 0,max fz.2 (0+s.size)))):=by
   unfold World.freeze
   rw[if_neg (by omega)]
   have hg':w.drew.heap[g]? =some (.cells cur (ρ.t 5) fz):=hg
   simp[Array.getElem?_modify,hg']
  have hoth:∀b',b'≠g→(w.drew.freeze ⟨g,0,none⟩ s.size).heap[b']? =w.heap[b']? :=fun b' hb'=>by
   unfold World.freeze
   rw[if_neg (by omega)]
   simp only[Array.getElem?_modify]
   rw[if_neg (fun e=>hb' e.symm)]
   rfl
  refine⟨⟨p,(hoth b (fun e=>hgb e.symm)).trans hbk,hp⟩,hne,⟨hown.1,.inr ⟨g,cap,cur,_,rfl,hbg,hgn,?_,hnc,hcm,hcs,htake⟩⟩,fun g' hg'=>.inl hg',?_,?_,?_,?_,fun b' _ _ h3=>hoth b' (fun e=>h3 (by simp[Value.ownBlock,e])),fun b' _=>?_⟩
  ·split
   ·simp
   ·simp;omega
  ·unfold World.freeze;split<;>rfl
  ·unfold World.freeze;split<;>rfl
  ·unfold World.freeze;split<;>rfl
  ·unfold World.freeze
   split
   ·exact Nat.le_refl _
   ·exact Nat.le_of_eq (Array.size_modify ..).symm
  ·by_cases e:b'=g
   ·subst e;unfold bsz;rw[hgn,hg]
   ·exact eu (hoth b' e)
 have mixed:=L.mixed
 have t72:=L.t72;have a72:=L.a72;have z72:=L.z72;have v72:=L.v72;have u72:=run_underlying L.t72
 have t70:=L.t70;have a70:=L.a70;have z70:=L.z70;have v70:=L.v70;have u70:=run_underlying L.t70
 have t37:=L.t37;have a37:=L.a37;have z37:=L.z37;have v37:=L.v37;have u37:=run_underlying L.t37
 have t127:=L.t127;have a127:=L.a127;have z127:=L.z127;have v127:=L.v127;have u127:=run_underlying L.t127
 have t3:=L.t3;have a3:=L.a3;have z3:=L.z3;have v3:=L.v3;have u3:=run_underlying L.t3
 have t9:=L.t9;have a9:=L.a9;have z9:=L.z9;have v9:=L.v9;have u9:=run_underlying L.t9
 have t5:=X.t5;have a5:=X.a5;have z5:=X.z5;have v5:=X.v5;have u5:=run_underlying X.t5
 go_enter L.f169,Body.n169_ntmps ρ
 go_wp2
 go_region_o
 all_goals(go_wp2;go_ret;exact⟨_,_,rfl,hfin,rfl⟩)
end Go.Eng
namespace Go.Eng.YtcechbdgokjmgaaGreatDoor
open Go.Proofs Go.RowKit
set_option linter.unusedSimpArgs false
set_option linter.unusedVariables false
set_option maxHeartbeats 0
set_option maxRecDepth 100000
def Nw:CT:=fun args n H K=>match args with
 | [p,x]=>match p with
  |.rp k off=>match x with
   |.str s=>bV H k fun o=>match o with
    |.bld t e acc=>ifK (Nat.beq off 0&&Nat.beq t 163&&Nat.beq e 5) (VC (acc.size+s.size≤140737488355328)∧K (.tup [.int .i64 s.size,.nili]) [(k,.bld t e (acc++s))] [k] [])
    |_=>False
   |_=>False
  |_=>False
 |_=>False
def Ny:CT:=fun args n H K=>match args with
 | [p]=>match p with
  |.rp k off=>bV H k fun o=>match o with
   |.bld t e acc=>ifK (Nat.beq off 0&&Nat.beq t 163&&Nat.beq e 5) (K (.int .i64 acc.size) [(k,.bld t e acc)] [k] [])
   |_=>False
  |_=>False
 |_=>False
def Nz:CT:=fun args n H K=>match args with
 | [p]=>match p with
  |.rp k off=>bV H k fun o=>match o with
   |.bld t e acc=>ifK (Nat.beq off 0&&Nat.beq t 163&&Nat.beq e 5) (VC (0<acc.size)∧K (.str acc) [(k,.bld t e acc)] [k] [])
   |_=>False
  |_=>False
 |_=>False
theorem AY {S:Imm} {w:World} {ι:Ix} {k b:Nat} {v:Value} (h:Rep S w ι (.rp k 0) v) (hb:ι.o k=some b):v=.pointer (some ⟨b,0,none⟩):=by
 cases h with
 |rp _ _ _ b' hk=>rw[hb]at hk;cases hk;rfl
theorem TL {S:Imm} {w:World} {ι:Ix} {s:ByteArray} {v:Value} (h:Rep S w ι (.str s) v):v=.string s:=by cases h;rfl
theorem TM:COK Tryz.prog 106 Nw:=by
 intro args n H K hk
 unfold Nw at hk
 split at hk
 ·split at hk
  ·rename_i k off
   split at hk
   ·rename_i s
    rw[bg]at hk
    obtain⟨o,hob,hk⟩:=hk
    split at hk
    ·rename_i t e acc
     simp only[aM,Bool.and_eq_true]at hk
     obtain⟨⟨⟨h1,h2⟩,h3⟩,⟨hsz⟩,hk⟩:=hk
     have h1:=Nat.eq_of_beq_eq_true h1;have h2:=Nat.eq_of_beq_eq_true h2;have h3:=Nat.eq_of_beq_eq_true h3
     subst h1;subst h2;subst h3
     refine⟨_,_,_,[],hk,xu (enters' Tryz.func106 (by rfl) (by rfl)) hob fun S w ι vs b p v hr ho h0 hp hne hown=>?_⟩
     obtain⟨v1,v2,rfl,r1,r2⟩:=EX hr
     obtain rfl:=AY r1 ho
     obtain rfl:=TL r2
     refine(QD (P:=Tryz.prog) (ρ:=Tryz.lays156_ren) {Tryz.lays156 with} Tryz.Builder_Extra_156 b p v acc s w h0 hp hne hown hsz).mono ?_
     rintro ex w' ⟨val,v',rfl,B,rfl⟩
     exact⟨_,v',rfl,B,fun S' ι'=>.tup _ _ _ rfl fun i hi=>by
      match i,hi with
      |0,_=>exact .int _ _ _
      |1,_=>exact .nili _⟩
    ·exact hk.elim
   ·exact hk.elim
  ·exact hk.elim
 ·exact hk.elim
theorem TN:COK Tryz.prog 110 Nz:=by
 intro args n H K hk
 unfold Nz at hk
 split at hk
 ·split at hk
  ·rename_i k off
   rw[bg]at hk
   obtain⟨o,hob,hk⟩:=hk
   split at hk
   ·rename_i t e acc
    simp only[aM,Bool.and_eq_true]at hk
    obtain⟨⟨⟨h1,h2⟩,h3⟩,⟨hsz⟩,hk⟩:=hk
    have h1:=Nat.eq_of_beq_eq_true h1;have h2:=Nat.eq_of_beq_eq_true h2;have h3:=Nat.eq_of_beq_eq_true h3
    subst h1;subst h2;subst h3
    refine⟨_,_,_,[],hk,xu (enters' Tryz.func110 (by rfl) (by rfl)) hob fun S w ι vs b p v hr ho h0 hp hne hown=>?_⟩
    obtain⟨v1,rfl,r1⟩:=xw hr
    obtain rfl:=AY r1 ho
    refine(Nv (P:=Tryz.prog) (ρ:=Tryz.lays156_ren) {Tryz.lays156 with} Tryz.Builder_Extra_156 b p v acc w h0 hp hne hown hsz).mono ?_
    rintro ex w' ⟨val,v',rfl,B,rfl⟩
    exact⟨_,v',rfl,B,fun S' ι'=>.str _ _⟩
   ·exact hk.elim
  ·exact hk.elim
 ·exact hk.elim
set_option maxRecDepth 100000 in
theorem Y6 (b:Nat) (p v:Value) (s:ByteArray) (w:World) (hbk:w.heap[b]? =some (.cells #[p,v] 163 (0,0))) (hown:w.ownsRowF 0 5 1 v s.size (Lib.strCells s)):
 Calls Tryz.prog 109 #[.pointer (some ⟨b,0,none⟩)] w fun ex w'=>ex=.returned (.int .i64 s.size)∧w'=w:=by
 obtain⟨ao,cap,rfl⟩:∃ao cap,v=.slice ao s.size cap:=by
  rcases hown.2 with⟨hv,h0⟩|⟨g,cap,cur,fz,hv,_⟩
  ·exact⟨none,0,by rw[hv,h0]⟩
  ·exact⟨_,_,hv⟩
 have c1:w.cell? ⟨b,1,none⟩=some (.slice ao s.size cap):=by rw[Lib.cell_of_heap hbk];rfl
 have mixed:=Tryz.lays156.mixed
 have t72:=Tryz.underlying163;have u72:=run_underlying Tryz.underlying163
 go_enter Tryz.func109,Tryz.ntmps109
 go_wp2
 go_ret
 exact⟨rfl,rfl⟩
theorem TP:COK Tryz.prog 109 Ny:=by
 intro args n H K hk
 unfold Ny at hk
 split at hk
 ·split at hk
  ·rename_i k off
   rw[bg]at hk
   obtain⟨o,hob,hk⟩:=hk
   split at hk
   ·rename_i t e acc
    simp only[aM,Bool.and_eq_true]at hk
    obtain⟨⟨⟨h1,h2⟩,h3⟩,hk⟩:=hk
    have h1:=Nat.eq_of_beq_eq_true h1;have h2:=Nat.eq_of_beq_eq_true h2;have h3:=Nat.eq_of_beq_eq_true h3
    subst h1;subst h2;subst h3
    refine⟨_,_,_,[],hk,xu (enters' Tryz.func109 (by rfl) (by rfl)) hob fun S w ι vs b p v hr ho h0 hp hne hown=>?_⟩
    obtain⟨v1,rfl,r1⟩:=xw hr
    obtain rfl:=AY r1 ho
    refine(Y6 b p v acc w h0 hown).mono ?_
    rintro ex w' ⟨rfl,rfl⟩
    exact⟨_,v,rfl,⟨⟨p,h0,hp⟩,hne,hown,fun g hg=>.inl hg,rfl,rfl,rfl,Nat.le_refl _,fun _ _ _ _=>rfl,fun _ _=>rfl⟩,fun S' ι'=>.int _ _ _⟩
   ·exact hk.elim
  ·exact hk.elim
 ·exact hk.elim
def sNl:ByteArray:=⟨#[10]⟩
def lnB (w:ByteArray) (l:List Int):ByteArray:=joB ([w]++l.map itB) kBl++sNl
theorem mK {w:ByteArray} {l:List Int} (hw:w.size≤10) (h:∀x∈l,nH x):(lnB w l).size≤22*(l.length+1)+1:=by
 have:=Fg (xs:=[w]++l.map itB) (b:=21) fun x hx=>by
  rcases List.mem_append.1 hx with hx|hx
  ·simp at hx;subst hx;omega
  ·obtain⟨n,hn,rfl⟩:=List.mem_map.1 hx
   exact oP (h n hn)
 unfold lnB
 rw[ByteArray.size_append]
 have e:sNl.size=1:=rfl
 simp only[List.length_append,List.length_cons,List.length_nil,List.length_map]at this
 omega
noncomputable def adI:CPT:=aA 106 Nw (aA 107 (aB y9) (aA 108 (aB Fj) noC))
theorem Y7:aW Tryz.prog adI:=ak TM (ak (au Fh) (ak (au RY) aD))
structure AZ (acc w:ByteArray) (l:List Int):Prop where
 sa:acc.size≤1000000000
 sw:w.size≤10
 sl:1≤l.length∧l.length≤100000
 sn:∀x∈l,nH x
theorem TQ (acc w:ByteArray) (l:List Int) (h:AZ acc w l):jP Tryz.prog 105 [.str w,.isl (.ints .i64 l) .none,.rp 0 0] [.bld 163 5 acc] [] [.bld 163 5 (acc++lnB w l)]:=by
 obtain⟨h1,h2,h3,h4⟩:=h
 have hs:=mK h2 h4
 have hT:RX l:=⟨by omega,fun i hi=>h4 _ (bG hi)⟩
 have hW:RV ([w]++l.map itB) 1000000:=⟨by simp;omega,fun x hx=>by
  rcases List.mem_append.1 hx with hx|hx
  ·simp at hx;subst hx;omega
  ·obtain⟨n,hn,rfl⟩:=List.mem_map.1 hx
   have:=oP (h4 n hn);omega⟩
 have e1:(joB ([w]++l.map itB) kBl).size+1=(lnB w l).size:=by
  unfold lnB;rw[ByteArray.size_append];rfl
 unfold lnB sNl
 unfold lnB sNl at hs e1
 refine bM (md:=1) (rf:=[]) mixed aj Y7 1 [] Tryz.func105 (by rfl) (by rfl) (by rfl) ?_
 repeat'((conv=>whnf);first|intro _|apply aI|with_reducible exact vM rfl|exact⟨⟩|apply nM|apply fM)
 all_goals((try apply vM);(try simp only[vq]at*);try omega)
 all_goals first|exact hT|exact hW|(simp only[List.length_append,List.length_map,List.length_cons,List.length_nil];omega)|(rw[ByteArray.size_append]at*;omega)|skip
def TR:LSp:=fun xs objs K=>match xs,objs with
 | [.str w,.isl (.ints .i64 l) .none,.rp 0 0],[.bld 163 5 acc]=>VC (AZ acc w l)∧K [] [.bld 163 5 (acc++lnB w l)]
 |_,_=>False
theorem abI:LOK Tryz.prog 105 TR:=by
 intro xs objs K hk
 unfold TR at hk
 split at hk
 ·exact⟨_,_,hk.2,TQ _ _ _ hk.1.get⟩
 ·exact hk.elim
abbrev qL:ByteArray:=⟨#[99,101,108,108,115]⟩
abbrev NA:ByteArray:=⟨#[115,117,109]⟩
abbrev DV:ByteArray:=⟨#[108,105,110,101]⟩
abbrev vo:ByteArray:=⟨#[103,105,118,101,110]⟩
def prA (c:Int) (ls:List (List Int)) (sum:Int) (k:Nat):ByteArray:=(ls.take k).foldl (fun a l=>a++lnB DV l) (.empty++lnB qL [c]++lnB NA [sum])
def vv (c:Int) (ls:List (List Int)) (sum:Int) (gv:List Int):ByteArray:=prA c ls sum ls.length++lnB vo gv
def NC (c:Int) (ls:List (List Int)) (sum:Int) (gv:List Int):ByteArray × Int:=
 if pzE c ls sum gv≠0 then(sF,pzE c ls sum gv)else if 4096<(vv c ls sum gv).size then(sF,25)else(vv c ls sum gv,0)
theorem Gq (c:Int) (ls:List (List Int)) (sum:Int) (k:Nat) (h:k<ls.length):prA c ls sum (k+1)=prA c ls sum k++lnB DV (ls.getD k []):=by
 unfold prA
 rw[List.take_add_one,List.getElem?_eq_getElem h,List.foldl_append,List.getD_eq_getElem?_getD,List.getElem?_eq_getElem h];rfl
noncomputable def adJ:CPT:=aA 22 (aB lF) (aA 105 (eU [] TR) (aA 109 Ny (aA 110 Nz noC)))
theorem A8:aW Tryz.prog adJ:=ak (au kN) (ak (dK [] abI) (ak TP (ak TN aD)))
theorem TS {c:Int} {ls:List (List Int)} {sum:Int} {gv:List Int} (hp:dR c ls sum gv):∀k,k≤ls.length→(prA c ls sum k).size≤5000+1000*k:=by
 intro k
 induction k with
 |zero=>
  intro _
  have h1:=mK (w:=qL) (l:=[c]) (by decide) (fun x hx=>by simp at hx;subst hx;have:=hp.c1;exact⟨by omega,by omega⟩)
  have h2:=mK (w:=NA) (l:=[sum]) (by decide) (fun x hx=>by simp at hx;subst hx;have:=hp.sm;exact⟨by omega,by omega⟩)
  show(ByteArray.empty++lnB qL [c]++lnB NA [sum]).size≤_
  rw[ByteArray.size_append,ByteArray.size_append]
  simp at h1 h2⊢
  omega
 |succ k ih=>
  intro hk
  have hL:=hp.ln k (by omega)
  have h1:=mK (w:=DV) (l:=ls.getD k []) (by decide) (fun x hx=>by have:=hL.rng x hx;have:=hp.c1;exact⟨by omega,by omega⟩)
  rw[Gq _ _ _ _ (by omega),ByteArray.size_append]
  have:=ih (by omega)
  have:=hL.len
  omega
theorem ND (c:Int) (ls:List (List Int)) (sum:Int) (gv:List Int) (h:bK ls) (hg:gv.length≤5000):
 aF Tryz.prog 42 [pzV c ls sum gv] (.tup [.str (NC c ls sum gv).1,.int .i64 (NC c ls sum gv).2]):=by
 unfold NC
 by_cases he:pzE c ls sum gv=0
 case neg=>
  rw[if_pos he]
  refine av (md:=1) (rf:=[2163]) mixed aj A8 Tryz.func42 (by rfl) (by rfl) (by rfl) ?_
  repeat'((conv=>whnf);first|(intro hq;(try simp only[vw]at hq);try first|exact absurd hq (by decide)|exfalso;omega)|apply aI|with_reducible exact vM rfl|exact⟨⟩|apply nM|apply fM)
  all_goals((try apply vM);(try simp only[vq]at*);try omega)
  all_goals first|exact⟨h,hg⟩|exact Sup.of rfl|(exfalso;exact he (by assumption))|(exfalso;contradiction)|skip
 rw[if_neg (by rw[he];simp)]
 have hp:=dR.of he
 have hc:=hp.c1
 have hs:=hp.sm
 have hgl:=hp.gl
 have hll:=hp.ll
 have hA:=TS hp
 have k1:AZ .empty qL [c]:=⟨by decide,by decide,by simp,fun x hx=>by simp at hx;subst hx;exact⟨by omega,by omega⟩⟩
 have k2:AZ (.empty++lnB qL [c]) NA [sum]:=⟨by
  have h1:=mK (w:=qL) (l:=[c]) (by decide) (fun x hx=>by simp at hx;subst hx;exact⟨by omega,by omega⟩)
  rw[ByteArray.size_append];simp at h1⊢;omega,by decide,by simp,fun x hx=>by simp at hx;subst hx;exact⟨by omega,by omega⟩⟩
 have k3:∀k,k<ls.length→AZ (prA c ls sum k) DV (ls.getD k []):=fun k hk=>⟨by have:=hA k (by omega);omega,by decide,by have:=(hp.ln k hk).ne;have:=(hp.ln k hk).len;omega,fun x hx=>by have:=(hp.ln k hk).rng x hx;exact⟨by omega,by omega⟩⟩
 have k4:AZ (prA c ls sum ls.length) vo gv:=⟨by have:=hA ls.length (Nat.le_refl _);omega,by decide,by omega,fun x hx=>by have:=hp.gr x hx;exact⟨by omega,by omega⟩⟩
 have hT:0<(vv c ls sum gv).size∧(vv c ls sum gv).size≤1000000:=by
  have h1:=hA ls.length (Nat.le_refl _)
  have h2:=mK (w:=vo) (l:=gv) (by decide) k4.sn
  have h3:0<(lnB vo gv).size:=by unfold lnB;rw[ByteArray.size_append];exact Nat.lt_of_lt_of_le (by decide:0<sNl.size) (Nat.le_add_left _ _)
  unfold vv
  rw[ByteArray.size_append]
  omega
 have fin:∀r:ByteArray × Int,r=(if 4096<(vv c ls sum gv).size then(sF,(25:Int))else(vv c ls sum gv,0))→aF Tryz.prog 42 [pzV c ls sum gv] (.tup [.str r.1,.int .i64 r.2]):=by
  intro r hr
  refine av (md:=1) (rf:=[2163]) mixed aj A8 Tryz.func42 (by rfl) (by rfl) (by rfl) ?_
  repeat'((conv=>whnf);first|(intro hq;(try simp only[vw]at hq);try first|exact absurd hq (by decide)|exfalso;omega)|apply aI|with_reducible exact vM rfl|exact⟨⟩|apply nM|apply fM)
  all_goals((try apply vM);(try simp only[vq]at*);try omega)
  all_goals(try first|exact⟨h,hg⟩|exact k1|exact k2|(exfalso;contradiction))
  all_goals(try exact(rfl:LP.zero.cells= #[Value.pointer none,Value.slice none 0 0]))
  conv=>whnf
  refine aJ (X:=Nat) (fun k=>k≤ls.length) (fun k=>[(30,.int .i64 k)]) (fun k=>[(5,.bld 163 5 (prA c ls sum k))]) (fun k=>ls.length-k) 0 ⟨aG,mixed,aj,A8,aN⟩ (by rfl) (by omega) ?_ ?_
  ·repeat'((conv=>whnf);first|intro _|apply aI|with_reducible exact vM rfl|exact⟨⟩|apply nM|apply fM)
   all_goals((try apply vM);(try simp only[vq]at*);try omega)
  intro k hk
  by_cases hlt:k<ls.length
  ·have hs:=Gq c ls sum k hlt
   repeat'((conv=>whnf);first|(intro hq;(try simp only[vw]at hq);try first|exact absurd hq (by decide)|exfalso;omega)|apply aI|with_reducible exact vM rfl|exact⟨⟩|apply nM|apply fM)
   all_goals((try apply vM);(try simp only[vq]at*);try omega)
   all_goals(try first|exact k3 k hlt|omega)
   refine⟨k+1,[],⟨by omega,by omega⟩,?_⟩
   repeat'((conv=>whnf);first|intro _|apply aI|with_reducible exact vM rfl|exact⟨⟩|apply nM|apply fM)
   all_goals((try apply vM);(try simp only[vq]at*);try omega)
   all_goals(try(rw[hs]))
  have e:k=ls.length:=by omega
  subst e
  have e2:prA c ls sum ls.length++lnB vo gv=vv c ls sum gv:=rfl
  repeat'((conv=>whnf);first|(intro hq;(try simp only[vw]at hq);try first|exact absurd hq (by decide)|exfalso;omega)|apply aI|with_reducible exact vM rfl|exact⟨⟩|apply nM|apply fM)
  all_goals((try apply vM);(try simp only[vq]at*);try omega)
  all_goals(try first|exact k4|omega)
  all_goals(try rw[e2]at*)
  ·rw[hr,if_pos (by omega)];exact Sup.of rfl
  ·exact hT.1
  ·rw[hr,if_neg (by omega)];exact Sup.of rfl
 exact fin _ rfl
def L9:List (List Int):=[[0,1,2],[3,4,5],[6,7,8],[0,3,6],[1,4,7],[2,5,8],[0,4,8],[2,4,6]]
def G9:List Int:=[2,7,0,0,5,0,0,0,0]
def G9b:List Int:=[2,7,5,0,0,0,0,0,0]
def N9:List Int:=[2,7,6,9,5,1,4,3,8]
def O9:List Int:=[8,7,6,5,4,3,2,1,0]
theorem abJ:pzE 9 L9 15 G9=0:=by decide+kernel
theorem acp:(sol 9 L9 15 G9 1).1.length=6∧(sol 9 L9 15 G9 1).2.1.cs.getD 3 []=[9]∧(sol 9 L9 15 G9 1).2.1.cs.length=9∧(sol 9 L9 15 G9 1).2.2=0:=by decide+kernel
theorem abK:DU 9 L9 15 G9 5=([N9],0):=by decide+kernel
theorem acr:F9 9 L9 15 G9=[6,0,0,0,0]:=by decide+kernel
theorem NG:(kP 9 L9 15 G9).1=1∧(kP 9 L9 15 G9).2.2=0:=by decide+kernel
instance acL:DecidableEq Dd:=fun a b=>match a,b with
 |⟨g,y,x,k⟩,⟨g',y',x',k'⟩=>decidable_of_iff (g=g'∧y=y'∧x=x'∧k=k') ⟨fun h=>by obtain⟨rfl,rfl,rfl,rfl⟩:=h;rfl,fun h=>by cases h;exact⟨rfl,rfl,rfl,rfl⟩⟩
theorem abL:fT 9 L9 15 G9=(some ⟨1,2,6,0⟩,0):=by decide+kernel
abbrev TU:ByteArray:=⟨#[99,101,108,108,32,50,32,105,115,32,54,32,98,121,32,108,97,115,116,32,111,110,32,108,105,110,101,32,48]⟩
theorem acs:Nu 9 L9 15 G9 ⟨#[108,97,115,116]⟩ 2 6 0=(TU,0):=by decide+kernel
theorem acu:fu N9=[1,2,3,4,5,6,7,8,9]:=by
 unfold fu
 simp[N9,List.mergeSort,List.MergeSort.Internal.splitInTwo,List.splitAt,List.splitAt.go,List.merge]
theorem adK:iR N9=(true,0):=by
 have h:nK N9=true:=by unfold nK;rw[acu];decide
 unfold iR
 rw[if_neg (by decide),h]
theorem NH:AV 9 L9 N9 1=0∧TJ L9 N9=true∧sG 5 O9=0:=by decide+kernel
theorem V7:O9.foldl (mkS 9 L9 15 N9 1) N9=[2,7,0,9,0,0,0,0,0]∧fQ N9 (L9.getD 0 []) (L9.getD 0 []).length=15:=by decide+kernel
theorem acv:Gl 9 L9 N9 O9 1=((9,L9,15,[2,7,0,9,0,0,0,0,0]),0):=by
 unfold Gl
 rw[if_neg (by rw[NH.1];simp),if_neg (by rw[adK];simp),if_neg (by rw[NH.2.1];simp),if_neg (by rw[NH.2.2];decide),V7.2]
 rw[show(1:Int).toNat=1 from rfl,V7.1]
abbrev j5:ByteArray:=⟨#[99,101,108,108,115,32,57,10,115,117,109,32,49,53,10,108,105,110,101,32,48,32,49,32,50,10,108,105,110,101,32,51,32,52,32,53,10,108,105,110,101,32,54,32,55,32,56,10,108,105,110,101,32,48,32,51,32,54,10,108,105,110,101,32,49,32,52,32,55,10,108,105,110,101,32,50,32,53,32,56,10,108,105,110,101,32,48,32,52,32,56,10,108,105,110,101,32,50,32,52,32,54,10,103,105,118,101,110,32,50,32,55,32,48,32,48,32,53,32,48,32,48,32,48,32,48,10]⟩
theorem acw:NC 9 L9 15 G9=(j5,0):=by decide+kernel
def NI (z:ByteArray):Bool:=decide (0<z.size)&&decide (z.size≤9)&&(decide (z.size=1)||!decide (((z.data.getD 0 0).toNat:Int)=48))&&(dz z).all dgI
theorem xU (z:ByteArray):Am z↔NI z=true:=by
 unfold Am NI
 simp only[Bool.and_eq_true,Bool.or_eq_true,decide_eq_true_eq,Bool.not_eq_true',decide_eq_false_iff_not]
 constructor
 ·rintro⟨⟨h1,h2,h3⟩,h4⟩;exact⟨⟨⟨h1,h2⟩,h3⟩,h4⟩
 ·rintro⟨⟨⟨h1,h2⟩,h3⟩,h4⟩;exact⟨⟨h1,h2,h3⟩,h4⟩
def NJ (s:ByteArray) (sg:Bool):Bool:=preB s kMi&&(!sg||decide (jY s kMi=kZe))
theorem Gs (s:ByteArray) (sg:Bool):MZ s sg↔NJ s sg=true:=by
 unfold MZ NJ
 simp
def A9 (s:ByteArray) (sg:Bool):Option Int:=if(NI (jY s kMi)&&!NJ s sg)=true then Go.Lib.atoi s.data.toList else none
theorem Bc (s:ByteArray) (sg:Bool):fA s sg=A9 s sg:=by
 unfold fA A9
 by_cases h:NI (jY s kMi)=true<;>by_cases h2:NJ s sg=true
 ·rw[if_neg (fun e=>e.2 ((Gs _ _).2 h2)),if_neg (by simp[h,h2])]
 ·rw[if_pos ⟨(xU _).2 h,fun e=>h2 ((Gs _ _).1 e)⟩,if_pos (by simp[h,h2])]
 ·rw[if_neg (fun e=>h ((xU _).1 e.1)),if_neg (by simp[h,h2])]
 ·rw[if_neg (fun e=>h ((xU _).1 e.1)),if_neg (by simp[h,h2])]
def Gt (s w:ByteArray):Option (List Int):=
 if(decide ((dA 32 s).getD 0 .empty=w)&&((dA 32 s).drop 1).all fun x=>(A9 x (decide (w=iP))).isSome)=true then some (((dA 32 s).drop 1).map fun x=>(A9 x (decide (w=iP))).getD 0)else none
theorem J7 (sg:Bool) (ws:List ByteArray):okW sg ws↔(ws.all fun x=>(A9 x sg).isSome)=true:=by
 unfold okW
 rw[List.all_eq_true]
 constructor
 ·intro h x hx
  obtain⟨j,hj,rfl⟩:=List.mem_iff_getElem.1 hx
  have:=h j hj
  rw[List.getD_eq_getElem?_getD,List.getElem?_eq_getElem hj,Bc]at this
  exact this
 ·intro h j hj
  rw[Bc]
  exact h _ (uU hj)
theorem Y8 (s w:ByteArray):bX s w=Gt s w:=by
 unfold bX Gt numsL
 simp only[Bc]
 by_cases h:(dA 32 s).getD 0 .empty=w<;>by_cases h2:(((dA 32 s).drop 1).all fun x=>(A9 x (decide (w=iP))).isSome)=true
 ·rw[if_pos ⟨h,(J7 _ _).2 h2⟩,if_pos (by rw[h2];simp only[h];simp)]
 ·rw[if_neg (fun e=>h2 ((J7 _ _).1 e.2)),if_neg (fun e=>h2 (by rw[Bool.and_eq_true]at e;exact e.2))]
 ·rw[if_neg (fun e=>h e.1),if_neg (fun e=>h (by rw[Bool.and_eq_true,decide_eq_true_eq]at e;exact e.1))]
 ·rw[if_neg (fun e=>h e.1),if_neg (fun e=>h (by rw[Bool.and_eq_true,decide_eq_true_eq]at e;exact e.1))]
def Gu (r:Rd) (s:ByteArray):Bool × Rd:=
 if r.line+1≤2 then
  match Gt s (if r.line=0 then FR else iP)with
  |none=>(false,{r with line:=r.line+1})
  |some l=>if l.length≠1 then(false,{r with line:=r.line+1})else if r.line=0 then(true,{r with line:=r.line+1,c:=l.getD 0 0})else(true,{r with line:=r.line+1,sum:=l.getD 0 0})
 else if r.done=true then(false,{r with line:=r.line+1})
 else match Gt s DR with
  |some l=>(true,{r with line:=r.line+1,L:=r.L++[l]})
  |none=>match Gt s uV with
   |some l=>(true,{r with line:=r.line+1,gv:=l,done:=true})
   |none=>(false,{r with line:=r.line+1,gv:=[],done:=false})
theorem Y9 (r:Rd) (s:ByteArray):nxt r s=Gu r s:=by
 unfold nxt Gu
 simp only[Y8]
 rfl
def rdC:Rd→List ByteArray→Rd × Bool
 |r,[]=>(r,true)
 |r,x::t=>if(Gu r x).1=true then rdC (Gu r x).2 t else((Gu r x).2,false)
theorem abM:∀(l:List ByteArray) (r:Rd),rdG r l=rdC r l:=by
 intro l
 induction l with
 |nil=>intro r;rfl
 |cons x t ih=>
  intro r
  unfold rdG rdC
  rw[Y9,ih]
theorem adL:((rdC rd0 (dA 10 (jf j5 kNl))).1.c,(rdC rd0 (dA 10 (jf j5 kNl))).1.L,(rdC rd0 (dA 10 (jf j5 kNl))).1.sum,(rdC rd0 (dA 10 (jf j5 kNl))).1.gv,(rdC rd0 (dA 10 (jf j5 kNl))).1.done,(rdC rd0 (dA 10 (jf j5 kNl))).2)=(9,L9,15,G9,true,true):=by decide+kernel
theorem acy:vg j5=0:=by decide+kernel
theorem abN:Nt j5=((9,L9,15,G9),0,0):=by
 have h:=adL
 have hG:gZ j5=rdC rd0 (dA 10 (jf j5 kNl)):=abM _ _
 rw[←hG]at h
 simp only[Prod.mk.injEq]at h
 obtain⟨h1,h2,h3,h4,h5,h6⟩:=h
 unfold Nt
 rw[if_neg (by rw[acy];simp),if_neg (by rw[h6];simp),if_neg (by rw[h5];simp),h1,h2,h3,h4,if_neg (by rw[abJ];simp)]
theorem abO (l:List Dd):Sup (.isl (dlC l) .none) (.isl (.recs 4 (l.map ddC)) .none):=⟨fun{S w ι v} hr=>by
 have hn:(CL.recs 4 (l.map ddC)).ncell=(dlC l).ncell:=by simp[CL.ncell]
 have hc:(CL.recs 4 (l.map ddC)).cnt=(dlC l).cnt:=by simp[CL.cnt]
 have hg:∀j,j<(dlC l).ncell→(CL.recs 4 (l.map ddC)).get j=(dlC l).get j:=fun j hj=>by
  simp only[CL.ncell]at hj
  have:j / 4<l.length:=by omega
  simp only[CL.get]
  rw[List.getD_eq_getElem?_getD,List.getElem?_map,List.getD_eq_getElem?_getD,List.getElem?_eq_getElem this]
  rfl
 cases hr with
 |islnil _ _ _ h=>exact .islnil _ _ _ (by rw[hc];exact h)
 |isl _ _ _ b off cap h1 h2 h3 h4 h5=>
  rw[←hc]
  exact .isl _ _ _ _ _ _ (by rw[hc];exact h1) (fun j hj=>h2 j (by rw[←hn];exact hj)) (fun j hj=>by rw[hg j (by rw[←hn];exact hj)];exact h3 j (by rw[←hn];exact hj)) (fun h=>by cases h) (fun k h=>by cases h)⟩
theorem IL:aF Tryz.prog 84 [] (.agg [.int .i64 9,.isl (.rows .i64 L9) .none]):=by
 refine cu (md:=1) (rf:=[]) mixed aj aD Tryz.func84 (by rfl) (by rfl) (by rfl) ?_
 repeat'((conv=>whnf);first|(intro hq;(try simp only[vw]at hq);try first|exact absurd hq (by decide)|exfalso;omega)|apply aI|with_reducible exact vM rfl|exact⟨⟩|apply nM|apply fM)
 all_goals((try apply vM);(try simp only[vq]at*);try omega)
 unfold L9
 all_goals(refine Sup.via ?_;repeat'((conv=>whnf);first|intro _|apply aI|with_reducible exact vM rfl|exact⟨⟩|apply nM|apply fM);all_goals((try apply vM);(try simp only[vq]at*);try omega);all_goals(try(simp[CL.sub];done)))
theorem TV:aF Tryz.prog 85 [] (.isl (.ints .i64 N9) .none):=by
 refine av (md:=1) (rf:=[]) mixed aj aD Tryz.func85 (by rfl) (by rfl) (by rfl) ?_
 repeat'((conv=>whnf);first|(intro hq;(try simp only[vw]at hq);try first|exact absurd hq (by decide)|exfalso;omega)|apply aI|with_reducible exact vM rfl|exact⟨⟩|apply nM|apply fM)
 all_goals((try apply vM);(try simp only[vq]at*);try omega)
 unfold N9
 all_goals(refine Sup.via ?_;repeat'((conv=>whnf);first|intro _|apply aI|with_reducible exact vM rfl|exact⟨⟩|apply nM|apply fM);all_goals((try apply vM);(try simp only[vq]at*);try omega);all_goals(try(simp[CL.sub];done)))
def Bd:PSp:=fun xs K=>match xs with
 | []=>VC (True)∧K (.agg [.int .i64 9,.isl (.rows .i64 L9) .none])
 |_=>False
theorem QE:POK Tryz.prog 84 Bd:=by
 intro xs K h
 unfold Bd at h
 split at h
 ·exact⟨_,h.2,IL⟩
 ·exact h.elim
def TW:PSp:=fun xs K=>match xs with
 | []=>VC (True)∧K (.isl (.ints .i64 N9) .none)
 |_=>False
theorem abP:POK Tryz.prog 85 TW:=by
 intro xs K h
 unfold TW at h
 split at h
 ·exact⟨_,h.2,TV⟩
 ·exact h.elim
theorem mR:bK L9:=⟨by decide,by decide⟩
def C9:List (List Int):=[[2],[7],[1,3,4,6,8,9],[1,3,4,6,8,9],[5],[1,3,4,6,8,9],[1,3,4,6,8,9],[1,3,4,6,8,9],[1,3,4,6,8,9]]
def D9:List Bool:=[true,true,false,false,true,false,false,false,false]
def T9:List (List PV):=[(6,2,0),(3,7,4),(8,8,6),(4,6,2),(9,3,3),(1,5,1)].map fun d:Int × Int × Int=>[.str bJ,.int .i64 d.2.1,.int .i64 d.1,.int .i64 d.2.2]
theorem acz:mE 9 L9 15 G9=⟨C9,D9⟩:=by
 have h1:(mE 9 L9 15 G9).cs=C9:=by decide+kernel
 have h2:(mE 9 L9 15 G9).ds=D9:=by decide+kernel
 rw[←h1,←h2]
theorem adM:aF Tryz.prog 20 [pzV 9 L9 15 G9] (.tup [.agg [.isl (.rows .i64 C9) .none,.isl (.bools D9) .none],.int .i64 0]):=by
 have h:=zA 9 L9 15 G9 mR (by decide)
 rw[acz,abJ]at h
 exact h
theorem acA:aF Tryz.prog 21 [pzV 9 L9 15 G9] (.tup [ddV bJ 2 6 0,.int .i64 0]):=by
 have h:=Ci 9 L9 15 G9 mR (by decide)
 rw[abL]at h
 exact h
theorem acB:aF Tryz.prog 63 [pzV 9 L9 15 G9,ddV bJ 2 6 0] (.tup [.str TU,.int .i64 0]):=by
 have h:=Gn 9 L9 15 G9 mR (by decide) bJ 2 6 0
 rw[acs]at h
 exact h
theorem acC:(sol 9 L9 15 G9 1).1.map ddC=T9:=by
 have h:(sol 9 L9 15 G9 1).1=[⟨1,2,6,0⟩,⟨1,7,3,4⟩,⟨1,8,8,6⟩,⟨1,6,4,2⟩,⟨1,3,9,3⟩,⟨1,5,1,1⟩]:=by decide+kernel
 rw[h];rfl
def S9:List (List Int):=[[2],[7],[6],[9],[5],[1],[4],[3],[8]]
theorem abQ:aF Tryz.prog 30 [pzV 9 L9 15 G9,.int .i64 1] (.tup [.isl (.recs 4 T9) .none,.agg [.isl (.rows .i64 S9) .none,.isl (.bools (List.replicate 9 true)) .none],.int .i64 0]):=by
 have h:=zB 9 L9 15 G9 1 mR (by decide)
 have h1:sI 9 L9 15 G9 1=sol 9 L9 15 G9 1:=by
  have e:aL [pzE 9 L9 15 G9,ji 1]=0∧(sol 9 L9 15 G9 (1:Int).toNat).2.2≠21:=by decide+kernel
  unfold sI
  rw[if_neg (by rw[e.1];simp),if_neg e.2]
  rfl
 rw[h1]at h
 have h2:(sol 9 L9 15 G9 1).2.2=0:=acp.2.2.2
 have h3:(sol 9 L9 15 G9 1).2.1.cs=S9:=by decide+kernel
 have h4:(sol 9 L9 15 G9 1).2.1.ds=List.replicate 9 true:=by decide+kernel
 rw[←acC]
 refine BO h (Az rfl fun i hi=>?_)
 match i,hi with
 |0,_=>exact abO _
 |1,_=>
  show Sup (stV _) _
  rw[show stV (sol 9 L9 15 G9 1).2.1=.agg [.isl (.rows .i64 (sol 9 L9 15 G9 1).2.1.cs) .none,.isl (.bools (sol 9 L9 15 G9 1).2.1.ds) .none]from rfl,h3]
  rw[h4];exact mD _
 |2,_=>show Sup (.int .i64 _) _;rw[h2];exact mD _
theorem abR:aF Tryz.prog 31 [pzV 9 L9 15 G9] (.tup [.int .i64 1,.int .i64 0]):=by
 have h:=Nj 9 L9 15 G9 mR (by decide)
 rw[NG.1,NG.2]at h
 exact h
theorem abS:aF Tryz.prog 32 [pzV 9 L9 15 G9] (.tup [.isl (.ints .i64 [6,0,0,0,0]) .none,.int .i64 0]):=by
 have h:=Nk 9 L9 15 G9 mR (by decide)
 rw[acr,NG.2]at h
 exact h
theorem acD:aF Tryz.prog 53 [.agg [.int .i64 9,.isl (.rows .i64 L9) .none],.isl (.ints .i64 N9) .none,.isl (.ints .i64 O9) .none,.int .i64 1] (.tup [pzV 9 L9 15 [2,7,0,9,0,0,0,0,0],.int .i64 0]):=by
 have h:=QA 9 L9 N9 O9 1 mR (by decide) (by decide)
 rw[acv]at h
 exact h
theorem acE:aF Tryz.prog 39 [pzV 9 L9 15 G9,.int .i64 5] (.tup [.isl (.rows .i64 [N9]) .none,.int .i64 0]):=by
 have h:=AJ 9 L9 15 G9 5 mR (by decide)
 rw[abK]at h
 exact h
theorem abT:aF Tryz.prog 42 [pzV 9 L9 15 G9] (.tup [.str j5,.int .i64 0]):=by
 have h:=ND 9 L9 15 G9 mR (by decide)
 rw[acw]at h
 exact h
theorem acF:aF Tryz.prog 44 [.str j5] (.tup [pzV 9 L9 15 G9,.int .i64 0,.int .i64 0]):=by
 have h:=QB j5 (by decide+kernel)
 rw[abN]at h
 exact h
theorem abU:aF Tryz.prog 30 [pzV 9 L9 15 G9b,.int .i64 5] (.tup [.any,.agg [.isl (.rows .i64 []) .none,.isl (.bools []) .none],.int .i64 21]):=by
 have h:=zB 9 L9 15 G9b 5 mR (by decide)
 have h1:sI 9 L9 15 G9b 5=([],noS,21):=by
  have e:aL [pzE 9 L9 15 G9b,ji 5]=0∧(sol 9 L9 15 G9b (5:Int).toNat).2.2=21:=by decide+kernel
  unfold sI
  rw[if_neg (by rw[e.1];simp),if_pos e.2]
 rw[h1]at h
 refine BO h (Az rfl fun i hi=>?_)
 match i,hi with
 |0,_=>exact⟨fun _=>.any _ _⟩
 |1,_=>exact mD _
 |2,_=>exact mD _
def NK:PSp:=fun xs K=>match xs with
 | [.agg [.int .i64 c,.isl (.rows .i64 ls) .none,.int .i64 s,.isl (.ints .i64 gv) .none]]=>VC (c=9∧ls=L9∧s=15∧gv=G9)∧K (.tup [.agg [.isl (.rows .i64 C9) .none,.isl (.bools D9) .none],.int .i64 0])
 |_=>False
theorem Za:POK Tryz.prog 20 NK:=by
 intro xs K h
 unfold NK at h
 split at h
 ·exact⟨_,h.2,(by obtain⟨rfl,rfl,rfl,rfl⟩:=h.1.get;exact adM)⟩
 ·exact h.elim
def Gv:PSp:=fun xs K=>match xs with
 | [.agg [.int .i64 c,.isl (.rows .i64 ls) .none,.int .i64 s,.isl (.ints .i64 gv) .none]]=>VC (c=9∧ls=L9∧s=15∧gv=G9)∧K (.tup [ddV bJ 2 6 0,.int .i64 0])
 |_=>False
theorem TY:POK Tryz.prog 21 Gv:=by
 intro xs K h
 unfold Gv at h
 split at h
 ·exact⟨_,h.2,(by obtain⟨rfl,rfl,rfl,rfl⟩:=h.1.get;exact acA)⟩
 ·exact h.elim
def Gw:PSp:=fun xs K=>match xs with
 | [.agg [.int .i64 c,.isl (.rows .i64 ls) .none,.int .i64 s,.isl (.ints .i64 gv) .none],.agg [.str r,.int .i64 y,.int .i64 x,.int .i64 k]]=>VC ((c=9∧ls=L9∧s=15∧gv=G9)∧r=bJ∧y=2∧x=6∧k=0)∧K (.tup [.str TU,.int .i64 0])
 |_=>False
theorem Ua:POK Tryz.prog 63 Gw:=by
 intro xs K h
 unfold Gw at h
 split at h
 ·exact⟨_,h.2,(by obtain⟨⟨rfl,rfl,rfl,rfl⟩,rfl,rfl,rfl,rfl⟩:=h.1.get;exact acB)⟩
 ·exact h.elim
def Bf:PSp:=fun xs K=>match xs with
 | [.agg [.int .i64 c,.isl (.rows .i64 ls) .none,.int .i64 s,.isl (.ints .i64 gv) .none],.int .i64 g]=>match decide (g=1)with
  |true=>VC (g=1∧c=9∧ls=L9∧s=15∧gv=G9)∧K (.tup [.isl (.recs 4 T9) .none,.agg [.isl (.rows .i64 S9) .none,.isl (.bools (List.replicate 9 true)) .none],.int .i64 0])
  |false=>VC (g=5∧c=9∧ls=L9∧s=15∧gv=G9b)∧K (.tup [.any,.agg [.isl (.rows .i64 []) .none,.isl (.bools []) .none],.int .i64 21])
 |_=>False
theorem QF:POK Tryz.prog 30 Bf:=by
 intro xs K hk
 unfold Bf at hk
 split at hk
 ·split at hk
  ·obtain⟨⟨rfl,rfl,rfl,rfl,rfl⟩,hk⟩:=hk;exact⟨_,hk,abQ⟩
  ·obtain⟨⟨rfl,rfl,rfl,rfl,rfl⟩,hk⟩:=hk;exact⟨_,hk,abU⟩
 ·exact hk.elim
def Bg:PSp:=fun xs K=>match xs with
 | [.agg [.int .i64 c,.isl (.rows .i64 ls) .none,.int .i64 s,.isl (.ints .i64 gv) .none]]=>VC (c=9∧ls=L9∧s=15∧gv=G9)∧K (.tup [.int .i64 1,.int .i64 0])
 |_=>False
theorem QG:POK Tryz.prog 31 Bg:=by
 intro xs K h
 unfold Bg at h
 split at h
 ·exact⟨_,h.2,(by obtain⟨rfl,rfl,rfl,rfl⟩:=h.1.get;exact abR)⟩
 ·exact h.elim
def Bh:PSp:=fun xs K=>match xs with
 | [.agg [.int .i64 c,.isl (.rows .i64 ls) .none,.int .i64 s,.isl (.ints .i64 gv) .none]]=>VC (c=9∧ls=L9∧s=15∧gv=G9)∧K (.tup [.isl (.ints .i64 [6,0,0,0,0]) .none,.int .i64 0])
 |_=>False
theorem QI:POK Tryz.prog 32 Bh:=by
 intro xs K h
 unfold Bh at h
 split at h
 ·exact⟨_,h.2,(by obtain⟨rfl,rfl,rfl,rfl⟩:=h.1.get;exact abS)⟩
 ·exact h.elim
def Gx:PSp:=fun xs K=>match xs with
 | [.agg [.int .i64 c,.isl (.rows .i64 ls) .none],.isl (.ints .i64 nv) .none,.isl (.ints .i64 ov) .none,.int .i64 g]=>VC (c=9∧ls=L9∧nv=N9∧ov=O9∧g=1)∧K (.tup [pzV 9 L9 15 [2,7,0,9,0,0,0,0,0],.int .i64 0])
 |_=>False
theorem Ub:POK Tryz.prog 53 Gx:=by
 intro xs K h
 unfold Gx at h
 split at h
 ·exact⟨_,h.2,(by obtain⟨rfl,rfl,rfl,rfl,rfl⟩:=h.1.get;exact acD)⟩
 ·exact h.elim
def Gy:PSp:=fun xs K=>match xs with
 | [.agg [.int .i64 c,.isl (.rows .i64 ls) .none,.int .i64 s,.isl (.ints .i64 gv) .none],.int .i64 lim]=>VC ((c=9∧ls=L9∧s=15∧gv=G9)∧lim=5)∧K (.tup [.isl (.rows .i64 [N9]) .none,.int .i64 0])
 |_=>False
theorem Uc:POK Tryz.prog 39 Gy:=by
 intro xs K h
 unfold Gy at h
 split at h
 ·exact⟨_,h.2,(by obtain⟨⟨rfl,rfl,rfl,rfl⟩,rfl⟩:=h.1.get;exact acE)⟩
 ·exact h.elim
def Bj:PSp:=fun xs K=>match xs with
 | [.agg [.int .i64 c,.isl (.rows .i64 ls) .none,.int .i64 s,.isl (.ints .i64 gv) .none]]=>VC (c=9∧ls=L9∧s=15∧gv=G9)∧K (.tup [.str j5,.int .i64 0])
 |_=>False
theorem QJ:POK Tryz.prog 42 Bj:=by
 intro xs K h
 unfold Bj at h
 split at h
 ·exact⟨_,h.2,(by obtain⟨rfl,rfl,rfl,rfl⟩:=h.1.get;exact abT)⟩
 ·exact h.elim
def Gz:PSp:=fun xs K=>match xs with
 | [.str s]=>VC (s=j5)∧K (.tup [pzV 9 L9 15 G9,.int .i64 0,.int .i64 0])
 |_=>False
theorem Ud:POK Tryz.prog 44 Gz:=by
 intro xs K h
 unfold Gz at h
 split at h
 ·exact⟨_,h.2,(by obtain rfl:=h.1.get;exact acF)⟩
 ·exact h.elim
noncomputable def acG:CPT:=aA 20 (ku NK) (aA 21 (ku Gv) (aA 30 (ku Bf) (aA 31 (ku Bg) (aA 32 (ku Bh) (aA 36 (aB nu) (aA 39 (ku Gy) (aA 42 (ku Bj) (aA 44 (aB Gz) (aA 53 (aB Gx) (aA 63 (ku Gw) (aA 84 (aB Bd) (aA 85 (aB TW) noC))))))))))))
theorem Ue:aW Tryz.prog acG:=ak (iC Za) (ak (iC TY) (ak (iC QF) (ak (iC QG) (ak (iC QI) (ak (au qw) (ak (iC Uc) (ak (iC QJ) (ak (au Ud) (ak (au Ub) (ak (iC Ua) (ak (au QE) (ak (au abP) aD))))))))))))
theorem NM:aF Tryz.prog 17 [] (.bp true):=by
 refine cu (md:=1) (rf:=[28]) mixed aj Ue Tryz.func17 (by rfl) (by rfl) (by rfl) ?_
 repeat'((conv=>whnf);first|(intro hq;(try simp only[vw]at hq);try first|exact absurd hq (by decide)|exfalso;omega)|apply aI|with_reducible exact vM rfl|exact⟨⟩|apply nM|apply fM)
 all_goals((try apply vM);(try simp only[vq]at*);try omega)
 all_goals(try rfl)
 all_goals(try decide+kernel)
 all_goals(try(exfalso;exact absurd hq (by decide+kernel)))
 have hb:∀b,b=true→Sup (bF ([PV.bp b]++[])) (PV.bp true):=fun b e=>by subst e;exact Sup.of rfl
 exact hb _ (by decide+kernel)
def GA:PSp:=fun xs K=>match xs with
 | []=>VC (True)∧K (.bp true)
 |_=>False
theorem Uf:POK Tryz.prog 17 GA:=by
 intro xs K h
 unfold GA at h
 split at h
 ·exact⟨_,h.2,NM⟩
 ·exact h.elim
end Go.Eng.YtcechbdgokjmgaaGreatDoor
namespace Go.Eng.YtcechbdgokjmgaaGreatDoor
open Go.Proofs
set_option linter.unusedSimpArgs false
set_option linter.unusedVariables false
set_option maxHeartbeats 0
set_option maxRecDepth 100000
theorem NP (c:Int) (ls:List (List Int)) (sum:Int) (gv:List Int) (s:St) (h:bI c ls sum s) (k b:Int) (hk:0≤k∧k<ls.length):
 aF Tryz.prog 96 [pzV c ls sum gv,stV s,.int .i64 k,.int .i64 b] (.isl (.ints .i64 (opn s (ls.getD k.toNat []) b)) .none):=by
 have hln:=h.ln k.toNat (by omega)
 have hll:=hln.len
 have hcl:=h.cl
 have hdl:=h.dl
 refine av (md:=1) (rf:=[]) mixed aj aD Tryz.func96 (by rfl) (by rfl) (by rfl) ?_
 repeat'((conv=>whnf);first|intro _|apply aI|with_reducible exact vM rfl|exact⟨⟩|apply nM|apply fM)
 all_goals((try apply vM);(try simp only[vq]at*);try omega)
 conv=>whnf
 refine aJ (X:=Nat) (fun i=>i≤(ls.getD k.toNat []).length) (fun i=>[(11,.int .i64 i),(9,.isl (.ints .i64 (opn s ((ls.getD k.toNat []).take i) b)) (.own 5))]) (fun i=>[(5,.tok 1 (opn s ((ls.getD k.toNat []).take i) b).length)]) (fun i=>(ls.getD k.toNat []).length-i) 0 ⟨aG,mixed,aj,aD,aN⟩ (by rfl) (by omega) ?_ ?_
 ·repeat'((conv=>whnf);first|intro _|apply aI|with_reducible exact vM rfl|exact⟨⟩|apply nM|apply fM)
  all_goals((try apply vM);(try simp only[vq]at*);try omega)
  all_goals rfl
 intro i hi
 by_cases hlt:i<(ls.getD k.toNat []).length
 ·have hx:=hln.rng ((ls.getD k.toNat []).getD i 0) (bG hlt)
  have hxs:=h.at hx
  have ho:(opn s ((ls.getD k.toNat []).take i) b).length≤16:=Nat.le_trans (List.length_filter_le _ _) (by rw[List.length_take];omega)
  have e1:=Jq s ((ls.getD k.toNat []).take i) ((ls.getD k.toNat []).getD i 0) b
  rw[←cK hlt]at e1
  repeat'((conv=>whnf);first|(intro hq;(try simp only[vw]at hq);try first|exact absurd hq (by decide)|exfalso;omega)|apply aI|with_reducible exact vM rfl|exact⟨⟩|apply nM|apply fM)
  all_goals((try apply vM);(try simp only[vq]at*);try omega)
  all_goals(try(first|omega|(rw[List.length_append,List.length_cons,List.length_nil];omega)))
  ·rename_i hd
   have hd:s.dc ((ls.getD k.toNat []).getD i 0).toNat=false:=hd
   rw[hd,if_pos (by simpa using hq)]at e1
   refine⟨i+1,[],⟨by omega,by omega⟩,?_⟩
   rw[e1,List.length_append]
   repeat'((conv=>whnf);first|intro _|apply aI|with_reducible exact vM rfl|exact⟨⟩|apply nM|apply fM)
   all_goals((try apply vM);(try simp only[vq]at*);try omega)
  ·rename_i hd
   have hd:s.dc ((ls.getD k.toNat []).getD i 0).toNat=false:=hd
   rw[hd,if_neg (by simpa using hq),List.append_nil]at e1
   refine⟨i+1,[],⟨by omega,by omega⟩,?_⟩
   rw[e1]
   repeat'((conv=>whnf);first|intro _|apply aI|with_reducible exact vM rfl|exact⟨⟩|apply nM|apply fM)
   all_goals((try apply vM);(try simp only[vq]at*);try omega)
  ·have hd:s.dc ((ls.getD k.toNat []).getD i 0).toNat=true:=hq
   rw[hd,if_neg (by simp),List.append_nil]at e1
   refine⟨i+1,[],⟨by omega,by omega⟩,?_⟩
   rw[e1]
   repeat'((conv=>whnf);first|intro _|apply aI|with_reducible exact vM rfl|exact⟨⟩|apply nM|apply fM)
   all_goals((try apply vM);(try simp only[vq]at*);try omega)
 ·have:i=(ls.getD k.toNat []).length:=by omega
  subst this
  rw[List.take_length]
  repeat'((conv=>whnf);first|intro _|apply aI|with_reducible exact vM rfl|exact⟨⟩|apply nM|apply fM)
  all_goals((try apply vM);(try simp only[vq]at*);try omega)
  exact Sup.of rfl
theorem NQ (c:Int) (ls:List (List Int)) (sum:Int) (gv:List Int) (s:St) (h:bI c ls sum s) (k:Int) (hk:0≤k∧k<ls.length):
 aF Tryz.prog 97 [pzV c ls sum gv,stV s,.int .i64 k] (.int .i64 (rst s sum (ls.getD k.toNat []))):=by
 have hln:=h.ln k.toNat (by omega)
 have hsm:=h.sm
 have hll:=hln.len
 have hcl:=h.cl
 have hdl:=h.dl
 have hb:=oQ h hln.rng
 refine av (md:=1) (rf:=[]) mixed aj aD Tryz.func97 (by rfl) (by rfl) (by rfl) ?_
 repeat'((conv=>whnf);first|intro _|apply aI|with_reducible exact vM rfl|exact⟨⟩|apply nM|apply fM)
 all_goals((try apply vM);(try simp only[vq]at*);try omega)
 conv=>whnf
 refine aJ (X:=Nat) (fun i=>i≤(ls.getD k.toNat []).length) (fun i=>[(9,.int .i64 i),(7,.int .i64 (rst s sum ((ls.getD k.toNat []).take i)))]) (fun i=>[]) (fun i=>(ls.getD k.toNat []).length-i) 0 ⟨aG,mixed,aj,aD,aN⟩ (by rfl) (by omega) ?_ ?_
 ·repeat'((conv=>whnf);first|intro _|apply aI|with_reducible exact vM rfl|exact⟨⟩|apply nM|apply fM)
  all_goals((try apply vM);(try simp only[vq]at*);try omega)
  all_goals rfl
 intro i hi
 by_cases hlt:i<(ls.getD k.toNat []).length
 ·have hx:=hln.rng ((ls.getD k.toNat []).getD i 0) (bG hlt)
  have hxs:=h.at hx
  have hbi:=hb i (by omega)
  have e2:=Aa s sum ((ls.getD k.toNat []).take i) ((ls.getD k.toNat []).getD i 0)
  rw[←cK hlt]at e2
  have h8:s.dc ((ls.getD k.toNat []).getD i 0).toNat=true→(s.cs.getD ((ls.getD k.toNat []).getD i 0).toNat []).length=1:=h.dec _ hxs.1
  have h9:s.dc ((ls.getD k.toNat []).getD i 0).toNat=true→1≤(s.cs.getD ((ls.getD k.toNat []).getD i 0).toNat []).getD 0 0∧(s.cs.getD ((ls.getD k.toNat []).getD i 0).toNat []).getD 0 0≤16:=fun hd=>by have:=h.num hx hd;exact⟨this.1,this.2.1⟩
  repeat'((conv=>whnf);first|(intro hq;(try simp only[vw]at hq);try first|exact absurd hq (by decide)|exfalso;omega)|apply aI|with_reducible exact vM rfl|exact⟨⟩|apply nM|apply fM)
  all_goals((try apply vM);(try simp only[vq]at*);try omega)
  all_goals(try simp only[Int.toNat_zero])
  all_goals(try(have k8:=h8 (by assumption);have k9:=h9 (by assumption);omega))
  ·have hd:s.dc ((ls.getD k.toNat []).getD i 0).toNat=true:=hq
   rw[hd,if_pos rfl]at e2
   refine⟨i+1,[],⟨by omega,by omega⟩,?_⟩
   rw[e2]
   repeat'((conv=>whnf);first|intro _|apply aI|with_reducible exact vM rfl|exact⟨⟩|apply nM|apply fM)
   all_goals((try apply vM);(try simp only[vq]at*);try omega)
  ·have hd:s.dc ((ls.getD k.toNat []).getD i 0).toNat=false:=hq
   rw[hd,if_neg (by simp)]at e2
   refine⟨i+1,[],⟨by omega,by omega⟩,?_⟩
   rw[e2]
   repeat'((conv=>whnf);first|intro _|apply aI|with_reducible exact vM rfl|exact⟨⟩|apply nM|apply fM)
   all_goals((try apply vM);(try simp only[vq]at*);try omega)
 ·have:i=(ls.getD k.toNat []).length:=by omega
  subst this
  rw[List.take_length]
  repeat'((conv=>whnf);first|intro _|apply aI|with_reducible exact vM rfl|exact⟨⟩|apply nM|apply fM)
  all_goals((try apply vM);(try simp only[vq]at*);try omega)
  exact Sup.of rfl
def vB (s:St) (o:List Int) (x:Int):Bool:=!(o.any fun y=>decide (s.cd y.toNat=[]))&&(decide (jg s o≤x)&&decide (x≤jh s o))
theorem Zb (s:St) (sum:Int) (l:List Int) (c x:Int):uP s sum l c x=!vB s (opn s l c) (rst s sum l-x):=by
 unfold uP vB
 cases(opn s l c).any fun y=>decide (s.cd y.toNat=[])
 ·simp only[Bool.false_or,Bool.not_false,Bool.true_and,Bool.not_and]
  congr 1
  ·rw[←decide_not];congr 1;simp
  ·rw[←decide_not];congr 1;simp
 ·simp
theorem GD (s:St) (o:List Int) (y:Int):jg s (o++[y])=jg s o+hd0 (s.cd y.toNat):=by unfold jg;rw[List.foldl_append];rfl
theorem GH (s:St) (o:List Int) (y:Int):jh s (o++[y])=jh s o+ls0 (s.cd y.toNat):=by unfold jh;rw[List.foldl_append];rfl
structure GI (c:Int) (ls:List (List Int)) (sum:Int) (s:St) (o:List Int) (x:Int):Prop where
 bd:bI c ls sum s
 rng:∀y∈o,0≤y∧y<c
 len:o.length≤16
 x: -2000000000≤x∧x≤2000000000
theorem J8 {c:Int} {ls:List (List Int)} {sum:Int} {s:St} (h:bI c ls sum s) (o:List Int) (ho:∀y∈o,0≤y∧y<c):∀i,i≤o.length→0≤jg s (o.take i)∧jg s (o.take i)≤16*i∧0≤jh s (o.take i)∧jh s (o.take i)≤16*i:=by
 intro i
 induction i with
 |zero=>intro _;simp[jg,jh]
 |succ i ih=>
  intro hi
  have h1:=ih (by omega)
  have hy:=ho (o.getD i 0) (bG (by omega))
  have hA:=(h.asc _ (h.at hy).1).1
  have h2:0≤hd0 (s.cd (o.getD i 0).toNat)∧hd0 (s.cd (o.getD i 0).toNat)≤16:=by
   rcases Nat.eq_zero_or_pos (s.cd (o.getD i 0).toNat).length with e|e
   ·rw[List.eq_nil_of_length_eq_zero e];simp[hd0]
   ·have:=hA.rng _ (qC e);omega
  have h3:0≤ls0 (s.cd (o.getD i 0).toNat)∧ls0 (s.cd (o.getD i 0).toNat)≤16:=by
   rcases Nat.eq_zero_or_pos (s.cd (o.getD i 0).toNat).length with e|e
   ·rw[List.eq_nil_of_length_eq_zero e];simp[ls0]
   ·have:=hA.rng _ (vU e);omega
  rw[cK (by omega),GD,GH]
  omega
theorem QK (c:Int) (ls:List (List Int)) (sum:Int) (s:St) (o:List Int) (x:Int) (h:GI c ls sum s o x):aF Tryz.prog 135 [stV s,.isl (.ints .i64 o) .none,.int .i64 x] (.bp (vB s o x)):=by
 have hb:=h.bd
 have hcl:=hb.cl
 have hdl:=hb.dl
 have hlen:=h.len
 have hx:=h.x
 refine av (md:=1) (rf:=[]) mixed aj aD Tryz.func135 (by rfl) (by rfl) (by rfl) ?_
 repeat'((conv=>whnf);first|intro _|apply aI|with_reducible exact vM rfl|exact⟨⟩|apply nM|apply fM)
 all_goals((try apply vM);(try simp only[vq]at*);try omega)
 conv=>whnf
 refine aJ (X:=Nat) (fun i=>i≤o.length∧(o.take i).any (fun y=>decide (s.cd y.toNat=[]))=false) (fun i=>[(9,.int .i64 i),(7,.int .i64 (jg s (o.take i))),(8,.int .i64 (jh s (o.take i)))]) (fun i=>[]) (fun i=>o.length-i) 0 ⟨aG,mixed,aj,aD,aN⟩ (by rfl) ⟨by omega,by simp⟩ ?_ ?_
 ·repeat'((conv=>whnf);first|intro _|apply aI|with_reducible exact vM rfl|exact⟨⟩|apply nM|apply fM)
  all_goals((try apply vM);(try simp only[vq]at*);try omega)
  all_goals rfl
 intro i ⟨hi,hok⟩
 by_cases hlt:i<o.length
 ·have hy:=h.rng (o.getD i 0) (bG hlt)
  have hys:=hb.at hy
  have hA:=(hb.asc _ hys.1).1
  have h16:=kT hA
  have s1:=J8 hb o h.rng i (by omega)
  have s2:=J8 hb o h.rng (i+1) (by omega)
  have e1:jg s (o.take (i+1))=jg s (o.take i)+hd0 (s.cd (o.getD i 0).toNat):=by rw[cK hlt,GD]
  have e2:jh s (o.take (i+1))=jh s (o.take i)+ls0 (s.cd (o.getD i 0).toNat):=by rw[cK hlt,GH]
  have k16:(s.cs.getD (o.getD i 0).toNat []).length≤16:=h16
  have f1:(s.cs.getD (o.getD i 0).toNat []).getD 0 0=hd0 (s.cd (o.getD i 0).toNat):=rfl
  have f2:(s.cs.getD (o.getD i 0).toNat []).getD (((s.cs.getD (o.getD i 0).toNat []).length:Int)-1).toNat 0=ls0 (s.cd (o.getD i 0).toNat):=by
   rw[show(((s.cs.getD (o.getD i 0).toNat []).length:Int)-1).toNat=(s.cs.getD (o.getD i 0).toNat []).length-1 by omega];rfl
  repeat'((conv=>whnf);first|(intro hq;(try simp only[vw]at hq);try first|exact absurd hq (by decide)|exfalso;omega)|apply aI|with_reducible exact vM rfl|exact⟨⟩|apply nM|apply fM)
  all_goals((try apply vM);(try simp only[vq]at*);try omega)
  all_goals(try simp only[Int.toNat_zero])
  all_goals(try rw[f1])
  all_goals(try rw[f2])
  all_goals(try omega)
  ·have hn:s.cd (o.getD i 0).toNat=[]:=List.eq_nil_of_length_eq_zero (show(s.cs.getD (o.getD i 0).toNat []).length=0 by omega)
   have:vB s o x=false:=by
    unfold vB
    rw[List.any_eq_true.2 ⟨o.getD i 0,bG hlt,decide_eq_true hn⟩];rfl
   rw[this]
   exact bU false
  ·have hn:s.cd (o.getD i 0).toNat≠[]:=fun e=>by
    have:(s.cs.getD (o.getD i 0).toNat []).length=0:=by rw[show s.cs.getD (o.getD i 0).toNat []=[]from e];rfl
    omega
   refine⟨i+1,[],⟨⟨by omega,?_⟩,by omega⟩,?_⟩
   ·rw[cK hlt,List.any_append,hok,List.any_cons,decide_eq_false hn];rfl
   rw[e1,e2]
   repeat'((conv=>whnf);first|intro _|apply aI|with_reducible exact vM rfl|exact⟨⟩|apply nM|apply fM)
   all_goals((try apply vM);(try simp only[vq]at*);try omega)
   all_goals(try rw[f2])
 ·have:i=o.length:=by omega
  subst this
  rw[List.take_length]at*
  have hB:vB s o x=(decide (jg s o≤x)&&decide (x≤jh s o)):=by unfold vB;rw[hok];rfl
  repeat'((conv=>whnf);first|intro _|apply aI|with_reducible exact vM rfl|exact⟨⟩|apply nM|apply fM)
  all_goals((try apply vM);(try simp only[vq]at*);try omega)
  ·rename_i h1
   rw[hB,decide_eq_true h1];exact Sup.of rfl
  ·rename_i h1
   rw[hB,decide_eq_false h1];exact bU false
def NR:PSp:=fun xs K=>match xs with
 | [.agg [.isl (.rows .i64 CS) .none,.isl (.bools DS) .none],.isl (.ints .i64 o) .none,.int .i64 x]=>VC (∃c ls sum,GI c ls sum ⟨CS,DS⟩ o x)∧K (.bp (vB ⟨CS,DS⟩ o x))
 |_=>False
theorem Zc:POK Tryz.prog 135 NR:=by
 intro xs K h
 unfold NR at h
 split at h
 ·exact⟨_,h.2,(by obtain⟨c,ls,sum,h'⟩:=h.1.get;exact QK c ls sum ⟨_,_⟩ _ _ h')⟩
 ·exact h.elim
theorem IQ (r:ByteArray):aF Tryz.prog 70 [.str r] (.int .i64 (aU r)):=by
 have hn:=jr
 refine av (md:=1) (rf:=[]) mixed aj aD Tryz.func70 (by rfl) (by rfl) (by rfl) ?_
 repeat'((conv=>whnf);first|intro _|apply aI|with_reducible exact vM rfl|exact⟨⟩|apply nM|apply fM)
 all_goals((try apply vM);(try simp only[vq]at*);try omega)
 conv=>whnf
 refine aJ (X:=Nat) (fun i=>i≤5∧∀j,0<j→j<i+1→nmG j≠r) (fun i=>[(4,.int .i64 i)]) (fun i=>[]) (fun i=>5-i) 0 ⟨aG,mixed,aj,aD,aN⟩ (by rfl) ⟨by omega,fun j h0 hj=>by omega⟩ ?_ ?_
 ·repeat'((conv=>whnf);first|intro _|apply aI|with_reducible exact vM rfl|exact⟨⟩|apply nM|apply fM)
  all_goals((try apply vM);(try simp only[vq]at*);try omega)
 intro i ⟨hi,hok⟩
 obtain rfl|rfl|rfl|rfl|rfl|rfl:i=0∨i=1∨i=2∨i=3∨i=4∨i=5:=by omega
 ·repeat'((conv=>whnf);first|(intro hq;(try simp only[vw]at hq);try first|exact absurd hq (by decide)|exfalso;omega)|apply aI|with_reducible exact vM rfl|exact⟨⟩|apply nM|apply fM)
  all_goals((try apply vM);(try simp only[vq]at*);try omega)
  all_goals(try omega)
  ·subst hq
   refine Sup.of (congrArg (PV.int .i64) ?_)
   exact(hn.1:aU (nmG 1)=1).symm
  refine⟨1,[],⟨⟨by omega,fun j h0 hj=>?_⟩,by omega⟩,?_⟩
  ·by_cases e:j=1
   ·subst e;exact hq
   ·exact hok j h0 (by omega)
  repeat'((conv=>whnf);first|intro _|apply aI|with_reducible exact vM rfl|exact⟨⟩|apply nM|apply fM)
  all_goals((try apply vM);(try simp only[vq]at*);try omega)
 ·repeat'((conv=>whnf);first|(intro hq;(try simp only[vw]at hq);try first|exact absurd hq (by decide)|exfalso;omega)|apply aI|with_reducible exact vM rfl|exact⟨⟩|apply nM|apply fM)
  all_goals((try apply vM);(try simp only[vq]at*);try omega)
  all_goals(try omega)
  ·subst hq
   refine Sup.of (congrArg (PV.int .i64) ?_)
   exact(hn.2.1:aU (nmG 2)=2).symm
  refine⟨2,[],⟨⟨by omega,fun j h0 hj=>?_⟩,by omega⟩,?_⟩
  ·by_cases e:j=2
   ·subst e;exact hq
   ·exact hok j h0 (by omega)
  repeat'((conv=>whnf);first|intro _|apply aI|with_reducible exact vM rfl|exact⟨⟩|apply nM|apply fM)
  all_goals((try apply vM);(try simp only[vq]at*);try omega)
 ·repeat'((conv=>whnf);first|(intro hq;(try simp only[vw]at hq);try first|exact absurd hq (by decide)|exfalso;omega)|apply aI|with_reducible exact vM rfl|exact⟨⟩|apply nM|apply fM)
  all_goals((try apply vM);(try simp only[vq]at*);try omega)
  all_goals(try omega)
  ·subst hq
   refine Sup.of (congrArg (PV.int .i64) ?_)
   exact(hn.2.2.1:aU (nmG 3)=3).symm
  refine⟨3,[],⟨⟨by omega,fun j h0 hj=>?_⟩,by omega⟩,?_⟩
  ·by_cases e:j=3
   ·subst e;exact hq
   ·exact hok j h0 (by omega)
  repeat'((conv=>whnf);first|intro _|apply aI|with_reducible exact vM rfl|exact⟨⟩|apply nM|apply fM)
  all_goals((try apply vM);(try simp only[vq]at*);try omega)
 ·repeat'((conv=>whnf);first|(intro hq;(try simp only[vw]at hq);try first|exact absurd hq (by decide)|exfalso;omega)|apply aI|with_reducible exact vM rfl|exact⟨⟩|apply nM|apply fM)
  all_goals((try apply vM);(try simp only[vq]at*);try omega)
  all_goals(try omega)
  ·subst hq
   refine Sup.of (congrArg (PV.int .i64) ?_)
   exact(hn.2.2.2.1:aU (nmG 4)=4).symm
  refine⟨4,[],⟨⟨by omega,fun j h0 hj=>?_⟩,by omega⟩,?_⟩
  ·by_cases e:j=4
   ·subst e;exact hq
   ·exact hok j h0 (by omega)
  repeat'((conv=>whnf);first|intro _|apply aI|with_reducible exact vM rfl|exact⟨⟩|apply nM|apply fM)
  all_goals((try apply vM);(try simp only[vq]at*);try omega)
 ·repeat'((conv=>whnf);first|(intro hq;(try simp only[vw]at hq);try first|exact absurd hq (by decide)|exfalso;omega)|apply aI|with_reducible exact vM rfl|exact⟨⟩|apply nM|apply fM)
  all_goals((try apply vM);(try simp only[vq]at*);try omega)
  all_goals(try omega)
  ·subst hq
   refine Sup.of (congrArg (PV.int .i64) ?_)
   exact(hn.2.2.2.2:aU (nmG 5)=5).symm
  refine⟨5,[],⟨⟨by omega,fun j h0 hj=>?_⟩,by omega⟩,?_⟩
  ·by_cases e:j=5
   ·subst e;exact hq
   ·exact hok j h0 (by omega)
  repeat'((conv=>whnf);first|intro _|apply aI|with_reducible exact vM rfl|exact⟨⟩|apply nM|apply fM)
  all_goals((try apply vM);(try simp only[vq]at*);try omega)
 ·rw[JN fun j h0 hj=>hok j h0 (by omega)]
  repeat'((conv=>whnf);first|(intro hq;(try simp only[vw]at hq);try first|exact absurd hq (by decide)|exfalso;omega)|apply aI|with_reducible exact vM rfl|exact⟨⟩|apply nM|apply fM)
  all_goals((try apply vM);(try simp only[vq]at*);try omega)
  exact Sup.of rfl
def xV:PSp:=fun xs K=>match xs with
 | [.str r]=>∃g:Int,VC (aU r=g)∧K (.int .i64 g)
 |_=>False
theorem NS:POK Tryz.prog 70 xV:=by
 intro xs K hk
 unfold xV at hk
 split at hk
 ·obtain⟨g,⟨rfl⟩,hk⟩:=hk
  exact⟨_,hk,IQ _⟩
 ·exact hk.elim
theorem IU (g:Int) (h:1≤g∧g≤5):aF Tryz.prog 77 [.int .i64 g] (.str (nmG g.toNat)):=by
 obtain rfl|rfl|rfl|rfl|rfl:g=1∨g=2∨g=3∨g=4∨g=5:=by omega
 all_goals
  refine av (md:=1) (rf:=[]) mixed aj aD Tryz.func77 (by rfl) (by rfl) (by rfl) ?_
  repeat'((conv=>whnf);first|intro _|apply aI|with_reducible exact vM rfl|exact⟨⟩|apply nM|apply fM)
  all_goals((try apply vM);(try simp only[vq]at*);try omega)
  all_goals exact Sup.of rfl
def Bl:PSp:=fun xs K=>match xs with
 | [.int .i64 g]=>VC (1≤g∧g≤5)∧K (.str (nmG g.toNat))
 |_=>False
theorem QL:POK Tryz.prog 77 Bl:=by
 intro xs K h
 unfold Bl at h
 split at h
 ·exact⟨_,h.2,IU _ h.1.get⟩
 ·exact h.elim
noncomputable def adN:CPT:=aA 70 (aB xV) (aA 95 (aB su) noC)
theorem kW:aW Tryz.prog adN:=ak (au NS) (ak (au qF) aD)
theorem QM (c:Int) (ls:List (List Int)) (sum:Int) (gv:List Int) (h:bK ls) (r:ByteArray) (y x k:Int):
 aF Tryz.prog 64 [pzV c ls sum gv,ddV r y x k] (.int .i64 (cO c ls r y x k)):=by
 have h4:=fun i=>h.at' i
 have h2:=h.len
 by_cases hg:aU r=0
 ·rw[show cO c ls r y x k=13 by unfold cO;rw[if_pos hg]]
  refine av (md:=1) (rf:=[]) mixed aj kW Tryz.func64 (by rfl) (by rfl) (by rfl) ?_
  repeat'((conv=>whnf);first|apply Exists.intro (0)|(intro hq;(try simp only[vw]at hq);try first|exact absurd hq (by decide)|exfalso;omega)|apply aI|with_reducible exact vM rfl|exact⟨⟩|apply nM|apply fM)
  all_goals((try apply vM);(try simp only[vq]at*);try omega)
  all_goals first|exact hg|exact Sup.of rfl|skip
 by_cases hy:y<0∨c≤y
 ·rw[show cO c ls r y x k=10 by unfold cO;rw[if_neg hg,if_pos hy]]
  refine av (md:=1) (rf:=[]) mixed aj kW Tryz.func64 (by rfl) (by rfl) (by rfl) ?_
  repeat'((conv=>whnf);first|apply Exists.intro (aU r)|(intro hq;(try simp only[vw]at hq);try first|exact absurd hq (by decide)|exfalso;omega)|apply aI|with_reducible exact vM rfl|exact⟨⟩|apply nM|apply fM)
  all_goals((try apply vM);(try simp only[vq]at*);try omega)
  all_goals first|(exfalso;contradiction)|exact Sup.of rfl|(exfalso;rcases hy with hy|hy<;>contradiction)|(exfalso;rcases hy with hy|hy<;>simp_all)|skip
 have hy1:¬y<0:=fun e=>hy (.inl e)
 have hy2:¬c≤y:=fun e=>hy (.inr e)
 by_cases hx:x<1∨c<x
 ·rw[show cO c ls r y x k=3 by unfold cO;rw[if_neg hg,if_neg hy,if_pos hx]]
  clear hy
  refine av (md:=1) (rf:=[]) mixed aj kW Tryz.func64 (by rfl) (by rfl) (by rfl) ?_
  repeat'((conv=>whnf);first|apply Exists.intro (aU r)|(intro hq;(try simp only[vw]at hq);try first|exact absurd hq (by decide)|exfalso;omega)|apply aI|with_reducible exact vM rfl|exact⟨⟩|apply nM|apply fM)
  all_goals((try apply vM);(try simp only[vq]at*);try omega)
  all_goals first|(exfalso;contradiction)|exact Sup.of rfl|(exfalso;rcases hx with hx|hx<;>contradiction)|(exfalso;rcases hx with hx|hx<;>simp_all)|skip
 have hx1:¬x<1:=fun e=>hx (.inl e)
 have hx2:¬c<x:=fun e=>hx (.inr e)
 obtain⟨rfl,hgr⟩|⟨rfl,hgr⟩|⟨rfl,hgr⟩|⟨rfl,hgr⟩|⟨rfl,hgr⟩|hgr:=mh r
 ·rw[show cO c ls bJ y x k=if k<0∨ls.length≤k∨y∉ls.getD k.toNat []then 10 else 0 by unfold cO;rw[if_neg (by rw[hgr];decide),if_neg hy,if_neg hx,if_neg (by rw[hgr];decide)]]
  clear hy hx hg
  refine av (md:=1) (rf:=[]) mixed aj kW Tryz.func64 (by rfl) (by rfl) (by rfl) ?_
  repeat'((conv=>whnf);first|apply Exists.intro (1)|(intro hq;(try simp only[vw]at hq);try first|exact absurd hq (by decide)|exfalso;omega)|apply aI|with_reducible exact vM rfl|exact⟨⟩|apply nM|apply fM)
  all_goals((try apply vM);(try simp only[vq]at*);try omega)
  all_goals first|exact hgr|(exfalso;contradiction)|(have:=h4 k.toNat;omega)|(exact Sup.of (by simp_all[bF]))|skip
 ·rw[show cO c ls bR y x k=if k≠ -1 then 10 else 0 by unfold cO;rw[if_neg (by rw[hgr];decide),if_neg hy,if_neg hx,if_pos (by rw[hgr];decide)]]
  clear hy hx hg
  refine av (md:=1) (rf:=[]) mixed aj kW Tryz.func64 (by rfl) (by rfl) (by rfl) ?_
  repeat'((conv=>whnf);first|apply Exists.intro (2)|(intro hq;(try simp only[vw]at hq);try first|exact absurd hq (by decide)|exfalso;omega)|apply aI|with_reducible exact vM rfl|exact⟨⟩|apply nM|apply fM)
  all_goals((try apply vM);(try simp only[vq]at*);try omega)
  all_goals first|exact hgr|(exfalso;contradiction)|(exact Sup.of (by simp_all[bF]))|skip
 ·rw[show cO c ls bS y x k=if k≠ -1 then 10 else 0 by unfold cO;rw[if_neg (by rw[hgr];decide),if_neg hy,if_neg hx,if_pos (by rw[hgr];decide)]]
  clear hy hx hg
  refine av (md:=1) (rf:=[]) mixed aj kW Tryz.func64 (by rfl) (by rfl) (by rfl) ?_
  repeat'((conv=>whnf);first|apply Exists.intro (3)|(intro hq;(try simp only[vw]at hq);try first|exact absurd hq (by decide)|exfalso;omega)|apply aI|with_reducible exact vM rfl|exact⟨⟩|apply nM|apply fM)
  all_goals((try apply vM);(try simp only[vq]at*);try omega)
  all_goals first|exact hgr|(exfalso;contradiction)|(exact Sup.of (by simp_all[bF]))|skip
 ·rw[show cO c ls bP y x k=if k<0∨ls.length≤k∨y∉ls.getD k.toNat []then 10 else 0 by unfold cO;rw[if_neg (by rw[hgr];decide),if_neg hy,if_neg hx,if_neg (by rw[hgr];decide)]]
  clear hy hx hg
  refine av (md:=1) (rf:=[]) mixed aj kW Tryz.func64 (by rfl) (by rfl) (by rfl) ?_
  repeat'((conv=>whnf);first|apply Exists.intro (4)|(intro hq;(try simp only[vw]at hq);try first|exact absurd hq (by decide)|exfalso;omega)|apply aI|with_reducible exact vM rfl|exact⟨⟩|apply nM|apply fM)
  all_goals((try apply vM);(try simp only[vq]at*);try omega)
  all_goals first|exact hgr|(exfalso;contradiction)|(have:=h4 k.toNat;omega)|(exact Sup.of (by simp_all[bF]))|skip
 ·rw[show cO c ls bQ y x k=if k<0∨ls.length≤k∨y∉ls.getD k.toNat []then 10 else 0 by unfold cO;rw[if_neg (by rw[hgr];decide),if_neg hy,if_neg hx,if_neg (by rw[hgr];decide)]]
  clear hy hx hg
  refine av (md:=1) (rf:=[]) mixed aj kW Tryz.func64 (by rfl) (by rfl) (by rfl) ?_
  repeat'((conv=>whnf);first|apply Exists.intro (5)|(intro hq;(try simp only[vw]at hq);try first|exact absurd hq (by decide)|exfalso;omega)|apply aI|with_reducible exact vM rfl|exact⟨⟩|apply nM|apply fM)
  all_goals((try apply vM);(try simp only[vq]at*);try omega)
  all_goals first|exact hgr|(exfalso;contradiction)|(have:=h4 k.toNat;omega)|(exact Sup.of (by simp_all[bF]))|skip
 exact absurd hgr hg
def NT:PSp:=fun xs K=>match xs with
 | [.agg [.int .i64 c,.isl (.rows .i64 ls) .none,.int .i64 sum,.isl (.ints .i64 gv) .none],.agg [.str r,.int .i64 y,.int .i64 x,.int .i64 k]]=>VC (bK ls)∧K (.int .i64 (cO c ls r y x k))
 |_=>False
theorem Zd:POK Tryz.prog 64 NT:=by
 intro xs K h
 unfold NT at h
 split at h
 ·exact⟨_,h.2,QM _ _ _ _ h.1.get _ _ _ _⟩
 ·exact h.elim
theorem Ug {s:St} {y z x:Int} {r used:List Int} (hz:z∈s.cd y.toNat) (hu:z∉used) (hc:chs s r (used++[z]) (x-z)=true):chs s (y::r) used x=true:=by
 unfold chs
 rw[List.any_eq_true]
 exact⟨z,List.mem_filter.2 ⟨hz,by simp[hu]⟩,hc⟩
theorem QN {s:St} {y x:Int} {r used:List Int} (h:∀z∈s.cd y.toNat,z∈used∨chs s r (used++[z]) (x-z)=false):chs s (y::r) used x=false:=by
 unfold chs
 rw[List.any_eq_false]
 intro z hz
 obtain⟨h1,h2⟩:=List.mem_filter.1 hz
 rcases h z h1 with h3|h3
 ·simp[h3]at h2
 ·rw[h3];simp
structure Bn (c:Int) (ls:List (List Int)) (sum:Int) (s:St) (o used:List Int) (x:Int):Prop where
 bd:bI c ls sum s
 rng:∀y∈o,0≤y∧y<c
 len:o.length+used.length≤30
 x: -2000000000+16*(o.length:Int)≤x∧x≤2000000000
def DW (c:Int) (ls:List (List Int)) (sum:Int) (s:St) (n:Nat):PSp:=fun xs K=>match xs with
 | [.agg [.isl (.rows .i64 CS) .none,.isl (.bools DS) .none],.isl (.ints .i64 o) .none,.isl (.ints .i64 used) .none,.int .i64 x]=>VC (CS=s.cs∧DS=s.ds∧o.length<n∧Bn c ls sum s o used x)∧K (.bp (chs s o used x))
 |_=>False
theorem Uh (c:Int) (ls:List (List Int)) (sum:Int) (s:St):∀n,POK Tryz.prog 136 (DW c ls sum s n):=by
 intro n
 induction n with
 |zero=>
  intro xs K hk
  unfold DW at hk
  split at hk
  ·obtain⟨⟨_,_,h,_⟩,_⟩:=hk;omega
  ·exact hk.elim
 |succ n ih=>
  intro xs K hk
  unfold DW at hk
  split at hk
  ·rename_i CS DS o used x
   obtain⟨⟨rfl,rfl,hn,h⟩,hk⟩:=hk
   refine⟨_,hk,?_⟩
   have hC:aW Tryz.prog (aA 95 (aB su) (aA 136 (aB (DW c ls sum s n)) noC)):=ak (au qF) (ak (au ih) aD)
   have hb:=h.bd
   have hcl:=hb.cl
   have hlen:=h.len
   have hx:=h.x
   cases o with
   |nil=>
    refine av (md:=1) (rf:=[]) mixed aj hC Tryz.func136 (by rfl) (by rfl) (by rfl) ?_
    repeat'((conv=>whnf);first|(intro hq;(try simp only[vw]at hq);try first|exact absurd hq (by decide)|exfalso;omega)|apply aI|with_reducible exact vM rfl|exact⟨⟩|apply nM|apply fM)
    all_goals((try apply vM);(try simp only[vq]at*);try omega)
    all_goals first|exact Sup.of rfl|skip
   |cons y r=>
    have hy:=h.rng y (List.mem_cons_self ..)
    have hys:=hb.at hy
    have hA:=(hb.asc _ hys.1).1
    have k16:(s.cs.getD y.toNat []).length≤16:=kT hA
    have hr:=hA.rng
    refine av (md:=1) (rf:=[]) mixed aj hC Tryz.func136 (by rfl) (by rfl) (by rfl) ?_
    repeat'((conv=>whnf);first|(intro hq;(try simp only[vw]at hq);try first|exact absurd hq (by decide)|exfalso;omega)|apply aI|with_reducible exact vM rfl|exact⟨⟩|apply nM|apply fM)
    all_goals((try apply vM);(try simp only[vq]at*);try omega)
    all_goals(try first|exact hy.1|(show y<(s.cs.length:Int);omega)|(show y.toNat+1≤s.cs.length;omega))
    obtain⟨L,hL⟩:∃L,s.cs.getD y.toNat []=L:=⟨_,rfl⟩
    have hLd:s.cd y.toNat=L:=hL
    show bH (.isl (.ints .i64 (s.cs.getD y.toNat [])) .none) _
    rw[hL]
    conv=>whnf
    have hlr:((y::r).length:Int)=r.length+1:=by simp
    have hln:(y::r).length=r.length+1:=rfl
    have hch:∀z∈L,Bn c ls sum s r (used++[z]) (x-z):=fun z hz=>by
     have:=hr z (by rw[hLd];exact hz)
     refine⟨hb,fun w hw=>h.rng w (List.mem_cons_of_mem _ hw),?_,?_⟩
     ·rw[List.length_append,List.length_singleton];omega
     ·omega
    refine aJ (X:=Nat) (fun i=>i≤L.length∧∀z∈L.take i,z∈used∨chs s r (used++[z]) (x-z)=false) (fun i=>[(10,.int .i64 i)]) (fun i=>[]) (fun i=>L.length-i) 0 ⟨aG,mixed,aj,hC,aN⟩ (by rfl) ⟨by omega,by simp⟩ ?_ ?_
    ·repeat'((conv=>whnf);first|intro _|apply aI|with_reducible exact vM rfl|exact⟨⟩|apply nM|apply fM)
     all_goals((try apply vM);(try simp only[vq]at*);try omega)
    intro i ⟨hi,hok⟩
    rw[hL]at k16
    by_cases hlt:i<L.length
    ·have hz:=bG hlt
     have hzr:=hr (L.getD i 0) (by rw[hLd];exact hz)
     have tk:List.take (r.length+1-Int.toNat 1) (List.drop (Int.toNat 1) (y::r))=r:=by
      show List.take (r.length+1-1) (List.drop 1 (y::r))=r
      simp
     have hnx:∀(hx':L.getD i 0∈used∨chs s r (used++[L.getD i 0]) (x-L.getD i 0)=false),∀z∈L.take (i+1),z∈used∨chs s r (used++[z]) (x-z)=false:=fun hx' z hz=>by
      rw[cK hlt]at hz
      rcases List.mem_append.1 hz with hz|hz
      ·exact hok z hz
      ·rw[List.mem_singleton]at hz;subst hz;exact hx'
     repeat'((conv=>whnf);first|(intro hq;(try simp only[vw]at hq);try first|exact absurd hq (by decide)|exfalso;omega)|apply aI|with_reducible exact vM rfl|exact⟨⟩|apply nM|apply fM)
     all_goals((try apply vM);(try simp only[vq]at*);try omega)
     all_goals(try rw[tk]at*)
     all_goals(try rw[List.nil_append]at*)
     all_goals(try simp only[List.length_append,List.length_singleton])
     all_goals(try first|omega|exact⟨by omega,hch _ hz⟩)
     ·exact .inl trivial
     ·rw[Ug (by rw[hLd];exact hz) ‹_› hq];exact bU true
     ·refine⟨i+1,[],⟨⟨by omega,hnx (.inr hq)⟩,by omega⟩,?_⟩
      repeat'((conv=>whnf);first|intro _|apply aI|with_reducible exact vM rfl|exact⟨⟩|apply nM|apply fM)
      all_goals((try apply vM);(try simp only[vq]at*);try omega)
     ·refine⟨i+1,[],⟨⟨by omega,hnx (.inl hq)⟩,by omega⟩,?_⟩
      repeat'((conv=>whnf);first|intro _|apply aI|with_reducible exact vM rfl|exact⟨⟩|apply nM|apply fM)
      all_goals((try apply vM);(try simp only[vq]at*);try omega)
    have e:i=L.length:=by omega
    subst e
    rw[List.take_length]at hok
    rw[QN (by rw[hLd];exact hok)]
    repeat'((conv=>whnf);first|(intro hq;(try simp only[vw]at hq);try first|exact absurd hq (by decide)|exfalso;omega)|apply aI|with_reducible exact vM rfl|exact⟨⟩|apply nM|apply fM)
    all_goals((try apply vM);(try simp only[vq]at*);try omega)
    all_goals first|exact bU false|skip
  ·exact hk.elim
def NU:PSp:=fun xs K=>match xs with
 | [.agg [.isl (.rows .i64 CS) .none,.isl (.bools DS) .none],.isl (.ints .i64 o) .none,.isl (.ints .i64 used) .none,.int .i64 x]=>VC (∃c ls sum,Bn c ls sum ⟨CS,DS⟩ o used x)∧K (.bp (chs ⟨CS,DS⟩ o used x))
 |_=>False
theorem Ui:POK Tryz.prog 136 NU:=by
 intro xs K hk
 unfold NU at hk
 split at hk
 ·rename_i CS DS o used x
  obtain⟨⟨c,ls,sum,h⟩,hk⟩:=hk
  exact Uh c ls sum ⟨CS,DS⟩ (o.length+1) _ _ ⟨⟨rfl,rfl,by omega,h⟩,hk⟩
 ·exact hk.elim
structure GJ (c:Int) (ls:List (List Int)) (sum:Int) (s:St) (k:Int):Prop where
 bd:bI c ls sum s
 k:0≤k∧k<ls.length
def zF:PSp:=fun xs K=>match xs with
 | [.agg [.int .i64 c,.isl (.rows .i64 ls) .none,.int .i64 sum,.isl (.ints .i64 gv) .none],.agg [.isl (.rows .i64 CS) .none,.isl (.bools DS) .none],.int .i64 k,.int .i64 b]=>VC (GJ c ls sum ⟨CS,DS⟩ k)∧K (.isl (.ints .i64 (opn ⟨CS,DS⟩ (ls.getD k.toNat []) b)) .none)
 |_=>False
theorem GK:POK Tryz.prog 96 zF:=by
 intro xs K hk
 unfold zF at hk
 split at hk
 ·exact⟨_,hk.2,NP _ _ _ _ ⟨_,_⟩ hk.1.get.bd _ _ hk.1.get.k⟩
 ·exact hk.elim
def zG:PSp:=fun xs K=>match xs with
 | [.agg [.int .i64 c,.isl (.rows .i64 ls) .none,.int .i64 sum,.isl (.ints .i64 gv) .none],.agg [.isl (.rows .i64 CS) .none,.isl (.bools DS) .none],.int .i64 k]=>VC (GJ c ls sum ⟨CS,DS⟩ k)∧K (.int .i64 (rst ⟨CS,DS⟩ sum (ls.getD k.toNat [])))
 |_=>False
theorem GL:POK Tryz.prog 97 zG:=by
 intro xs K hk
 unfold zG at hk
 split at hk
 ·exact⟨_,hk.2,NQ _ _ _ _ ⟨_,_⟩ hk.1.get.bd _ hk.1.get.k⟩
 ·exact hk.elim
noncomputable def adO:CPT:=aA 95 (aB su) (aA 96 (aB zF) (aA 97 (aB zG) (aA 135 (aB NR) (aA 136 (aB NU) noC))))
theorem d9:aW Tryz.prog adO:=ak (au qF) (ak (au GK) (ak (au GL) (ak (au Zc) (ak (au Ui) aD))))
theorem NV (c:Int) (ls:List (List Int)) (sum:Int) (gv:List Int) (s:St) (h:bI c ls sum s) (r:ByteArray) (y x k:Int) (hd:mq c ls r y x k):
 aF Tryz.prog 75 [pzV c ls sum gv,stV s,ddV r y x k] (.bp (okJ (aU r).toNat s sum (ls.getD k.toNat []) y x)):=by
 have hc:=h.c1
 have hy:=hd.y
 have hx:=hd.x
 have hxs:=h.at hy
 have hA:=(h.asc _ hxs.1).1
 have k16:(s.cs.getD y.toNat []).length≤16:=kT hA
 have hcl:=h.cl
 have hdl:=h.dl
 have hsm:=h.sm
 obtain⟨rfl,hg⟩|⟨rfl,hg⟩|⟨rfl,hg⟩|⟨rfl,hg⟩|⟨rfl,hg⟩|hg:=mh r
 ·have hk:0≤k∧k<ls.length:=by
   have:=hd.k
   rw[hg]at this
   omega
  have hln:=h.ln k.toNat (by omega)
  have hll:=hln.len
  have hb:=oQ h hln.rng (ls.getD k.toNat []).length (Nat.le_refl _)
  rw[List.take_length]at hb
  have hR:GJ c ls sum s k:=⟨h,hk⟩
  have hol:(opn s (ls.getD k.toNat []) y).length≤16:=Nat.le_trans (List.length_filter_le _ _) hll
  have hor:∀z∈opn s (ls.getD k.toNat []) y,0≤z∧z<c:=fun z hz=>hln.rng z (qG hz)
  have hB:∃c ls sum,GI c ls sum ⟨s.cs,s.ds⟩ (opn s (ls.getD k.toNat []) y) (rst s sum (ls.getD k.toNat [])-x):=⟨c,ls,sum,h,hor,hol,by omega,by omega⟩
  have hC:∃c ls sum,Bn c ls sum ⟨s.cs,s.ds⟩ (opn s (ls.getD k.toNat []) y) [x] (rst s sum (ls.getD k.toNat [])-x):=⟨c,ls,sum,h,hor,by rw[List.length_singleton];omega,by omega,by omega⟩
  rw[hg]
  have hs:(⟨s.cs,s.ds⟩:St)=s:=rfl
  have hok:okJ (Int.toNat 1) s sum (ls.getD k.toNat []) y x=(!s.dc y.toNat&&(decide (x∈s.cd y.toNat)&&qo s sum (ls.getD k.toNat []) y x)):=rfl
  rw[hok]
  by_cases hdc:s.ds.getD y.toNat false=true
  ·rw[show s.dc y.toNat=true from hdc,Bool.not_true,Bool.false_and]
   refine av (md:=1) (rf:=[]) mixed aj d9 Tryz.func75 (by rfl) (by rfl) (by rfl) ?_
   repeat'((conv=>whnf);first|(intro hq;(try simp only[vw]at hq);try first|exact absurd hq (by decide)|exfalso;omega)|apply aI|with_reducible exact vM rfl|exact⟨⟩|apply nM|apply fM)
   all_goals((try apply vM);(try simp only[vq]at*);try omega)
   all_goals first|omega|exact bU false|(exfalso;simp_all;done)|(rw[show(⟨s.cs,s.ds⟩:St)=s from rfl];first|omega|exact hB|exact hC)|skip
  have hdc:s.ds.getD y.toNat false=false:=by simpa using hdc
  by_cases hm:x∈s.cs.getD y.toNat []
  case neg=>
   rw[show decide (x∈s.cd y.toNat)=false from decide_eq_false hm,Bool.false_and,Bool.and_false]
   refine av (md:=1) (rf:=[]) mixed aj d9 Tryz.func75 (by rfl) (by rfl) (by rfl) ?_
   repeat'((conv=>whnf);first|(intro hq;(try simp only[vw]at hq);try first|exact absurd hq (by decide)|exfalso;omega)|apply aI|with_reducible exact vM rfl|exact⟨⟩|apply nM|apply fM)
   all_goals((try apply vM);(try simp only[vq]at*);try omega)
   all_goals first|omega|exact bU false|(exfalso;simp_all;done)|(rw[show(⟨s.cs,s.ds⟩:St)=s from rfl];first|omega|exact hB|exact hC)|skip
  rw[show s.dc y.toNat=false from hdc,show decide (x∈s.cd y.toNat)=true from decide_eq_true hm,Bool.not_false,Bool.true_and,Bool.true_and]
  refine av (md:=1) (rf:=[]) mixed aj d9 Tryz.func75 (by rfl) (by rfl) (by rfl) ?_
  repeat'((conv=>whnf);first|(intro hq;(try simp only[vw]at hq);try first|exact absurd hq (by decide)|exfalso;omega)|apply aI|with_reducible exact vM rfl|exact⟨⟩|apply nM|apply fM)
  all_goals((try apply vM);(try simp only[vq]at*);try omega)
  all_goals(try rw[show(⟨s.cs,s.ds⟩:St)=s from rfl])
  all_goals(try rw[show(⟨s.cs,s.ds⟩:St)=s from rfl]at hq)
  all_goals(try first|omega|exact hB|exact hC|(exfalso;exact(‹¬x∈s.cs.getD y.toNat []›) hm)|(exfalso;simp_all;done))
  ·rw[show qo s sum (ls.getD k.toNat []) y x=decide (rst s sum (ls.getD k.toNat [])-x=0) by unfold qo;rw[decide_eq_true (by omega),Bool.true_and];exact decide_eq_decide.2 (by omega)]
   exact Sup.of rfl
  ·rw[show qo s sum (ls.getD k.toNat []) y x=false by unfold qo;rw[decide_eq_false (by omega),Bool.false_and]]
   exact bU false
 ·rw[hg]
  have hB:True:=trivial
  have hC:True:=trivial
  have hs:(⟨s.cs,s.ds⟩:St)=s:=rfl
  have hok:okJ (Int.toNat 2) s sum (ls.getD k.toNat []) y x=(!s.dc y.toNat&&(decide (x∈s.cd y.toNat)&&uO s y)):=rfl
  rw[hok]
  by_cases hdc:s.ds.getD y.toNat false=true
  ·rw[show s.dc y.toNat=true from hdc,Bool.not_true,Bool.false_and]
   refine av (md:=1) (rf:=[]) mixed aj d9 Tryz.func75 (by rfl) (by rfl) (by rfl) ?_
   repeat'((conv=>whnf);first|(intro hq;(try simp only[vw]at hq);try first|exact absurd hq (by decide)|exfalso;omega)|apply aI|with_reducible exact vM rfl|exact⟨⟩|apply nM|apply fM)
   all_goals((try apply vM);(try simp only[vq]at*);try omega)
   all_goals first|omega|exact bU false|(exfalso;simp_all;done)|(rw[show(⟨s.cs,s.ds⟩:St)=s from rfl];first|omega|exact hB|exact hC)|skip
  have hdc:s.ds.getD y.toNat false=false:=by simpa using hdc
  by_cases hm:x∈s.cs.getD y.toNat []
  case neg=>
   rw[show decide (x∈s.cd y.toNat)=false from decide_eq_false hm,Bool.false_and,Bool.and_false]
   refine av (md:=1) (rf:=[]) mixed aj d9 Tryz.func75 (by rfl) (by rfl) (by rfl) ?_
   repeat'((conv=>whnf);first|(intro hq;(try simp only[vw]at hq);try first|exact absurd hq (by decide)|exfalso;omega)|apply aI|with_reducible exact vM rfl|exact⟨⟩|apply nM|apply fM)
   all_goals((try apply vM);(try simp only[vq]at*);try omega)
   all_goals first|omega|exact bU false|(exfalso;simp_all;done)|(rw[show(⟨s.cs,s.ds⟩:St)=s from rfl];first|omega|exact hB|exact hC)|skip
  rw[show s.dc y.toNat=false from hdc,show decide (x∈s.cd y.toNat)=true from decide_eq_true hm,Bool.not_false,Bool.true_and,Bool.true_and]
  refine av (md:=1) (rf:=[]) mixed aj d9 Tryz.func75 (by rfl) (by rfl) (by rfl) ?_
  repeat'((conv=>whnf);first|(intro hq;(try simp only[vw]at hq);try first|exact absurd hq (by decide)|exfalso;omega)|apply aI|with_reducible exact vM rfl|exact⟨⟩|apply nM|apply fM)
  all_goals((try apply vM);(try simp only[vq]at*);try omega)
  all_goals(try rw[show(⟨s.cs,s.ds⟩:St)=s from rfl])
  all_goals(try rw[show(⟨s.cs,s.ds⟩:St)=s from rfl]at hq)
  all_goals(try first|omega|exact hB|exact hC|(exfalso;exact(‹¬x∈s.cs.getD y.toNat []›) hm)|(exfalso;simp_all;done))
  ·rw[show uO s y=decide (((s.cs.getD y.toNat []).length:Int)=1) by unfold uO St.cd;exact decide_eq_decide.2 (by omega)]
   exact Sup.of rfl
 ·rw[hg]
  have hs:(⟨s.cs,s.ds⟩:St)=s:=rfl
  have hB:True:=trivial
  have hC:True:=trivial
  have hok:okJ (Int.toNat 3) s sum (ls.getD k.toNat []) y x=(!s.dc y.toNat&&(decide (x∈s.cd y.toNat)&&mg s y x)):=rfl
  rw[hok]
  by_cases hdc:s.ds.getD y.toNat false=true
  ·rw[show s.dc y.toNat=true from hdc,Bool.not_true,Bool.false_and]
   refine av (md:=1) (rf:=[]) mixed aj d9 Tryz.func75 (by rfl) (by rfl) (by rfl) ?_
   repeat'((conv=>whnf);first|(intro hq;(try simp only[vw]at hq);try first|exact absurd hq (by decide)|exfalso;omega)|apply aI|with_reducible exact vM rfl|exact⟨⟩|apply nM|apply fM)
   all_goals((try apply vM);(try simp only[vq]at*);try omega)
   all_goals first|omega|exact bU false|(exfalso;simp_all;done)|(rw[show(⟨s.cs,s.ds⟩:St)=s from rfl];first|omega|exact hB|exact hC)|skip
  have hdc:s.ds.getD y.toNat false=false:=by simpa using hdc
  by_cases hm:x∈s.cs.getD y.toNat []
  case neg=>
   rw[show decide (x∈s.cd y.toNat)=false from decide_eq_false hm,Bool.false_and,Bool.and_false]
   refine av (md:=1) (rf:=[]) mixed aj d9 Tryz.func75 (by rfl) (by rfl) (by rfl) ?_
   repeat'((conv=>whnf);first|(intro hq;(try simp only[vw]at hq);try first|exact absurd hq (by decide)|exfalso;omega)|apply aI|with_reducible exact vM rfl|exact⟨⟩|apply nM|apply fM)
   all_goals((try apply vM);(try simp only[vq]at*);try omega)
   all_goals first|omega|exact bU false|(exfalso;simp_all;done)|(rw[show(⟨s.cs,s.ds⟩:St)=s from rfl];first|omega|exact hB|exact hC)|skip
  rw[show s.dc y.toNat=false from hdc,show decide (x∈s.cd y.toNat)=true from decide_eq_true hm,Bool.not_false,Bool.true_and,Bool.true_and]
  refine av (md:=1) (rf:=[]) mixed aj d9 Tryz.func75 (by rfl) (by rfl) (by rfl) ?_
  repeat'((conv=>whnf);first|(intro hq;(try simp only[vw]at hq);try first|exact absurd hq (by decide)|exfalso;omega)|apply aI|with_reducible exact vM rfl|exact⟨⟩|apply nM|apply fM)
  all_goals((try apply vM);(try simp only[vq]at*);try omega)
  all_goals(try rw[show(⟨s.cs,s.ds⟩:St)=s from rfl])
  all_goals(try rw[show(⟨s.cs,s.ds⟩:St)=s from rfl]at hq)
  all_goals(try first|omega|exact hB|exact hC|(exfalso;exact(‹¬x∈s.cs.getD y.toNat []›) hm)|(exfalso;simp_all;done))
  conv=>whnf
  refine aJ (X:=Nat) (fun i=>i≤s.cs.length∧∀j,j<i→(decide ((j:Int)=y)||!decide (x∈s.cd j))=true) (fun i=>[(7,.int .i64 i)]) (fun i=>[]) (fun i=>s.cs.length-i) 0 ⟨aG,mixed,aj,d9,aN⟩ (by rfl) ⟨by omega,fun j hj=>by omega⟩ ?_ ?_
  ·repeat'((conv=>whnf);first|intro _|apply aI|with_reducible exact vM rfl|exact⟨⟩|apply nM|apply fM)
   all_goals((try apply vM);(try simp only[vq]at*);try omega)
  intro i ⟨hi,hall⟩
  by_cases hlt:i<s.cs.length
  ·have k17:(s.cs.getD i []).length≤16:=kT (h.asc i hlt).1
   have hno:x∈s.cs.getD i []→(i:Int)≠y→mg s y x=false:=fun h1 h2=>by
    unfold mg
    rw[List.all_eq_false]
    exact⟨i,List.mem_range.2 hlt,by rw[decide_eq_false h2,show decide (x∈s.cd i)=true from decide_eq_true h1];decide⟩
   have hnx:((i:Int)=y∨x∉s.cs.getD i [])→∀j,j<i+1→(decide ((j:Int)=y)||!decide (x∈s.cd j))=true:=fun h1 j hj=>by
    by_cases e:j=i
    ·subst e
     rcases h1 with h1|h1
     ·rw[decide_eq_true h1];rfl
     ·rw[show decide (x∈s.cd j)=false from decide_eq_false h1];simp
    ·exact hall j (by omega)
   repeat'((conv=>whnf);first|(intro hq;(try simp only[vw]at hq);try first|exact absurd hq (by decide)|exfalso;omega)|apply aI|with_reducible exact vM rfl|exact⟨⟩|apply nM|apply fM)
   all_goals((try apply vM);(try simp only[vq]at*);try omega)
   all_goals(try omega)
   ·rw[hno (by assumption) (by assumption)];exact bU false
   ·refine⟨i+1,[],⟨⟨by omega,hnx (.inr (by assumption))⟩,by omega⟩,?_⟩
    repeat'((conv=>whnf);first|intro _|apply aI|with_reducible exact vM rfl|exact⟨⟩|apply nM|apply fM)
    all_goals((try apply vM);(try simp only[vq]at*);try omega)
   ·refine⟨i+1,[],⟨⟨by omega,hnx (.inl (by omega))⟩,by omega⟩,?_⟩
    repeat'((conv=>whnf);first|intro _|apply aI|with_reducible exact vM rfl|exact⟨⟩|apply nM|apply fM)
    all_goals((try apply vM);(try simp only[vq]at*);try omega)
  have e:i=s.cs.length:=by omega
  subst e
  have ht:mg s y x=true:=by
   unfold mg
   rw[List.all_eq_true]
   exact fun j hj=>hall j (List.mem_range.1 hj)
  rw[ht]
  repeat'((conv=>whnf);first|(intro hq;(try simp only[vw]at hq);try first|exact absurd hq (by decide)|exfalso;omega)|apply aI|with_reducible exact vM rfl|exact⟨⟩|apply nM|apply fM)
  all_goals((try apply vM);(try simp only[vq]at*);try omega)
  all_goals first|omega|exact bU true|skip
 ·have hk:0≤k∧k<ls.length:=by
   have:=hd.k
   rw[hg]at this
   omega
  have hln:=h.ln k.toNat (by omega)
  have hll:=hln.len
  have hb:=oQ h hln.rng (ls.getD k.toNat []).length (Nat.le_refl _)
  rw[List.take_length]at hb
  have hR:GJ c ls sum s k:=⟨h,hk⟩
  have hol:(opn s (ls.getD k.toNat []) y).length≤16:=Nat.le_trans (List.length_filter_le _ _) hll
  have hor:∀z∈opn s (ls.getD k.toNat []) y,0≤z∧z<c:=fun z hz=>hln.rng z (qG hz)
  have hB:∃c ls sum,GI c ls sum ⟨s.cs,s.ds⟩ (opn s (ls.getD k.toNat []) y) (rst s sum (ls.getD k.toNat [])-x):=⟨c,ls,sum,h,hor,hol,by omega,by omega⟩
  have hC:∃c ls sum,Bn c ls sum ⟨s.cs,s.ds⟩ (opn s (ls.getD k.toNat []) y) [x] (rst s sum (ls.getD k.toNat [])-x):=⟨c,ls,sum,h,hor,by rw[List.length_singleton];omega,by omega,by omega⟩
  rw[hg]
  have hs:(⟨s.cs,s.ds⟩:St)=s:=rfl
  have hok:okJ (Int.toNat 4) s sum (ls.getD k.toNat []) y x=(!s.dc y.toNat&&(decide (x∈s.cd y.toNat)&&uP s sum (ls.getD k.toNat []) y x)):=rfl
  rw[hok]
  by_cases hdc:s.ds.getD y.toNat false=true
  ·rw[show s.dc y.toNat=true from hdc,Bool.not_true,Bool.false_and]
   refine av (md:=1) (rf:=[]) mixed aj d9 Tryz.func75 (by rfl) (by rfl) (by rfl) ?_
   repeat'((conv=>whnf);first|(intro hq;(try simp only[vw]at hq);try first|exact absurd hq (by decide)|exfalso;omega)|apply aI|with_reducible exact vM rfl|exact⟨⟩|apply nM|apply fM)
   all_goals((try apply vM);(try simp only[vq]at*);try omega)
   all_goals first|omega|exact bU false|(exfalso;simp_all;done)|(rw[show(⟨s.cs,s.ds⟩:St)=s from rfl];first|omega|exact hB|exact hC)|skip
  have hdc:s.ds.getD y.toNat false=false:=by simpa using hdc
  by_cases hm:x∈s.cs.getD y.toNat []
  case neg=>
   rw[show decide (x∈s.cd y.toNat)=false from decide_eq_false hm,Bool.false_and,Bool.and_false]
   refine av (md:=1) (rf:=[]) mixed aj d9 Tryz.func75 (by rfl) (by rfl) (by rfl) ?_
   repeat'((conv=>whnf);first|(intro hq;(try simp only[vw]at hq);try first|exact absurd hq (by decide)|exfalso;omega)|apply aI|with_reducible exact vM rfl|exact⟨⟩|apply nM|apply fM)
   all_goals((try apply vM);(try simp only[vq]at*);try omega)
   all_goals first|omega|exact bU false|(exfalso;simp_all;done)|(rw[show(⟨s.cs,s.ds⟩:St)=s from rfl];first|omega|exact hB|exact hC)|skip
  rw[show s.dc y.toNat=false from hdc,show decide (x∈s.cd y.toNat)=true from decide_eq_true hm,Bool.not_false,Bool.true_and,Bool.true_and]
  refine av (md:=1) (rf:=[]) mixed aj d9 Tryz.func75 (by rfl) (by rfl) (by rfl) ?_
  repeat'((conv=>whnf);first|(intro hq;(try simp only[vw]at hq);try first|exact absurd hq (by decide)|exfalso;omega)|apply aI|with_reducible exact vM rfl|exact⟨⟩|apply nM|apply fM)
  all_goals((try apply vM);(try simp only[vq]at*);try omega)
  all_goals(try rw[show(⟨s.cs,s.ds⟩:St)=s from rfl])
  all_goals(try rw[show(⟨s.cs,s.ds⟩:St)=s from rfl]at hq)
  all_goals(try first|omega|exact hB|exact hC|(exfalso;exact(‹¬x∈s.cs.getD y.toNat []›) hm)|(exfalso;simp_all;done))
  ·exact⟨c,ls,sum,h,hor,hol,by omega,by omega⟩
  ·rw[Zb];exact Sup.of rfl
 ·have hk:0≤k∧k<ls.length:=by
   have:=hd.k
   rw[hg]at this
   omega
  have hln:=h.ln k.toNat (by omega)
  have hll:=hln.len
  have hb:=oQ h hln.rng (ls.getD k.toNat []).length (Nat.le_refl _)
  rw[List.take_length]at hb
  have hR:GJ c ls sum s k:=⟨h,hk⟩
  have hol:(opn s (ls.getD k.toNat []) y).length≤16:=Nat.le_trans (List.length_filter_le _ _) hll
  have hor:∀z∈opn s (ls.getD k.toNat []) y,0≤z∧z<c:=fun z hz=>hln.rng z (qG hz)
  have hB:∃c ls sum,GI c ls sum ⟨s.cs,s.ds⟩ (opn s (ls.getD k.toNat []) y) (rst s sum (ls.getD k.toNat [])-x):=⟨c,ls,sum,h,hor,hol,by omega,by omega⟩
  have hC:∃c ls sum,Bn c ls sum ⟨s.cs,s.ds⟩ (opn s (ls.getD k.toNat []) y) [x] (rst s sum (ls.getD k.toNat [])-x):=⟨c,ls,sum,h,hor,by rw[List.length_singleton];omega,by omega,by omega⟩
  rw[hg]
  have hs:(⟨s.cs,s.ds⟩:St)=s:=rfl
  have hok:okJ (Int.toNat 5) s sum (ls.getD k.toNat []) y x=(!s.dc y.toNat&&(decide (x∈s.cd y.toNat)&&qp s sum (ls.getD k.toNat []) y x)):=rfl
  rw[hok]
  by_cases hdc:s.ds.getD y.toNat false=true
  ·rw[show s.dc y.toNat=true from hdc,Bool.not_true,Bool.false_and]
   refine av (md:=1) (rf:=[]) mixed aj d9 Tryz.func75 (by rfl) (by rfl) (by rfl) ?_
   repeat'((conv=>whnf);first|(intro hq;(try simp only[vw]at hq);try first|exact absurd hq (by decide)|exfalso;omega)|apply aI|with_reducible exact vM rfl|exact⟨⟩|apply nM|apply fM)
   all_goals((try apply vM);(try simp only[vq]at*);try omega)
   all_goals first|omega|exact bU false|(exfalso;simp_all;done)|(rw[show(⟨s.cs,s.ds⟩:St)=s from rfl];first|omega|exact hB|exact hC)|skip
  have hdc:s.ds.getD y.toNat false=false:=by simpa using hdc
  by_cases hm:x∈s.cs.getD y.toNat []
  case neg=>
   rw[show decide (x∈s.cd y.toNat)=false from decide_eq_false hm,Bool.false_and,Bool.and_false]
   refine av (md:=1) (rf:=[]) mixed aj d9 Tryz.func75 (by rfl) (by rfl) (by rfl) ?_
   repeat'((conv=>whnf);first|(intro hq;(try simp only[vw]at hq);try first|exact absurd hq (by decide)|exfalso;omega)|apply aI|with_reducible exact vM rfl|exact⟨⟩|apply nM|apply fM)
   all_goals((try apply vM);(try simp only[vq]at*);try omega)
   all_goals first|omega|exact bU false|(exfalso;simp_all;done)|(rw[show(⟨s.cs,s.ds⟩:St)=s from rfl];first|omega|exact hB|exact hC)|skip
  rw[show s.dc y.toNat=false from hdc,show decide (x∈s.cd y.toNat)=true from decide_eq_true hm,Bool.not_false,Bool.true_and,Bool.true_and]
  refine av (md:=1) (rf:=[]) mixed aj d9 Tryz.func75 (by rfl) (by rfl) (by rfl) ?_
  repeat'((conv=>whnf);first|(intro hq;(try simp only[vw]at hq);try first|exact absurd hq (by decide)|exfalso;omega)|apply aI|with_reducible exact vM rfl|exact⟨⟩|apply nM|apply fM)
  all_goals((try apply vM);(try simp only[vq]at*);try omega)
  all_goals(try rw[show(⟨s.cs,s.ds⟩:St)=s from rfl])
  all_goals(try rw[show(⟨s.cs,s.ds⟩:St)=s from rfl]at hq)
  all_goals(try first|omega|exact hB|exact hC|(exfalso;exact(‹¬x∈s.cs.getD y.toNat []›) hm)|(exfalso;simp_all;done))
  ·exact⟨c,ls,sum,h,hor,by rw[List.length_singleton];omega,by omega,by omega⟩
  ·rw[show qp s sum (ls.getD k.toNat []) y x=!chs s (opn s (ls.getD k.toNat []) y) [x] (rst s sum (ls.getD k.toNat [])-x) by unfold qp;rw[decide_eq_true (by omega),Bool.true_and]]
   exact Sup.of rfl
  ·rw[show qp s sum (ls.getD k.toNat []) y x=false by unfold qp;rw[decide_eq_false (by omega),Bool.false_and]]
   exact bU false
 have:=hd.g
 omega
def GN:PSp:=fun xs K=>match xs with
 | [.agg [.int .i64 c,.isl (.rows .i64 ls) .none,.int .i64 sum,.isl (.ints .i64 gv) .none],.agg [.isl (.rows .i64 CS) .none,.isl (.bools DS) .none],.agg [.str r,.int .i64 y,.int .i64 x,.int .i64 k]]=>
  VC (bI c ls sum ⟨CS,DS⟩∧mq c ls r y x k)∧K (.bp (okJ (aU r).toNat ⟨CS,DS⟩ sum (ls.getD k.toNat []) y x))
 |_=>False
theorem Uj:POK Tryz.prog 75 GN:=by
 intro xs K hk
 unfold GN at hk
 split at hk
 ·exact⟨_,hk.2,NV _ _ _ _ ⟨_,_⟩ hk.1.get.1 _ _ _ _ hk.1.get.2⟩
 ·exact hk.elim
def okX (g:Nat) (c:Int) (ls:List (List Int)) (sum:Int) (s:St) (k i x:Int):Bool:=decide (cO c ls (nmG g) i x k=0)&&okJ g s sum (ls.getD k.toNat []) i x
def upL (t:Nat):List Int:=(List.range t).map fun n:Nat=>(n:Int)+1
def dM (g:Nat) (c:Int) (ls:List (List Int)) (sum:Int) (s:St) (k:Int) (i t:Nat):List Dd:=((upL t).filter fun x=>okX g c ls sum s k i x).map fun x=>⟨g,i,x,k⟩
def dZ (g:Nat) (c:Int) (ls:List (List Int)) (sum:Int) (s:St) (k:Int) (n:Nat):List Dd:=(List.range n).flatMap fun i=>dM g c ls sum s k i c.toNat
def fP (g:Nat) (c:Int) (ls:List (List Int)) (sum:Int) (s:St) (m:Nat):List Dd:=(List.range m).flatMap fun j:Nat=>dZ g c ls sum s (frG g+(j:Int)) c.toNat
theorem Uk (t:Nat):upL (t+1)=upL t++[(t:Int)+1]:=by unfold upL;rw[List.range_succ,List.map_append];rfl
theorem J9 {t:Nat} {x:Int}:x∈upL t↔1≤x∧x≤t:=by
 unfold upL
 rw[List.mem_map]
 constructor
 ·rintro⟨n,hn,rfl⟩
  have:=List.mem_range.1 hn
  omega
 ·intro h
  exact⟨(x-1).toNat,List.mem_range.2 (by omega),by omega⟩
theorem abV (t:Nat):(upL t).Pairwise (·< ·):=by
 unfold upL
 rw[List.pairwise_map]
 exact List.pairwise_lt_range.imp fun h=>by omega
theorem nD {g:Nat} {c:Int} {ls:List (List Int)} {sum:Int} {s:St} {k:Int} {i t:Nat}:
 dM g c ls sum s k i (t+1)=dM g c ls sum s k i t++if okX g c ls sum s k i ((t:Int)+1)then [⟨g,i,(t:Int)+1,k⟩]else []:=by
 unfold dM
 rw[Uk,List.filter_append,List.map_append]
 congr 1
 cases h:okX g c ls sum s k i ((t:Int)+1)<;>simp[h]
theorem Ze {g:Nat} (hg:1≤g∧g≤5) {c:Int} {ls:List (List Int)} {sum:Int} {s:St} (h:bI c ls sum s) {k:Int} (hk:lnG g=true→0≤k∧k<ls.length) (hk':lnG g=false→k= -1) {i:Nat} (hi:(i:Int)<c):
 dM g c ls sum s k i c.toNat=uX g s sum (ls.getD k.toNat []) k i:=by
 have hgi:=Qn hg
 have hc:=h.c1
 have hcl:=h.cl
 have hA:=h.asc i (by omega)
 have hln:lnG g=true↔¬(g=2∨g=3):=by
  unfold lnG
  have:g=1∨g=2∨g=3∨g=4∨g=5:=by omega
  rcases this with rfl|rfl|rfl|rfl|rfl<;>decide
 have hded:∀x,1≤x→x≤c→(cO c ls (nmG g) i x k=0↔¬(lnG g=true∧(i:Int)∉ls.getD k.toNat [])):=fun x h1 h2=>by
  unfold cO
  rw[hgi,if_neg (by omega),if_neg (by omega),if_neg (by omega)]
  cases hl:lnG g with
  |false=>
   have h3:¬¬(g=2∨g=3):=fun e=>by rw[hln.2 e]at hl;cases hl
   have h4:(g:Int)=2∨(g:Int)=3:=by rcases Classical.not_not.1 h3 with e|e<;>omega
   rw[if_pos h4,hk' hl];simp
  |true=>
   have h3:=hln.1 hl
   have h4:¬((g:Int)=2∨(g:Int)=3):=fun e=>h3 (by omega)
   have hkk:=hk hl
   rw[if_neg h4]
   by_cases hm:(i:Int)∈ls.getD k.toNat []
   ·rw[if_neg (fun e=>by rcases e with e|e|e;omega;omega;exact e hm)];exact⟨fun _ e=>e.2 hm,fun _=>rfl⟩
   ·rw[if_pos (.inr (.inr hm))];exact⟨fun e=>absurd e (by decide),fun e=>absurd ⟨rfl,hm⟩ e⟩
 unfold dM uX
 cases hd:s.dc i with
 |true=>
  rw[List.filter_eq_nil_iff.2 (fun x hx=>by unfold okX okJ;rw[Int.toNat_natCast,hd];simp)]
  rfl
 |false=>
  by_cases hb:lnG g=true∧(i:Int)∉ls.getD k.toNat []
  ·rw[List.filter_eq_nil_iff.2 (fun x hx=>by
    have:=J9.1 hx
    unfold okX
    rw[decide_eq_false (fun e=>(hded x this.1 (by omega)).1 e hb)];simp)]
   rw[hb.1,decide_eq_false hb.2];rfl
  ·have e1:(lnG g&&!decide ((i:Int)∈ls.getD k.toNat []))=false:=by
    cases hl:lnG g with
    |false=>rfl
    |true=>
     have:(i:Int)∈ls.getD k.toNat []:=Classical.not_not.1 fun e=>hb ⟨hl,e⟩
     rw[decide_eq_true this];rfl
   rw[e1,Bool.or_false,if_neg (by simp)]
   congr 1
   refine Jp ((abV _).filter _) (hA.1.pw.filter _) fun x=>?_
   rw[List.mem_filter,List.mem_filter,J9]
   unfold okX okJ
   rw[Int.toNat_natCast,hd,Bool.not_false,Bool.true_and,Bool.and_eq_true,Bool.and_eq_true,decide_eq_true_eq,decide_eq_true_eq]
   constructor
   ·rintro⟨_,_,h2,h3⟩;exact⟨h2,h3⟩
   ·rintro⟨h2,h3⟩
    have r1:=hA.1.rng x h2
    have r2:=hA.2 x h2
    exact⟨⟨r1.1,by omega⟩,(hded x r1.1 r2).2 hb,h2,h3⟩
theorem qM {α β:Type} {f g:α→List β}:∀{l:List α},(∀x∈l,f x=g x)→l.flatMap f=l.flatMap g:=by
 intro l
 induction l with
 |nil=>intro _;rfl
 |cons x l ih=>intro h;rw[List.flatMap_cons,List.flatMap_cons,h x (List.mem_cons_self ..),ih fun y hy=>h y (List.mem_cons_of_mem _ hy)]
theorem Zf {g:Nat} (hg:1≤g∧g≤5) {c:Int} {ls:List (List Int)} {sum:Int} {s:St} (h:bI c ls sum s):fP g c ls sum s (mG g ls)=iQ g s sum ls:=by
 have hc:=h.c1
 have hcl:=h.cl
 unfold fP iQ
 refine qM fun j hj=>?_
 have hj:=List.mem_range.1 hj
 unfold dZ
 rw[show c.toNat=s.cs.length by omega]
 refine qM fun i hi=>?_
 have hi:=List.mem_range.1 hi
 rw[show s.cs.length=c.toNat by omega]
 refine Ze hg h (fun e=>?_) (fun e=>?_) (by omega)
 ·unfold mG at hj;rw[if_pos e]at hj;unfold frG;rw[if_pos e];omega
 ·unfold mG at hj;rw[if_neg (by rw[e];simp)]at hj;unfold frG;rw[if_neg (by rw[e];simp)];omega
theorem kX {g:Nat} {c:Int} {ls:List (List Int)} {sum:Int} {s:St} {m:Nat}:fP g c ls sum s (m+1)=fP g c ls sum s m++dZ g c ls sum s (frG g+(m:Int)) c.toNat:=by
 unfold fP;rw[gu]
theorem kY {g:Nat} {c:Int} {ls:List (List Int)} {sum:Int} {s:St} {k:Int} {i:Nat}:dZ g c ls sum s k (i+1)=dZ g c ls sum s k i++dM g c ls sum s k i c.toNat:=by
 unfold dZ;rw[gu]
theorem GQ {g:Nat} {c:Int} {ls:List (List Int)} {sum:Int} {s:St} {k:Int} {i t:Nat}:(dM g c ls sum s k i t).length≤t:=by
 unfold dM
 rw[List.length_map]
 refine Nat.le_trans (List.length_filter_le _ _) ?_
 unfold upL;simp
theorem GR {g:Nat} {c:Int} {ls:List (List Int)} {sum:Int} {s:St} {k:Int}:∀(n:Nat),(dZ g c ls sum s k n).length≤n*c.toNat:=by
 intro n
 induction n with
 |zero=>simp[dZ]
 |succ n ih=>rw[kY,List.length_append,Nat.succ_mul];have:=GQ (g:=g) (c:=c) (ls:=ls) (sum:=sum) (s:=s) (k:=k) (i:=n) (t:=c.toNat);omega
theorem Ul {g:Nat} {c:Int} {ls:List (List Int)} {sum:Int} {s:St}:∀(m:Nat),(fP g c ls sum s m).length≤m*(c.toNat*c.toNat):=by
 intro n
 induction n with
 |zero=>simp[fP]
 |succ n ih=>rw[kX,List.length_append,Nat.succ_mul];have:=GR (g:=g) (c:=c) (ls:=ls) (sum:=sum) (s:=s) (k:=frG g+(n:Int)) c.toNat;omega
noncomputable def adP:CPT:=aA 64 (aB NT) (aA 75 (aB GN) noC)
theorem dI:aW Tryz.prog adP:=ak (au Zd) (ak (au Uj) aD)
theorem QO (c:Int) (ls:List (List Int)) (sum:Int) (gv:List Int) (s:St) (hL:bK ls) (h:bI c ls sum s) (g:Nat) (hg:1≤g∧g≤5):
 aF Tryz.prog 71 [pzV c ls sum gv,stV s,.str (nmG g)] (.isl (dlC (iQ g s sum ls)) .none):=by
 have hc:=h.c1
 have hcl:=h.cl
 have hll:=h.ll
 rw[←Zf hg h]
 have te40s:LM.size=4:=by rfl
 have hbd:∀m,m≤128→(fP g c ls sum s m).length≤32768:=fun m hm=>Nat.le_trans (Ul m) (by
  have h1:c.toNat*c.toNat≤16*16:=Nat.mul_le_mul (by omega) (by omega)
  exact Nat.le_trans (Nat.mul_le_mul hm h1) (by decide))
 have hbl:∀k n,n≤16→(dZ g c ls sum s k n).length≤256:=fun k n hn=>Nat.le_trans (GR n) (Nat.le_trans (Nat.mul_le_mul hn (show c.toNat≤16 by omega)) (by decide))
 have hbc:∀k i t,t≤16→(dM g c ls sum s k i t).length≤16:=fun k i t ht=>Nat.le_trans GQ ht
 obtain rfl|rfl|rfl|rfl|rfl:g=1∨g=2∨g=3∨g=4∨g=5:=by omega
 ·skip
  rw[show mG 1 ls=ls.length from rfl]
  refine av (md:=1) (rf:=[]) mixed aj dI Tryz.func71 (by rfl) (by rfl) (by rfl) ?_
  repeat'((conv=>whnf);first|(intro hq;(try simp only[vw]at hq);try first|exact absurd hq (by decide)|exfalso;omega)|apply aI|with_reducible exact vM rfl|exact⟨⟩|apply nM|apply fM)
  all_goals((try apply vM);(try simp only[vq]at*);try omega)
  conv=>whnf
  refine aJ (X:=Nat) (fun j=>j≤ls.length) (fun j=>[(10,.int .i64 ((0:Int)+(j:Int))),(7,.isl (.recs 4 ((fP 1 c ls sum s j).map ddC)) (.own 5))]) (fun j=>[(5,.tok 4 (fP 1 c ls sum s j).length)]) (fun j=>ls.length-j) 0 ⟨aG,mixed,aj,dI,aN⟩ (by rfl) (by omega) ?_ ?_
  ·repeat'((conv=>whnf);first|intro _|apply aI|with_reducible exact vM rfl|exact⟨⟩|apply nM|apply fM)
   all_goals((try apply vM);(try simp only[vq]at*);try omega)
  intro j hj
  have hbj:=hbd j (by omega)
  by_cases hlt:j<ls.length
  case neg=>
   have e:j=ls.length:=by omega
   subst e
   repeat'((conv=>whnf);first|(intro hq;(try simp only[vw]at hq);try first|exact absurd hq (by decide)|exfalso;omega)|apply aI|with_reducible exact vM rfl|exact⟨⟩|apply nM|apply fM)
   all_goals((try apply vM);(try simp only[vq]at*);try omega)
   all_goals(try omega)
   all_goals exact qJ _ _
  have hbj1:=hbd (j+1) (by omega)
  have hsj:=kX (g:=1) (c:=c) (ls:=ls) (sum:=sum) (s:=s) (m:=j)
  rw[show frG 1=(0:Int)from rfl]at hsj
  obtain⟨A,hA⟩:∃A,fP 1 c ls sum s j=A:=⟨_,rfl⟩
  rw[hA]at hbj hsj⊢
  repeat'((conv=>whnf);first|(intro hq;(try simp only[vw]at hq);try first|exact absurd hq (by decide)|exfalso;omega)|apply aI|with_reducible exact vM rfl|exact⟨⟩|apply nM|apply fM)
  all_goals((try apply vM);(try simp only[vq]at*);try omega)
  all_goals(try omega)
  conv=>whnf
  refine aJ (X:=Nat) (fun i=>i≤c.toNat) (fun i=>[(11,.int .i64 (i:Int)),(7,.isl (.recs 4 ((A++dZ 1 c ls sum s ((0:Int)+(j:Int)) i).map ddC)) (.own 5))]) (fun i=>[(5,.tok 4 (A++dZ 1 c ls sum s ((0:Int)+(j:Int)) i).length)]) (fun i=>c.toNat-i) 0 ⟨aG,mixed,aj,dI,aN⟩ (by rfl) (by omega) ?_ ?_
  ·repeat'((conv=>whnf);first|intro _|apply aI|with_reducible exact vM rfl|exact⟨⟩|apply nM|apply fM)
   all_goals((try apply vM);(try simp only[vq]at*);try omega)
   all_goals(try(rw[show dZ 1 c ls sum s ((0:Int)+(j:Int)) 0=[]from rfl,List.append_nil]))
  intro i hi
  have hbi:=hbl ((0:Int)+(j:Int)) i (by omega)
  by_cases hli:i<c.toNat
  case neg=>
   have e:i=c.toNat:=by omega
   subst e
   repeat'((conv=>whnf);first|(intro hq;(try simp only[vw]at hq);try first|exact absurd hq (by decide)|exfalso;omega)|apply aI|with_reducible exact vM rfl|exact⟨⟩|apply nM|apply fM)
   all_goals((try apply vM);(try simp only[vq]at*);try omega)
   all_goals(try omega)
   refine⟨j+1,[],⟨by omega,by omega⟩,?_⟩
   rw[hsj]
   repeat'((conv=>whnf);first|intro _|apply aI|with_reducible exact vM rfl|exact⟨⟩|apply nM|apply fM)
   all_goals((try apply vM);(try simp only[vq]at*);try omega)
  have hsi:=kY (g:=1) (c:=c) (ls:=ls) (sum:=sum) (s:=s) (k:=(0:Int)+(j:Int)) (i:=i)
  obtain⟨R,hR⟩:∃R,dZ 1 c ls sum s ((0:Int)+(j:Int)) i=R:=⟨_,rfl⟩
  rw[hR]at hbi hsi⊢
  repeat'((conv=>whnf);first|(intro hq;(try simp only[vw]at hq);try first|exact absurd hq (by decide)|exfalso;omega)|apply aI|with_reducible exact vM rfl|exact⟨⟩|apply nM|apply fM)
  all_goals((try apply vM);(try simp only[vq]at*);try omega)
  all_goals(try omega)
  conv=>whnf
  refine aJ (X:=Nat) (fun t=>t≤c.toNat) (fun t=>[(12,.int .i64 ((t:Int)+1)),(7,.isl (.recs 4 ((A++R++dM 1 c ls sum s ((0:Int)+(j:Int)) i t).map ddC)) (.own 5))]) (fun t=>[(5,.tok 4 (A++R++dM 1 c ls sum s ((0:Int)+(j:Int)) i t).length)]) (fun t=>c.toNat-t) 0 ⟨aG,mixed,aj,dI,aN⟩ (by rfl) (by omega) ?_ ?_
  ·repeat'((conv=>whnf);first|intro _|apply aI|with_reducible exact vM rfl|exact⟨⟩|apply nM|apply fM)
   all_goals((try apply vM);(try simp only[vq]at*);try omega)
   all_goals(try(rw[show dM 1 c ls sum s ((0:Int)+(j:Int)) i 0=[]from rfl,List.append_nil]))
  intro t ht
  have hbt:=hbc ((0:Int)+(j:Int)) i t (by omega)
  by_cases hlt:t<c.toNat
  case neg=>
   have e:t=c.toNat:=by omega
   subst e
   repeat'((conv=>whnf);first|(intro hq;(try simp only[vw]at hq);try first|exact absurd hq (by decide)|exfalso;omega)|apply aI|with_reducible exact vM rfl|exact⟨⟩|apply nM|apply fM)
   all_goals((try apply vM);(try simp only[vq]at*);try omega)
   all_goals(try omega)
   refine⟨i+1,[],⟨by omega,by omega⟩,?_⟩
   rw[hsi,←List.append_assoc]
   repeat'((conv=>whnf);first|intro _|apply aI|with_reducible exact vM rfl|exact⟨⟩|apply nM|apply fM)
   all_goals((try apply vM);(try simp only[vq]at*);try omega)
  have hst:=nD (g:=1) (c:=c) (ls:=ls) (sum:=sum) (s:=s) (k:=(0:Int)+(j:Int)) (i:=i) (t:=t)
  have hlen:(A++R++dM 1 c ls sum s ((0:Int)+(j:Int)) i t).length≤40000:=by rw[List.length_append,List.length_append];omega
  obtain⟨C,hC⟩:∃C,dM 1 c ls sum s ((0:Int)+(j:Int)) i t=C:=⟨_,rfl⟩
  rw[hC]at hst hlen⊢
  have hgg:(aU (nmG 1)).toNat=1:=by rw[jr.1];rfl
  repeat'((conv=>whnf);first|(intro hq;(try simp only[vw]at hq);try first|exact absurd hq (by decide)|exfalso;omega)|apply aI|with_reducible exact vM rfl|exact⟨⟩|apply nM|apply fM)
  all_goals((try apply vM);(try simp only[vq]at*);try omega)
  all_goals(try omega)
  ·exact⟨h,mq.of hq⟩
  ·exact(List.length_map ..).symm
  ·rw[te40s];rfl
  ·rw[List.length_append,List.length_map,te40s]
   show(A++R++C).length+1≤_
   omega
  ·rename_i hd
   have hk1:okX 1 c ls sum s ((0:Int)+(j:Int)) i ((t:Int)+1)=true:=by
    unfold okX
    rw[decide_eq_true hd,Bool.true_and,←hq,hgg]
   refine⟨t+1,[],⟨by omega,by omega⟩,?_⟩
   rw[hst,if_pos hk1,←List.append_assoc,List.map_append,List.length_append]
   repeat'((conv=>whnf);first|intro _|apply aI|with_reducible exact vM rfl|exact⟨⟩|apply nM|apply fM)
   all_goals((try apply vM);(try simp only[vq]at*);try omega)
   all_goals(rw[te40s];refine congrArg (CL.recs 4) ?_;rw[List.map_append (l₁:=A++R++C)];rfl)
  ·rename_i hd
   have hk1:okX 1 c ls sum s ((0:Int)+(j:Int)) i ((t:Int)+1)=false:=by
    unfold okX
    rw[decide_eq_true hd,Bool.true_and,←hq,hgg]
   refine⟨t+1,[],⟨by omega,by omega⟩,?_⟩
   rw[hst,hk1,if_neg (by simp),List.append_nil]
   repeat'((conv=>whnf);first|intro _|apply aI|with_reducible exact vM rfl|exact⟨⟩|apply nM|apply fM)
   all_goals((try apply vM);(try simp only[vq]at*);try omega)
  ·have hk1:okX 1 c ls sum s ((0:Int)+(j:Int)) i ((t:Int)+1)=false:=by
    unfold okX
    rw[decide_eq_false hq,Bool.false_and]
   refine⟨t+1,[],⟨by omega,by omega⟩,?_⟩
   rw[hst,hk1,if_neg (by simp),List.append_nil]
   repeat'((conv=>whnf);first|intro _|apply aI|with_reducible exact vM rfl|exact⟨⟩|apply nM|apply fM)
   all_goals((try apply vM);(try simp only[vq]at*);try omega)
 ·skip
  rw[show mG 2 ls=1 from rfl]
  refine av (md:=1) (rf:=[]) mixed aj dI Tryz.func71 (by rfl) (by rfl) (by rfl) ?_
  repeat'((conv=>whnf);first|(intro hq;(try simp only[vw]at hq);try first|exact absurd hq (by decide)|exfalso;omega)|apply aI|with_reducible exact vM rfl|exact⟨⟩|apply nM|apply fM)
  all_goals((try apply vM);(try simp only[vq]at*);try omega)
  conv=>whnf
  refine aJ (X:=Nat) (fun j=>j≤1) (fun j=>[(10,.int .i64 ((-1:Int)+(j:Int))),(7,.isl (.recs 4 ((fP 2 c ls sum s j).map ddC)) (.own 5))]) (fun j=>[(5,.tok 4 (fP 2 c ls sum s j).length)]) (fun j=>1-j) 0 ⟨aG,mixed,aj,dI,aN⟩ (by rfl) (by omega) ?_ ?_
  ·repeat'((conv=>whnf);first|intro _|apply aI|with_reducible exact vM rfl|exact⟨⟩|apply nM|apply fM)
   all_goals((try apply vM);(try simp only[vq]at*);try omega)
  intro j hj
  have hbj:=hbd j (by omega)
  by_cases hlt:j<1
  case neg=>
   have e:j=1:=by omega
   subst e
   repeat'((conv=>whnf);first|(intro hq;(try simp only[vw]at hq);try first|exact absurd hq (by decide)|exfalso;omega)|apply aI|with_reducible exact vM rfl|exact⟨⟩|apply nM|apply fM)
   all_goals((try apply vM);(try simp only[vq]at*);try omega)
   all_goals(try omega)
   all_goals exact qJ _ _
  have hbj1:=hbd (j+1) (by omega)
  have hsj:=kX (g:=2) (c:=c) (ls:=ls) (sum:=sum) (s:=s) (m:=j)
  rw[show frG 2=(-1:Int)from rfl]at hsj
  obtain⟨A,hA⟩:∃A,fP 2 c ls sum s j=A:=⟨_,rfl⟩
  rw[hA]at hbj hsj⊢
  repeat'((conv=>whnf);first|(intro hq;(try simp only[vw]at hq);try first|exact absurd hq (by decide)|exfalso;omega)|apply aI|with_reducible exact vM rfl|exact⟨⟩|apply nM|apply fM)
  all_goals((try apply vM);(try simp only[vq]at*);try omega)
  all_goals(try omega)
  conv=>whnf
  refine aJ (X:=Nat) (fun i=>i≤c.toNat) (fun i=>[(11,.int .i64 (i:Int)),(7,.isl (.recs 4 ((A++dZ 2 c ls sum s ((-1:Int)+(j:Int)) i).map ddC)) (.own 5))]) (fun i=>[(5,.tok 4 (A++dZ 2 c ls sum s ((-1:Int)+(j:Int)) i).length)]) (fun i=>c.toNat-i) 0 ⟨aG,mixed,aj,dI,aN⟩ (by rfl) (by omega) ?_ ?_
  ·repeat'((conv=>whnf);first|intro _|apply aI|with_reducible exact vM rfl|exact⟨⟩|apply nM|apply fM)
   all_goals((try apply vM);(try simp only[vq]at*);try omega)
   all_goals(try(rw[show dZ 2 c ls sum s ((-1:Int)+(j:Int)) 0=[]from rfl,List.append_nil]))
  intro i hi
  have hbi:=hbl ((-1:Int)+(j:Int)) i (by omega)
  by_cases hli:i<c.toNat
  case neg=>
   have e:i=c.toNat:=by omega
   subst e
   repeat'((conv=>whnf);first|(intro hq;(try simp only[vw]at hq);try first|exact absurd hq (by decide)|exfalso;omega)|apply aI|with_reducible exact vM rfl|exact⟨⟩|apply nM|apply fM)
   all_goals((try apply vM);(try simp only[vq]at*);try omega)
   all_goals(try omega)
   refine⟨j+1,[],⟨by omega,by omega⟩,?_⟩
   rw[hsj]
   repeat'((conv=>whnf);first|intro _|apply aI|with_reducible exact vM rfl|exact⟨⟩|apply nM|apply fM)
   all_goals((try apply vM);(try simp only[vq]at*);try omega)
  have hsi:=kY (g:=2) (c:=c) (ls:=ls) (sum:=sum) (s:=s) (k:=(-1:Int)+(j:Int)) (i:=i)
  obtain⟨R,hR⟩:∃R,dZ 2 c ls sum s ((-1:Int)+(j:Int)) i=R:=⟨_,rfl⟩
  rw[hR]at hbi hsi⊢
  repeat'((conv=>whnf);first|(intro hq;(try simp only[vw]at hq);try first|exact absurd hq (by decide)|exfalso;omega)|apply aI|with_reducible exact vM rfl|exact⟨⟩|apply nM|apply fM)
  all_goals((try apply vM);(try simp only[vq]at*);try omega)
  all_goals(try omega)
  conv=>whnf
  refine aJ (X:=Nat) (fun t=>t≤c.toNat) (fun t=>[(12,.int .i64 ((t:Int)+1)),(7,.isl (.recs 4 ((A++R++dM 2 c ls sum s ((-1:Int)+(j:Int)) i t).map ddC)) (.own 5))]) (fun t=>[(5,.tok 4 (A++R++dM 2 c ls sum s ((-1:Int)+(j:Int)) i t).length)]) (fun t=>c.toNat-t) 0 ⟨aG,mixed,aj,dI,aN⟩ (by rfl) (by omega) ?_ ?_
  ·repeat'((conv=>whnf);first|intro _|apply aI|with_reducible exact vM rfl|exact⟨⟩|apply nM|apply fM)
   all_goals((try apply vM);(try simp only[vq]at*);try omega)
   all_goals(try(rw[show dM 2 c ls sum s ((-1:Int)+(j:Int)) i 0=[]from rfl,List.append_nil]))
  intro t ht
  have hbt:=hbc ((-1:Int)+(j:Int)) i t (by omega)
  by_cases hlt:t<c.toNat
  case neg=>
   have e:t=c.toNat:=by omega
   subst e
   repeat'((conv=>whnf);first|(intro hq;(try simp only[vw]at hq);try first|exact absurd hq (by decide)|exfalso;omega)|apply aI|with_reducible exact vM rfl|exact⟨⟩|apply nM|apply fM)
   all_goals((try apply vM);(try simp only[vq]at*);try omega)
   all_goals(try omega)
   refine⟨i+1,[],⟨by omega,by omega⟩,?_⟩
   rw[hsi,←List.append_assoc]
   repeat'((conv=>whnf);first|intro _|apply aI|with_reducible exact vM rfl|exact⟨⟩|apply nM|apply fM)
   all_goals((try apply vM);(try simp only[vq]at*);try omega)
  have hst:=nD (g:=2) (c:=c) (ls:=ls) (sum:=sum) (s:=s) (k:=(-1:Int)+(j:Int)) (i:=i) (t:=t)
  have hlen:(A++R++dM 2 c ls sum s ((-1:Int)+(j:Int)) i t).length≤40000:=by rw[List.length_append,List.length_append];omega
  obtain⟨C,hC⟩:∃C,dM 2 c ls sum s ((-1:Int)+(j:Int)) i t=C:=⟨_,rfl⟩
  rw[hC]at hst hlen⊢
  have hgg:(aU (nmG 2)).toNat=2:=by rw[jr.2.1];rfl
  repeat'((conv=>whnf);first|(intro hq;(try simp only[vw]at hq);try first|exact absurd hq (by decide)|exfalso;omega)|apply aI|with_reducible exact vM rfl|exact⟨⟩|apply nM|apply fM)
  all_goals((try apply vM);(try simp only[vq]at*);try omega)
  all_goals(try omega)
  ·exact⟨h,mq.of hq⟩
  ·exact(List.length_map ..).symm
  ·rw[te40s];rfl
  ·rw[List.length_append,List.length_map,te40s]
   show(A++R++C).length+1≤_
   omega
  ·rename_i hd
   have hk1:okX 2 c ls sum s ((-1:Int)+(j:Int)) i ((t:Int)+1)=true:=by
    unfold okX
    rw[decide_eq_true hd,Bool.true_and,←hq,hgg]
   refine⟨t+1,[],⟨by omega,by omega⟩,?_⟩
   rw[hst,if_pos hk1,←List.append_assoc,List.map_append,List.length_append]
   repeat'((conv=>whnf);first|intro _|apply aI|with_reducible exact vM rfl|exact⟨⟩|apply nM|apply fM)
   all_goals((try apply vM);(try simp only[vq]at*);try omega)
   all_goals(rw[te40s];refine congrArg (CL.recs 4) ?_;rw[List.map_append (l₁:=A++R++C)];rfl)
  ·rename_i hd
   have hk1:okX 2 c ls sum s ((-1:Int)+(j:Int)) i ((t:Int)+1)=false:=by
    unfold okX
    rw[decide_eq_true hd,Bool.true_and,←hq,hgg]
   refine⟨t+1,[],⟨by omega,by omega⟩,?_⟩
   rw[hst,hk1,if_neg (by simp),List.append_nil]
   repeat'((conv=>whnf);first|intro _|apply aI|with_reducible exact vM rfl|exact⟨⟩|apply nM|apply fM)
   all_goals((try apply vM);(try simp only[vq]at*);try omega)
  ·have hk1:okX 2 c ls sum s ((-1:Int)+(j:Int)) i ((t:Int)+1)=false:=by
    unfold okX
    rw[decide_eq_false hq,Bool.false_and]
   refine⟨t+1,[],⟨by omega,by omega⟩,?_⟩
   rw[hst,hk1,if_neg (by simp),List.append_nil]
   repeat'((conv=>whnf);first|intro _|apply aI|with_reducible exact vM rfl|exact⟨⟩|apply nM|apply fM)
   all_goals((try apply vM);(try simp only[vq]at*);try omega)
 ·skip
  rw[show mG 3 ls=1 from rfl]
  refine av (md:=1) (rf:=[]) mixed aj dI Tryz.func71 (by rfl) (by rfl) (by rfl) ?_
  repeat'((conv=>whnf);first|(intro hq;(try simp only[vw]at hq);try first|exact absurd hq (by decide)|exfalso;omega)|apply aI|with_reducible exact vM rfl|exact⟨⟩|apply nM|apply fM)
  all_goals((try apply vM);(try simp only[vq]at*);try omega)
  conv=>whnf
  refine aJ (X:=Nat) (fun j=>j≤1) (fun j=>[(10,.int .i64 ((-1:Int)+(j:Int))),(7,.isl (.recs 4 ((fP 3 c ls sum s j).map ddC)) (.own 5))]) (fun j=>[(5,.tok 4 (fP 3 c ls sum s j).length)]) (fun j=>1-j) 0 ⟨aG,mixed,aj,dI,aN⟩ (by rfl) (by omega) ?_ ?_
  ·repeat'((conv=>whnf);first|intro _|apply aI|with_reducible exact vM rfl|exact⟨⟩|apply nM|apply fM)
   all_goals((try apply vM);(try simp only[vq]at*);try omega)
  intro j hj
  have hbj:=hbd j (by omega)
  by_cases hlt:j<1
  case neg=>
   have e:j=1:=by omega
   subst e
   repeat'((conv=>whnf);first|(intro hq;(try simp only[vw]at hq);try first|exact absurd hq (by decide)|exfalso;omega)|apply aI|with_reducible exact vM rfl|exact⟨⟩|apply nM|apply fM)
   all_goals((try apply vM);(try simp only[vq]at*);try omega)
   all_goals(try omega)
   all_goals exact qJ _ _
  have hbj1:=hbd (j+1) (by omega)
  have hsj:=kX (g:=3) (c:=c) (ls:=ls) (sum:=sum) (s:=s) (m:=j)
  rw[show frG 3=(-1:Int)from rfl]at hsj
  obtain⟨A,hA⟩:∃A,fP 3 c ls sum s j=A:=⟨_,rfl⟩
  rw[hA]at hbj hsj⊢
  repeat'((conv=>whnf);first|(intro hq;(try simp only[vw]at hq);try first|exact absurd hq (by decide)|exfalso;omega)|apply aI|with_reducible exact vM rfl|exact⟨⟩|apply nM|apply fM)
  all_goals((try apply vM);(try simp only[vq]at*);try omega)
  all_goals(try omega)
  conv=>whnf
  refine aJ (X:=Nat) (fun i=>i≤c.toNat) (fun i=>[(11,.int .i64 (i:Int)),(7,.isl (.recs 4 ((A++dZ 3 c ls sum s ((-1:Int)+(j:Int)) i).map ddC)) (.own 5))]) (fun i=>[(5,.tok 4 (A++dZ 3 c ls sum s ((-1:Int)+(j:Int)) i).length)]) (fun i=>c.toNat-i) 0 ⟨aG,mixed,aj,dI,aN⟩ (by rfl) (by omega) ?_ ?_
  ·repeat'((conv=>whnf);first|intro _|apply aI|with_reducible exact vM rfl|exact⟨⟩|apply nM|apply fM)
   all_goals((try apply vM);(try simp only[vq]at*);try omega)
   all_goals(try(rw[show dZ 3 c ls sum s ((-1:Int)+(j:Int)) 0=[]from rfl,List.append_nil]))
  intro i hi
  have hbi:=hbl ((-1:Int)+(j:Int)) i (by omega)
  by_cases hli:i<c.toNat
  case neg=>
   have e:i=c.toNat:=by omega
   subst e
   repeat'((conv=>whnf);first|(intro hq;(try simp only[vw]at hq);try first|exact absurd hq (by decide)|exfalso;omega)|apply aI|with_reducible exact vM rfl|exact⟨⟩|apply nM|apply fM)
   all_goals((try apply vM);(try simp only[vq]at*);try omega)
   all_goals(try omega)
   refine⟨j+1,[],⟨by omega,by omega⟩,?_⟩
   rw[hsj]
   repeat'((conv=>whnf);first|intro _|apply aI|with_reducible exact vM rfl|exact⟨⟩|apply nM|apply fM)
   all_goals((try apply vM);(try simp only[vq]at*);try omega)
  have hsi:=kY (g:=3) (c:=c) (ls:=ls) (sum:=sum) (s:=s) (k:=(-1:Int)+(j:Int)) (i:=i)
  obtain⟨R,hR⟩:∃R,dZ 3 c ls sum s ((-1:Int)+(j:Int)) i=R:=⟨_,rfl⟩
  rw[hR]at hbi hsi⊢
  repeat'((conv=>whnf);first|(intro hq;(try simp only[vw]at hq);try first|exact absurd hq (by decide)|exfalso;omega)|apply aI|with_reducible exact vM rfl|exact⟨⟩|apply nM|apply fM)
  all_goals((try apply vM);(try simp only[vq]at*);try omega)
  all_goals(try omega)
  conv=>whnf
  refine aJ (X:=Nat) (fun t=>t≤c.toNat) (fun t=>[(12,.int .i64 ((t:Int)+1)),(7,.isl (.recs 4 ((A++R++dM 3 c ls sum s ((-1:Int)+(j:Int)) i t).map ddC)) (.own 5))]) (fun t=>[(5,.tok 4 (A++R++dM 3 c ls sum s ((-1:Int)+(j:Int)) i t).length)]) (fun t=>c.toNat-t) 0 ⟨aG,mixed,aj,dI,aN⟩ (by rfl) (by omega) ?_ ?_
  ·repeat'((conv=>whnf);first|intro _|apply aI|with_reducible exact vM rfl|exact⟨⟩|apply nM|apply fM)
   all_goals((try apply vM);(try simp only[vq]at*);try omega)
   all_goals(try(rw[show dM 3 c ls sum s ((-1:Int)+(j:Int)) i 0=[]from rfl,List.append_nil]))
  intro t ht
  have hbt:=hbc ((-1:Int)+(j:Int)) i t (by omega)
  by_cases hlt:t<c.toNat
  case neg=>
   have e:t=c.toNat:=by omega
   subst e
   repeat'((conv=>whnf);first|(intro hq;(try simp only[vw]at hq);try first|exact absurd hq (by decide)|exfalso;omega)|apply aI|with_reducible exact vM rfl|exact⟨⟩|apply nM|apply fM)
   all_goals((try apply vM);(try simp only[vq]at*);try omega)
   all_goals(try omega)
   refine⟨i+1,[],⟨by omega,by omega⟩,?_⟩
   rw[hsi,←List.append_assoc]
   repeat'((conv=>whnf);first|intro _|apply aI|with_reducible exact vM rfl|exact⟨⟩|apply nM|apply fM)
   all_goals((try apply vM);(try simp only[vq]at*);try omega)
  have hst:=nD (g:=3) (c:=c) (ls:=ls) (sum:=sum) (s:=s) (k:=(-1:Int)+(j:Int)) (i:=i) (t:=t)
  have hlen:(A++R++dM 3 c ls sum s ((-1:Int)+(j:Int)) i t).length≤40000:=by rw[List.length_append,List.length_append];omega
  obtain⟨C,hC⟩:∃C,dM 3 c ls sum s ((-1:Int)+(j:Int)) i t=C:=⟨_,rfl⟩
  rw[hC]at hst hlen⊢
  have hgg:(aU (nmG 3)).toNat=3:=by rw[jr.2.2.1];rfl
  repeat'((conv=>whnf);first|(intro hq;(try simp only[vw]at hq);try first|exact absurd hq (by decide)|exfalso;omega)|apply aI|with_reducible exact vM rfl|exact⟨⟩|apply nM|apply fM)
  all_goals((try apply vM);(try simp only[vq]at*);try omega)
  all_goals(try omega)
  ·exact⟨h,mq.of hq⟩
  ·exact(List.length_map ..).symm
  ·rw[te40s];rfl
  ·rw[List.length_append,List.length_map,te40s]
   show(A++R++C).length+1≤_
   omega
  ·rename_i hd
   have hk1:okX 3 c ls sum s ((-1:Int)+(j:Int)) i ((t:Int)+1)=true:=by
    unfold okX
    rw[decide_eq_true hd,Bool.true_and,←hq,hgg]
   refine⟨t+1,[],⟨by omega,by omega⟩,?_⟩
   rw[hst,if_pos hk1,←List.append_assoc,List.map_append,List.length_append]
   repeat'((conv=>whnf);first|intro _|apply aI|with_reducible exact vM rfl|exact⟨⟩|apply nM|apply fM)
   all_goals((try apply vM);(try simp only[vq]at*);try omega)
   all_goals(rw[te40s];refine congrArg (CL.recs 4) ?_;rw[List.map_append (l₁:=A++R++C)];rfl)
  ·rename_i hd
   have hk1:okX 3 c ls sum s ((-1:Int)+(j:Int)) i ((t:Int)+1)=false:=by
    unfold okX
    rw[decide_eq_true hd,Bool.true_and,←hq,hgg]
   refine⟨t+1,[],⟨by omega,by omega⟩,?_⟩
   rw[hst,hk1,if_neg (by simp),List.append_nil]
   repeat'((conv=>whnf);first|intro _|apply aI|with_reducible exact vM rfl|exact⟨⟩|apply nM|apply fM)
   all_goals((try apply vM);(try simp only[vq]at*);try omega)
  ·have hk1:okX 3 c ls sum s ((-1:Int)+(j:Int)) i ((t:Int)+1)=false:=by
    unfold okX
    rw[decide_eq_false hq,Bool.false_and]
   refine⟨t+1,[],⟨by omega,by omega⟩,?_⟩
   rw[hst,hk1,if_neg (by simp),List.append_nil]
   repeat'((conv=>whnf);first|intro _|apply aI|with_reducible exact vM rfl|exact⟨⟩|apply nM|apply fM)
   all_goals((try apply vM);(try simp only[vq]at*);try omega)
 ·skip
  rw[show mG 4 ls=ls.length from rfl]
  refine av (md:=1) (rf:=[]) mixed aj dI Tryz.func71 (by rfl) (by rfl) (by rfl) ?_
  repeat'((conv=>whnf);first|(intro hq;(try simp only[vw]at hq);try first|exact absurd hq (by decide)|exfalso;omega)|apply aI|with_reducible exact vM rfl|exact⟨⟩|apply nM|apply fM)
  all_goals((try apply vM);(try simp only[vq]at*);try omega)
  conv=>whnf
  refine aJ (X:=Nat) (fun j=>j≤ls.length) (fun j=>[(10,.int .i64 ((0:Int)+(j:Int))),(7,.isl (.recs 4 ((fP 4 c ls sum s j).map ddC)) (.own 5))]) (fun j=>[(5,.tok 4 (fP 4 c ls sum s j).length)]) (fun j=>ls.length-j) 0 ⟨aG,mixed,aj,dI,aN⟩ (by rfl) (by omega) ?_ ?_
  ·repeat'((conv=>whnf);first|intro _|apply aI|with_reducible exact vM rfl|exact⟨⟩|apply nM|apply fM)
   all_goals((try apply vM);(try simp only[vq]at*);try omega)
  intro j hj
  have hbj:=hbd j (by omega)
  by_cases hlt:j<ls.length
  case neg=>
   have e:j=ls.length:=by omega
   subst e
   repeat'((conv=>whnf);first|(intro hq;(try simp only[vw]at hq);try first|exact absurd hq (by decide)|exfalso;omega)|apply aI|with_reducible exact vM rfl|exact⟨⟩|apply nM|apply fM)
   all_goals((try apply vM);(try simp only[vq]at*);try omega)
   all_goals(try omega)
   all_goals exact qJ _ _
  have hbj1:=hbd (j+1) (by omega)
  have hsj:=kX (g:=4) (c:=c) (ls:=ls) (sum:=sum) (s:=s) (m:=j)
  rw[show frG 4=(0:Int)from rfl]at hsj
  obtain⟨A,hA⟩:∃A,fP 4 c ls sum s j=A:=⟨_,rfl⟩
  rw[hA]at hbj hsj⊢
  repeat'((conv=>whnf);first|(intro hq;(try simp only[vw]at hq);try first|exact absurd hq (by decide)|exfalso;omega)|apply aI|with_reducible exact vM rfl|exact⟨⟩|apply nM|apply fM)
  all_goals((try apply vM);(try simp only[vq]at*);try omega)
  all_goals(try omega)
  conv=>whnf
  refine aJ (X:=Nat) (fun i=>i≤c.toNat) (fun i=>[(11,.int .i64 (i:Int)),(7,.isl (.recs 4 ((A++dZ 4 c ls sum s ((0:Int)+(j:Int)) i).map ddC)) (.own 5))]) (fun i=>[(5,.tok 4 (A++dZ 4 c ls sum s ((0:Int)+(j:Int)) i).length)]) (fun i=>c.toNat-i) 0 ⟨aG,mixed,aj,dI,aN⟩ (by rfl) (by omega) ?_ ?_
  ·repeat'((conv=>whnf);first|intro _|apply aI|with_reducible exact vM rfl|exact⟨⟩|apply nM|apply fM)
   all_goals((try apply vM);(try simp only[vq]at*);try omega)
   all_goals(try(rw[show dZ 4 c ls sum s ((0:Int)+(j:Int)) 0=[]from rfl,List.append_nil]))
  intro i hi
  have hbi:=hbl ((0:Int)+(j:Int)) i (by omega)
  by_cases hli:i<c.toNat
  case neg=>
   have e:i=c.toNat:=by omega
   subst e
   repeat'((conv=>whnf);first|(intro hq;(try simp only[vw]at hq);try first|exact absurd hq (by decide)|exfalso;omega)|apply aI|with_reducible exact vM rfl|exact⟨⟩|apply nM|apply fM)
   all_goals((try apply vM);(try simp only[vq]at*);try omega)
   all_goals(try omega)
   refine⟨j+1,[],⟨by omega,by omega⟩,?_⟩
   rw[hsj]
   repeat'((conv=>whnf);first|intro _|apply aI|with_reducible exact vM rfl|exact⟨⟩|apply nM|apply fM)
   all_goals((try apply vM);(try simp only[vq]at*);try omega)
  have hsi:=kY (g:=4) (c:=c) (ls:=ls) (sum:=sum) (s:=s) (k:=(0:Int)+(j:Int)) (i:=i)
  obtain⟨R,hR⟩:∃R,dZ 4 c ls sum s ((0:Int)+(j:Int)) i=R:=⟨_,rfl⟩
  rw[hR]at hbi hsi⊢
  repeat'((conv=>whnf);first|(intro hq;(try simp only[vw]at hq);try first|exact absurd hq (by decide)|exfalso;omega)|apply aI|with_reducible exact vM rfl|exact⟨⟩|apply nM|apply fM)
  all_goals((try apply vM);(try simp only[vq]at*);try omega)
  all_goals(try omega)
  conv=>whnf
  refine aJ (X:=Nat) (fun t=>t≤c.toNat) (fun t=>[(12,.int .i64 ((t:Int)+1)),(7,.isl (.recs 4 ((A++R++dM 4 c ls sum s ((0:Int)+(j:Int)) i t).map ddC)) (.own 5))]) (fun t=>[(5,.tok 4 (A++R++dM 4 c ls sum s ((0:Int)+(j:Int)) i t).length)]) (fun t=>c.toNat-t) 0 ⟨aG,mixed,aj,dI,aN⟩ (by rfl) (by omega) ?_ ?_
  ·repeat'((conv=>whnf);first|intro _|apply aI|with_reducible exact vM rfl|exact⟨⟩|apply nM|apply fM)
   all_goals((try apply vM);(try simp only[vq]at*);try omega)
   all_goals(try(rw[show dM 4 c ls sum s ((0:Int)+(j:Int)) i 0=[]from rfl,List.append_nil]))
  intro t ht
  have hbt:=hbc ((0:Int)+(j:Int)) i t (by omega)
  by_cases hlt:t<c.toNat
  case neg=>
   have e:t=c.toNat:=by omega
   subst e
   repeat'((conv=>whnf);first|(intro hq;(try simp only[vw]at hq);try first|exact absurd hq (by decide)|exfalso;omega)|apply aI|with_reducible exact vM rfl|exact⟨⟩|apply nM|apply fM)
   all_goals((try apply vM);(try simp only[vq]at*);try omega)
   all_goals(try omega)
   refine⟨i+1,[],⟨by omega,by omega⟩,?_⟩
   rw[hsi,←List.append_assoc]
   repeat'((conv=>whnf);first|intro _|apply aI|with_reducible exact vM rfl|exact⟨⟩|apply nM|apply fM)
   all_goals((try apply vM);(try simp only[vq]at*);try omega)
  have hst:=nD (g:=4) (c:=c) (ls:=ls) (sum:=sum) (s:=s) (k:=(0:Int)+(j:Int)) (i:=i) (t:=t)
  have hlen:(A++R++dM 4 c ls sum s ((0:Int)+(j:Int)) i t).length≤40000:=by rw[List.length_append,List.length_append];omega
  obtain⟨C,hC⟩:∃C,dM 4 c ls sum s ((0:Int)+(j:Int)) i t=C:=⟨_,rfl⟩
  rw[hC]at hst hlen⊢
  have hgg:(aU (nmG 4)).toNat=4:=by rw[jr.2.2.2.1];rfl
  repeat'((conv=>whnf);first|(intro hq;(try simp only[vw]at hq);try first|exact absurd hq (by decide)|exfalso;omega)|apply aI|with_reducible exact vM rfl|exact⟨⟩|apply nM|apply fM)
  all_goals((try apply vM);(try simp only[vq]at*);try omega)
  all_goals(try omega)
  ·exact⟨h,mq.of hq⟩
  ·exact(List.length_map ..).symm
  ·rw[te40s];rfl
  ·rw[List.length_append,List.length_map,te40s]
   show(A++R++C).length+1≤_
   omega
  ·rename_i hd
   have hk1:okX 4 c ls sum s ((0:Int)+(j:Int)) i ((t:Int)+1)=true:=by
    unfold okX
    rw[decide_eq_true hd,Bool.true_and,←hq,hgg]
   refine⟨t+1,[],⟨by omega,by omega⟩,?_⟩
   rw[hst,if_pos hk1,←List.append_assoc,List.map_append,List.length_append]
   repeat'((conv=>whnf);first|intro _|apply aI|with_reducible exact vM rfl|exact⟨⟩|apply nM|apply fM)
   all_goals((try apply vM);(try simp only[vq]at*);try omega)
   all_goals(rw[te40s];refine congrArg (CL.recs 4) ?_;rw[List.map_append (l₁:=A++R++C)];rfl)
  ·rename_i hd
   have hk1:okX 4 c ls sum s ((0:Int)+(j:Int)) i ((t:Int)+1)=false:=by
    unfold okX
    rw[decide_eq_true hd,Bool.true_and,←hq,hgg]
   refine⟨t+1,[],⟨by omega,by omega⟩,?_⟩
   rw[hst,hk1,if_neg (by simp),List.append_nil]
   repeat'((conv=>whnf);first|intro _|apply aI|with_reducible exact vM rfl|exact⟨⟩|apply nM|apply fM)
   all_goals((try apply vM);(try simp only[vq]at*);try omega)
  ·have hk1:okX 4 c ls sum s ((0:Int)+(j:Int)) i ((t:Int)+1)=false:=by
    unfold okX
    rw[decide_eq_false hq,Bool.false_and]
   refine⟨t+1,[],⟨by omega,by omega⟩,?_⟩
   rw[hst,hk1,if_neg (by simp),List.append_nil]
   repeat'((conv=>whnf);first|intro _|apply aI|with_reducible exact vM rfl|exact⟨⟩|apply nM|apply fM)
   all_goals((try apply vM);(try simp only[vq]at*);try omega)
 ·skip
  rw[show mG 5 ls=ls.length from rfl]
  refine av (md:=1) (rf:=[]) mixed aj dI Tryz.func71 (by rfl) (by rfl) (by rfl) ?_
  repeat'((conv=>whnf);first|(intro hq;(try simp only[vw]at hq);try first|exact absurd hq (by decide)|exfalso;omega)|apply aI|with_reducible exact vM rfl|exact⟨⟩|apply nM|apply fM)
  all_goals((try apply vM);(try simp only[vq]at*);try omega)
  conv=>whnf
  refine aJ (X:=Nat) (fun j=>j≤ls.length) (fun j=>[(10,.int .i64 ((0:Int)+(j:Int))),(7,.isl (.recs 4 ((fP 5 c ls sum s j).map ddC)) (.own 5))]) (fun j=>[(5,.tok 4 (fP 5 c ls sum s j).length)]) (fun j=>ls.length-j) 0 ⟨aG,mixed,aj,dI,aN⟩ (by rfl) (by omega) ?_ ?_
  ·repeat'((conv=>whnf);first|intro _|apply aI|with_reducible exact vM rfl|exact⟨⟩|apply nM|apply fM)
   all_goals((try apply vM);(try simp only[vq]at*);try omega)
  intro j hj
  have hbj:=hbd j (by omega)
  by_cases hlt:j<ls.length
  case neg=>
   have e:j=ls.length:=by omega
   subst e
   repeat'((conv=>whnf);first|(intro hq;(try simp only[vw]at hq);try first|exact absurd hq (by decide)|exfalso;omega)|apply aI|with_reducible exact vM rfl|exact⟨⟩|apply nM|apply fM)
   all_goals((try apply vM);(try simp only[vq]at*);try omega)
   all_goals(try omega)
   all_goals exact qJ _ _
  have hbj1:=hbd (j+1) (by omega)
  have hsj:=kX (g:=5) (c:=c) (ls:=ls) (sum:=sum) (s:=s) (m:=j)
  rw[show frG 5=(0:Int)from rfl]at hsj
  obtain⟨A,hA⟩:∃A,fP 5 c ls sum s j=A:=⟨_,rfl⟩
  rw[hA]at hbj hsj⊢
  repeat'((conv=>whnf);first|(intro hq;(try simp only[vw]at hq);try first|exact absurd hq (by decide)|exfalso;omega)|apply aI|with_reducible exact vM rfl|exact⟨⟩|apply nM|apply fM)
  all_goals((try apply vM);(try simp only[vq]at*);try omega)
  all_goals(try omega)
  conv=>whnf
  refine aJ (X:=Nat) (fun i=>i≤c.toNat) (fun i=>[(11,.int .i64 (i:Int)),(7,.isl (.recs 4 ((A++dZ 5 c ls sum s ((0:Int)+(j:Int)) i).map ddC)) (.own 5))]) (fun i=>[(5,.tok 4 (A++dZ 5 c ls sum s ((0:Int)+(j:Int)) i).length)]) (fun i=>c.toNat-i) 0 ⟨aG,mixed,aj,dI,aN⟩ (by rfl) (by omega) ?_ ?_
  ·repeat'((conv=>whnf);first|intro _|apply aI|with_reducible exact vM rfl|exact⟨⟩|apply nM|apply fM)
   all_goals((try apply vM);(try simp only[vq]at*);try omega)
   all_goals(try(rw[show dZ 5 c ls sum s ((0:Int)+(j:Int)) 0=[]from rfl,List.append_nil]))
  intro i hi
  have hbi:=hbl ((0:Int)+(j:Int)) i (by omega)
  by_cases hli:i<c.toNat
  case neg=>
   have e:i=c.toNat:=by omega
   subst e
   repeat'((conv=>whnf);first|(intro hq;(try simp only[vw]at hq);try first|exact absurd hq (by decide)|exfalso;omega)|apply aI|with_reducible exact vM rfl|exact⟨⟩|apply nM|apply fM)
   all_goals((try apply vM);(try simp only[vq]at*);try omega)
   all_goals(try omega)
   refine⟨j+1,[],⟨by omega,by omega⟩,?_⟩
   rw[hsj]
   repeat'((conv=>whnf);first|intro _|apply aI|with_reducible exact vM rfl|exact⟨⟩|apply nM|apply fM)
   all_goals((try apply vM);(try simp only[vq]at*);try omega)
  have hsi:=kY (g:=5) (c:=c) (ls:=ls) (sum:=sum) (s:=s) (k:=(0:Int)+(j:Int)) (i:=i)
  obtain⟨R,hR⟩:∃R,dZ 5 c ls sum s ((0:Int)+(j:Int)) i=R:=⟨_,rfl⟩
  rw[hR]at hbi hsi⊢
  repeat'((conv=>whnf);first|(intro hq;(try simp only[vw]at hq);try first|exact absurd hq (by decide)|exfalso;omega)|apply aI|with_reducible exact vM rfl|exact⟨⟩|apply nM|apply fM)
  all_goals((try apply vM);(try simp only[vq]at*);try omega)
  all_goals(try omega)
  conv=>whnf
  refine aJ (X:=Nat) (fun t=>t≤c.toNat) (fun t=>[(12,.int .i64 ((t:Int)+1)),(7,.isl (.recs 4 ((A++R++dM 5 c ls sum s ((0:Int)+(j:Int)) i t).map ddC)) (.own 5))]) (fun t=>[(5,.tok 4 (A++R++dM 5 c ls sum s ((0:Int)+(j:Int)) i t).length)]) (fun t=>c.toNat-t) 0 ⟨aG,mixed,aj,dI,aN⟩ (by rfl) (by omega) ?_ ?_
  ·repeat'((conv=>whnf);first|intro _|apply aI|with_reducible exact vM rfl|exact⟨⟩|apply nM|apply fM)
   all_goals((try apply vM);(try simp only[vq]at*);try omega)
   all_goals(try(rw[show dM 5 c ls sum s ((0:Int)+(j:Int)) i 0=[]from rfl,List.append_nil]))
  intro t ht
  have hbt:=hbc ((0:Int)+(j:Int)) i t (by omega)
  by_cases hlt:t<c.toNat
  case neg=>
   have e:t=c.toNat:=by omega
   subst e
   repeat'((conv=>whnf);first|(intro hq;(try simp only[vw]at hq);try first|exact absurd hq (by decide)|exfalso;omega)|apply aI|with_reducible exact vM rfl|exact⟨⟩|apply nM|apply fM)
   all_goals((try apply vM);(try simp only[vq]at*);try omega)
   all_goals(try omega)
   refine⟨i+1,[],⟨by omega,by omega⟩,?_⟩
   rw[hsi,←List.append_assoc]
   repeat'((conv=>whnf);first|intro _|apply aI|with_reducible exact vM rfl|exact⟨⟩|apply nM|apply fM)
   all_goals((try apply vM);(try simp only[vq]at*);try omega)
  have hst:=nD (g:=5) (c:=c) (ls:=ls) (sum:=sum) (s:=s) (k:=(0:Int)+(j:Int)) (i:=i) (t:=t)
  have hlen:(A++R++dM 5 c ls sum s ((0:Int)+(j:Int)) i t).length≤40000:=by rw[List.length_append,List.length_append];omega
  obtain⟨C,hC⟩:∃C,dM 5 c ls sum s ((0:Int)+(j:Int)) i t=C:=⟨_,rfl⟩
  rw[hC]at hst hlen⊢
  have hgg:(aU (nmG 5)).toNat=5:=by rw[jr.2.2.2.2];rfl
  repeat'((conv=>whnf);first|(intro hq;(try simp only[vw]at hq);try first|exact absurd hq (by decide)|exfalso;omega)|apply aI|with_reducible exact vM rfl|exact⟨⟩|apply nM|apply fM)
  all_goals((try apply vM);(try simp only[vq]at*);try omega)
  all_goals(try omega)
  ·exact⟨h,mq.of hq⟩
  ·exact(List.length_map ..).symm
  ·rw[te40s];rfl
  ·rw[List.length_append,List.length_map,te40s]
   show(A++R++C).length+1≤_
   omega
  ·rename_i hd
   have hk1:okX 5 c ls sum s ((0:Int)+(j:Int)) i ((t:Int)+1)=true:=by
    unfold okX
    rw[decide_eq_true hd,Bool.true_and,←hq,hgg]
   refine⟨t+1,[],⟨by omega,by omega⟩,?_⟩
   rw[hst,if_pos hk1,←List.append_assoc,List.map_append,List.length_append]
   repeat'((conv=>whnf);first|intro _|apply aI|with_reducible exact vM rfl|exact⟨⟩|apply nM|apply fM)
   all_goals((try apply vM);(try simp only[vq]at*);try omega)
   all_goals(rw[te40s];refine congrArg (CL.recs 4) ?_;rw[List.map_append (l₁:=A++R++C)];rfl)
  ·rename_i hd
   have hk1:okX 5 c ls sum s ((0:Int)+(j:Int)) i ((t:Int)+1)=false:=by
    unfold okX
    rw[decide_eq_true hd,Bool.true_and,←hq,hgg]
   refine⟨t+1,[],⟨by omega,by omega⟩,?_⟩
   rw[hst,hk1,if_neg (by simp),List.append_nil]
   repeat'((conv=>whnf);first|intro _|apply aI|with_reducible exact vM rfl|exact⟨⟩|apply nM|apply fM)
   all_goals((try apply vM);(try simp only[vq]at*);try omega)
  ·have hk1:okX 5 c ls sum s ((0:Int)+(j:Int)) i ((t:Int)+1)=false:=by
    unfold okX
    rw[decide_eq_false hq,Bool.false_and]
   refine⟨t+1,[],⟨by omega,by omega⟩,?_⟩
   rw[hst,hk1,if_neg (by simp),List.append_nil]
   repeat'((conv=>whnf);first|intro _|apply aI|with_reducible exact vM rfl|exact⟨⟩|apply nM|apply fM)
   all_goals((try apply vM);(try simp only[vq]at*);try omega)
def NW:PSp:=fun xs K=>match xs with
 | [.agg [.int .i64 c,.isl (.rows .i64 ls) .none,.int .i64 sum,.isl (.ints .i64 gv) .none],.agg [.isl (.rows .i64 CS) .none,.isl (.bools DS) .none],.str r]=>
  ∃(g:Nat) (l:List Dd),VC (r=nmG g∧(1≤g∧g≤5)∧bK ls∧bI c ls sum ⟨CS,DS⟩∧iQ g ⟨CS,DS⟩ sum ls=l)∧K (.isl (dlC l) .none)
 |_=>False
theorem Zg:POK Tryz.prog 71 NW:=by
 intro xs K hk
 unfold NW at hk
 split at hk
 ·obtain⟨g,l,⟨rfl,hg,hL,h,rfl⟩,hk⟩:=hk
  exact⟨_,hk,QO _ _ _ _ ⟨_,_⟩ hL h g hg⟩
 ·exact hk.elim
noncomputable def adQ:CPT:=aA 71 (aB NW) (aA 77 (aB Bl) noC)
theorem Kc:aW Tryz.prog adQ:=ak (au Zg) (ak (au QL) aD)
theorem IV (c:Int) (ls:List (List Int)) (sum:Int) (gv:List Int) (s:St) (hL:bK ls) (h:bI c ls sum s) (n:Nat) (hn:n≤5):aF Tryz.prog 28 [pzV c ls sum gv,stV s,.int .i64 (n:Int)] (Na (fZ s sum ls n)):=by
 have te40s:LM.size=4:=by rfl
 refine av (md:=1) (rf:=[]) mixed aj Kc Tryz.func28 (by rfl) (by rfl) (by rfl) ?_
 repeat'((conv=>whnf);first|(intro hq;(try simp only[vw]at hq);try first|exact absurd hq (by decide)|exfalso;omega)|apply aI|with_reducible exact vM rfl|exact⟨⟩|apply nM|apply fM)
 all_goals((try apply vM);(try simp only[vq]at*);try omega)
 conv=>whnf
 refine aJ (X:=Nat) (fun i=>i≤n∧fZ s sum ls i=none) (fun i=>[(8,.int .i64 ((i:Int)+1))]) (fun i=>[]) (fun i=>n-i) 0 ⟨aG,mixed,aj,Kc,aN⟩ (by rfl) ⟨by omega,rfl⟩ ?_ ?_
 ·repeat'((conv=>whnf);first|intro _|apply aI|with_reducible exact vM rfl|exact⟨⟩|apply nM|apply fM)
  all_goals((try apply vM);(try simp only[vq]at*);try omega)
 intro i ⟨hi,hok⟩
 by_cases hlt:i<n
 ·obtain⟨i1,hi1⟩:∃i1:Nat,i1=i+1:=⟨_,rfl⟩
  have hgi:((i:Int)+1).toNat=i1:=by omega
  have hup:=fun d (hd:(iQ (i+1) s sum ls).head? =some d)=>JQ hok hd n (by omega)
  have hno:iQ (i+1) s sum ls=[]→fZ s sum ls (i+1)=none:=fun hA=>by unfold fZ;rw[hok,hA];rfl
  rw[←hi1]at hup hno
  obtain⟨dl,hA⟩:∃dl,iQ i1 s sum ls=dl:=⟨_,rfl⟩
  rw[hA]at hup hno
  repeat'((conv=>whnf);first|apply Exists.intro (i1)|apply Exists.intro (dl)|(intro hq;(try simp only[vw]at hq);try first|exact absurd hq (by decide)|exfalso;omega)|apply aI|with_reducible exact vM rfl|exact⟨⟩|apply nM|apply fM)
  all_goals((try apply vM);(try simp only[vq]at*);try omega)
  all_goals(try first|omega|exact⟨by rw[hgi],⟨by omega,by omega⟩,hL,h,hA⟩)
  ·rfl
  ·cases dl with
   |nil=>exact absurd (show(0:Int)<0 from hq) (by decide)
   |cons d l=>
    rw[hup d rfl]
    exact zw _ _
  ·refine⟨[],⟨⟨by omega,hno (List.eq_nil_of_length_eq_zero (by omega))⟩,by omega⟩,?_⟩
   subst hi1
   repeat'((conv=>whnf);first|intro _|apply aI|with_reducible exact vM rfl|exact⟨⟩|apply nM|apply fM)
   all_goals((try apply vM);(try simp only[vq]at*);try omega)
 ·have:i=n:=by omega
  subst this
  rw[hok]
  repeat'((conv=>whnf);first|(intro hq;(try simp only[vw]at hq);try first|exact absurd hq (by decide)|exfalso;omega)|apply aI|with_reducible exact vM rfl|exact⟨⟩|apply nM|apply fM)
  all_goals((try apply vM);(try simp only[vq]at*);try omega)
  exact zw _ _
theorem NY (s:St) (hs:s.ds.length≤1000000):aF Tryz.prog 27 [stV s] (.bp (don s)):=by
 refine av (md:=1) (rf:=[]) mixed aj aD Tryz.func27 (by rfl) (by rfl) (by rfl) ?_
 repeat'((conv=>whnf);first|intro _|apply aI|with_reducible exact vM rfl|exact⟨⟩|apply nM|apply fM)
 all_goals((try apply vM);(try simp only[vq]at*);try omega)
 conv=>whnf
 refine aJ (X:=Nat) (fun i=>i≤s.ds.length∧∀j,j<i→s.ds.getD j false=true) (fun i=>[(3,.int .i64 i)]) (fun i=>[]) (fun i=>s.ds.length-i) 0 ⟨aG,mixed,aj,aD,aN⟩ (by rfl) ⟨by omega,fun j hj=>by omega⟩ ?_ ?_
 ·repeat'((conv=>whnf);first|intro _|apply aI|with_reducible exact vM rfl|exact⟨⟩|apply nM|apply fM)
  all_goals((try apply vM);(try simp only[vq]at*);try omega)
 intro i ⟨hi,hok⟩
 by_cases hlt:i<s.ds.length
 ·repeat'((conv=>whnf);first|(intro hq;(try simp only[vw]at hq);try first|exact absurd hq (by decide)|exfalso;omega)|apply aI|with_reducible exact vM rfl|exact⟨⟩|apply nM|apply fM)
  all_goals((try apply vM);(try simp only[vq]at*);try omega)
  all_goals(try omega)
  ·have hm:s.ds.getD i false∈s.ds:=by rw[List.getD_eq_getElem?_getD,List.getElem?_eq_getElem hlt];exact List.getElem_mem _
   have hf:don s=false:=by
    unfold don
    rw[List.any_eq_true.2 ⟨s.ds.getD i false,hm,by rw[hq];rfl⟩];rfl
   rw[hf]
   exact bU false
  ·refine⟨i+1,[],⟨⟨by omega,fun j hj=>?_⟩,by omega⟩,?_⟩
   ·by_cases e:j=i
    ·subst e;exact hq
    ·exact hok j (by omega)
   repeat'((conv=>whnf);first|intro _|apply aI|with_reducible exact vM rfl|exact⟨⟩|apply nM|apply fM)
   all_goals((try apply vM);(try simp only[vq]at*);try omega)
 have e:i=s.ds.length:=by omega
 subst e
 have ht:don s=true:=by
  unfold don
  rw[Bool.not_eq_true',List.any_eq_false]
  intro b hb
  obtain⟨j,hj,rfl⟩:=List.getElem_of_mem hb
  have:=hok j hj
  rw[List.getD_eq_getElem?_getD,List.getElem?_eq_getElem hj]at this
  rw[show s.ds[j]=true from this];simp
 rw[ht]
 repeat'((conv=>whnf);first|(intro hq;(try simp only[vw]at hq);try first|exact absurd hq (by decide)|exfalso;omega)|apply aI|with_reducible exact vM rfl|exact⟨⟩|apply nM|apply fM)
 all_goals((try apply vM);(try simp only[vq]at*);try omega)
 all_goals first|omega|exact bU true
def frK (gv:List Int) (k:Nat):List Int:=((List.range k).map fun i:Nat=>(i:Int)+1).filter fun y=>!decide (y∈gv)
theorem Um (gv:List Int) (k:Nat):frK gv (k+1)=frK gv k++if(k:Int)+1∈gv then []else [(k:Int)+1]:=by
 unfold frK
 rw[List.range_succ,List.map_append,List.filter_append]
 congr 1
 by_cases e:(k:Int)+1∈gv
 ·rw[if_pos e];simp only[List.map_cons,List.map_nil,List.filter_cons,decide_eq_true e];rfl
 ·rw[if_neg e];simp only[List.map_cons,List.map_nil,List.filter_cons,decide_eq_false e];rfl
theorem Ke (gv:List Int) (k:Nat):(frK gv k).length≤k:=Nat.le_trans (List.length_filter_le _ _) (by simp)
noncomputable def adR:CPT:=aA 95 (aB su) noC
theorem Bo:aW Tryz.prog adR:=ak (au qF) aD
theorem IW (c:Int) (ls:List (List Int)) (sum:Int) (gv:List Int) (h:dR c ls sum gv):aF Tryz.prog 25 [pzV c ls sum gv] (stV (bgn c gv)):=by
 have hc:=h.c1
 have hg:=h.gl
 refine av (md:=1) (rf:=[]) mixed aj Bo Tryz.func25 (by rfl) (by rfl) (by rfl) ?_
 repeat'((conv=>whnf);first|intro _|apply aI|with_reducible exact vM rfl|exact⟨⟩|apply nM|apply fM)
 all_goals((try apply vM);(try simp only[vq]at*);try omega)
 conv=>whnf
 refine aJ (X:=Nat) (fun k=>k≤c.toNat) (fun k=>[(4,.int .i64 ((k:Int)+1)),(3,.isl (.ints .i64 (frK gv k)) (.own 5))]) (fun k=>[(5,.tok 1 (frK gv k).length)]) (fun k=>c.toNat-k) 0 ⟨aG,mixed,aj,Bo,aN⟩ (by rfl) (by omega) ?_ ?_
 ·repeat'((conv=>whnf);first|intro _|apply aI|with_reducible exact vM rfl|exact⟨⟩|apply nM|apply fM)
  all_goals((try apply vM);(try simp only[vq]at*);try omega)
  all_goals rfl
 intro k hk
 by_cases hlt:k<c.toNat
 ·have hx:=Um gv k
  have hl:=Ke gv k
  repeat'((conv=>whnf);first|(intro hq;(try simp only[vw]at hq);try first|exact absurd hq (by decide)|exfalso;omega)|apply aI|with_reducible exact vM rfl|exact⟨⟩|apply nM|apply fM)
  all_goals((try apply vM);(try simp only[vq]at*);try omega)
  all_goals(try first|omega|(rw[List.length_append,List.length_singleton];omega))
  ·rw[if_neg hq]at hx
   refine⟨k+1,[],⟨by omega,by omega⟩,?_⟩
   rw[hx,List.length_append]
   repeat'((conv=>whnf);first|intro _|apply aI|with_reducible exact vM rfl|exact⟨⟩|apply nM|apply fM)
   all_goals((try apply vM);(try simp only[vq]at*);try omega)
  ·rw[if_pos hq,List.append_nil]at hx
   refine⟨k+1,[],⟨by omega,by omega⟩,?_⟩
   rw[hx]
   repeat'((conv=>whnf);first|intro _|apply aI|with_reducible exact vM rfl|exact⟨⟩|apply nM|apply fM)
   all_goals((try apply vM);(try simp only[vq]at*);try omega)
 have e:k=c.toNat:=by omega
 subst e
 have hfr:frK gv c.toNat=frL c gv:=rfl
 have hfl:(frL c gv).length≤c.toNat:=Ke gv c.toNat
 rw[hfr]
 repeat'((conv=>whnf);first|(intro hq;(try simp only[vw]at hq);try first|exact absurd hq (by decide)|exfalso;omega)|apply aI|with_reducible exact vM rfl|exact⟨⟩|apply nM|apply fM)
 all_goals((try apply vM);(try simp only[vq]at*);try omega)
 all_goals(try omega)
 conv=>whnf
 refine aJ (X:=Nat) (fun i=>i≤gv.length) (fun i=>[(6,.int .i64 i),(3,.isl (.ints .i64 (frL c gv)) .none)]) (fun i=>[(8,.cells (.pv [.isl (.rows .i64 (jk c gv (gv.take i))) (.own 20),.isl (.bools (jl (gv.take i))) (.own 21)]) false),(20,.tok 1 i),(21,.tok 1 i)]) (fun i=>gv.length-i) 0 ⟨aG,mixed,aj,Bo,aN⟩ (by rfl) (by omega) ?_ ?_
 ·repeat'((conv=>whnf);first|intro _|apply aI|with_reducible exact vM rfl|exact⟨⟩|apply nM|apply fM)
  all_goals((try apply vM);(try simp only[vq]at*);try omega)
  all_goals(try rfl)
 intro i hi
 have hbl:(jk c gv (gv.take i)).length=i∧(jl (gv.take i)).length=i:=by
  constructor
  ·unfold jk;rw[List.length_map,List.length_take];omega
  ·unfold jl;rw[List.length_map,List.length_take];omega
 by_cases hlt:i<gv.length
 ·have e0:=cK hlt
  have ec:∀q:List Int,(if 0<gv.getD i 0 then [gv.getD i 0]else frL c gv)=q→jk c gv (gv.take (i+1))=jk c gv (gv.take i)++[q]:=fun q hq=>by
   rw[e0,←hq];unfold jk;rw[List.map_append];rfl
  have ed:jl (gv.take (i+1))=jl (gv.take i)++[decide (0<gv.getD i 0)]:=by rw[e0];unfold jl;rw[List.map_append];rfl
  repeat'((conv=>whnf);first|(intro hq;(try simp only[vw]at hq);try first|exact absurd hq (by decide)|exfalso;omega)|apply aI|with_reducible exact vM rfl|exact⟨⟩|apply nM|apply fM)
  all_goals((try apply vM);(try simp only[vq]at*);try omega)
  all_goals(try first|omega|(simp only[List.length_append,List.length_cons,List.length_nil];omega))
  ·refine⟨i+1,[],⟨by omega,by omega⟩,?_⟩
   rw[ec _ (if_pos hq),ed]
   repeat'((conv=>whnf);first|intro _|apply aI|with_reducible exact vM rfl|exact⟨⟩|apply nM|apply fM)
   all_goals((try apply vM);(try simp only[vq]at*);try omega)
  ·exact .inl trivial
  ·refine⟨i+1,[],⟨by omega,by omega⟩,?_⟩
   rw[ec _ (if_neg hq),ed]
   repeat'((conv=>whnf);first|intro _|apply aI|with_reducible exact vM rfl|exact⟨⟩|apply nM|apply fM)
   all_goals((try apply vM);(try simp only[vq]at*);try omega)
 have e:i=gv.length:=by omega
 subst e
 rw[List.take_length]
 repeat'((conv=>whnf);first|(intro hq;(try simp only[vw]at hq);try first|exact absurd hq (by decide)|exfalso;omega)|apply aI|with_reducible exact vM rfl|exact⟨⟩|apply nM|apply fM)
 all_goals((try apply vM);(try simp only[vq]at*);try omega)
 all_goals first|omega|exact Sup.of rfl|skip
noncomputable def adS:CPT:=aA 95 (aB su) (aA 96 (aB zF) (aA 97 (aB zG) noC))
theorem qN:aW Tryz.prog adS:=ak (au qF) (ak (au GK) (ak (au GL) aD))
def sK (cs:List (List Int)) (x:Int):Bool:=cs.any fun l=>decide (x∈l)
theorem Un (cs:List (List Int)) (l:List Int) (x:Int):sK (cs++[l]) x=(sK cs x||decide (x∈l)):=by unfold sK;rw[List.any_append];simp
theorem acH {c:Int} {ls:List (List Int)} {sum:Int} {s:St} {k:Nat} (hk:k<c.toNat) (h:sK s.cs ((k:Int)+1)=false):brk c ls sum s=true:=by
 unfold brk
 rw[List.all_eq_false.2 ⟨k,List.mem_range.2 hk,by rw[show(s.cs.any fun l=>decide (((k:Int)+1)∈l))=false from h];simp⟩];rfl
theorem acI {c:Int} {ls:List (List Int)} {sum:Int} {s:St} {i:Nat} (hi:i<s.cs.length) (h:s.cs.getD i []=[]):brk c ls sum s=true:=by
 unfold brk
 rw[List.any_eq_true.2 ⟨s.cs.getD i [],iD hi,decide_eq_true h⟩,Bool.or_true];rfl
theorem acJ {c:Int} {ls:List (List Int)} {sum:Int} {s:St} {i:Nat} (hi:i<ls.length) (h:lbk sum s (ls.getD i [])=true):brk c ls sum s=true:=by
 unfold brk
 rw[show(ls.any fun l=>decide ((opn s l (-1)).length=0)&&decide (rst s sum l≠0))=true from List.any_eq_true.2 ⟨ls.getD i [],iD hi,h⟩,Bool.or_true]
theorem acK {c:Int} {ls:List (List Int)} {sum:Int} {s:St} (h1:∀k,k<c.toNat→sK s.cs ((k:Int)+1)=true) (h2:∀i,i<s.cs.length→s.cs.getD i []≠[]) (h3:∀i,i<ls.length→lbk sum s (ls.getD i [])=false):brk c ls sum s=false:=by
 unfold brk
 have e1:((List.range c.toNat).all fun i=>s.cs.any fun l=>decide (((i:Int)+1)∈l))=true:=List.all_eq_true.2 fun k hk=>h1 k (List.mem_range.1 hk)
 have e2:(s.cs.any fun l=>decide (l=[]))=false:=List.any_eq_false.2 fun l hl=>by
  obtain⟨j,hj,rfl⟩:=List.getElem_of_mem hl
  have:=h2 j hj
  rw[List.getD_eq_getElem?_getD,List.getElem?_eq_getElem hj]at this
  rw[decide_eq_false (show s.cs[j]≠[]from this)];simp
 have e3:(ls.any fun l=>decide ((opn s l (-1)).length=0)&&decide (rst s sum l≠0))=false:=List.any_eq_false.2 fun l hl=>by
  obtain⟨j,hj,rfl⟩:=List.getElem_of_mem hl
  have:=h3 j hj
  rw[List.getD_eq_getElem?_getD,List.getElem?_eq_getElem hj]at this
  unfold lbk at this
  rw[show(decide ((opn s ls[j] (-1)).length=0)&&decide (rst s sum ls[j]≠0))=false from this];simp
 rw[e1,e2,e3];rfl
theorem QS (c:Int) (ls:List (List Int)) (sum:Int) (gv:List Int) (s:St) (h:bI c ls sum s):aF Tryz.prog 26 [pzV c ls sum gv,stV s] (.bp (brk c ls sum s)):=by
 have hc:=h.c1
 have hcl:=h.cl
 have hdl:=h.dl
 have hll:=h.ll
 have k16:∀i,i<s.cs.length→(s.cs.getD i []).length≤16:=fun i hi=>kT (h.asc i hi).1
 refine av (md:=1) (rf:=[]) mixed aj qN Tryz.func26 (by rfl) (by rfl) (by rfl) ?_
 repeat'((conv=>whnf);first|(intro hq;(try simp only[vw]at hq);try first|exact absurd hq (by decide)|exfalso;omega)|apply aI|with_reducible exact vM rfl|exact⟨⟩|apply nM|apply fM)
 all_goals((try apply vM);(try simp only[vq]at*);try omega)
 conv=>whnf
 refine aJ (X:=Nat) (fun k=>k≤c.toNat∧∀j,j<k→sK s.cs ((j:Int)+1)=true) (fun k=>[(5,.int .i64 ((k:Int)+1))]) (fun k=>[]) (fun k=>c.toNat-k) 0 ⟨aG,mixed,aj,qN,aN⟩ (by rfl) ⟨by omega,fun j hj=>by omega⟩ ?_ ?_
 ·repeat'((conv=>whnf);first|intro _|apply aI|with_reducible exact vM rfl|exact⟨⟩|apply nM|apply fM)
  all_goals((try apply vM);(try simp only[vq]at*);try omega)
 intro k ⟨hk,hok⟩
 by_cases hlt:k<c.toNat
 ·repeat'((conv=>whnf);first|(intro hq;(try simp only[vw]at hq);try first|exact absurd hq (by decide)|exfalso;omega)|apply aI|with_reducible exact vM rfl|exact⟨⟩|apply nM|apply fM)
  all_goals((try apply vM);(try simp only[vq]at*);try omega)
  all_goals(try omega)
  conv=>whnf
  refine aJ (X:=Nat) (fun i=>i≤s.cs.length) (fun i=>[(7,.int .i64 i),(6,.bp (sK (s.cs.take i) ((k:Int)+1)))]) (fun i=>[]) (fun i=>s.cs.length-i) 0 ⟨aG,mixed,aj,qN,aN⟩ (by rfl) (by omega) ?_ ?_
  ·repeat'((conv=>whnf);first|intro _|apply aI|with_reducible exact vM rfl|exact⟨⟩|apply nM|apply fM)
   all_goals((try apply vM);(try simp only[vq]at*);try omega)
   all_goals skip
  intro i hi
  by_cases hli:i<s.cs.length
  ·have hx:sK (s.cs.take (i+1)) ((k:Int)+1)=(sK (s.cs.take i) ((k:Int)+1)||decide ((k:Int)+1∈s.cs.getD i [])):=by
    rw[←Un]
    congr 1
    rw[List.take_add_one,List.getD_eq_getElem?_getD,List.getElem?_eq_getElem hli];rfl
   have k17:=k16 i hli
   repeat'((conv=>whnf);first|(intro hq;(try simp only[vw]at hq);try first|exact absurd hq (by decide)|exfalso;omega)|apply aI|with_reducible exact vM rfl|exact⟨⟩|apply nM|apply fM)
   all_goals((try apply vM);(try simp only[vq]at*);try omega)
   all_goals(try omega)
   ·refine⟨i+1,[],⟨by omega,by omega⟩,?_⟩
    rw[hx,hq,Bool.false_or]
    repeat'((conv=>whnf);first|intro _|apply aI|with_reducible exact vM rfl|exact⟨⟩|apply nM|apply fM)
    all_goals((try apply vM);(try simp only[vq]at*);try omega)
   ·refine⟨i+1,[],⟨by omega,by omega⟩,?_⟩
    rw[hx,hq,Bool.true_or]
    repeat'((conv=>whnf);first|intro _|apply aI|with_reducible exact vM rfl|exact⟨⟩|apply nM|apply fM)
    all_goals((try apply vM);(try simp only[vq]at*);try omega)
  have e:i=s.cs.length:=by omega
  subst e
  rw[List.take_length]
  repeat'((conv=>whnf);first|(intro hq;(try simp only[vw]at hq);try first|exact absurd hq (by decide)|exfalso;omega)|apply aI|with_reducible exact vM rfl|exact⟨⟩|apply nM|apply fM)
  all_goals((try apply vM);(try simp only[vq]at*);try omega)
  all_goals(try omega)
  ·rw[acH hlt hq];exact bU true
  ·refine⟨k+1,[],⟨⟨by omega,fun j hj=>?_⟩,by omega⟩,?_⟩
   ·by_cases e:j=k
    ·subst e;exact hq
    ·exact hok j (by omega)
   repeat'((conv=>whnf);first|intro _|apply aI|with_reducible exact vM rfl|exact⟨⟩|apply nM|apply fM)
   all_goals((try apply vM);(try simp only[vq]at*);try omega)
 have e:k=c.toNat:=by omega
 subst e
 repeat'((conv=>whnf);first|(intro hq;(try simp only[vw]at hq);try first|exact absurd hq (by decide)|exfalso;omega)|apply aI|with_reducible exact vM rfl|exact⟨⟩|apply nM|apply fM)
 all_goals((try apply vM);(try simp only[vq]at*);try omega)
 all_goals(try omega)
 conv=>whnf
 refine aJ (X:=Nat) (fun i=>i≤s.cs.length∧∀j,j<i→s.cs.getD j []≠[]) (fun i=>[(8,.int .i64 i)]) (fun i=>[]) (fun i=>s.cs.length-i) 0 ⟨aG,mixed,aj,qN,aN⟩ (by rfl) ⟨by omega,fun j hj=>by omega⟩ ?_ ?_
 ·repeat'((conv=>whnf);first|intro _|apply aI|with_reducible exact vM rfl|exact⟨⟩|apply nM|apply fM)
  all_goals((try apply vM);(try simp only[vq]at*);try omega)
 intro i ⟨hi,hok2⟩
 by_cases hli:i<s.cs.length
 ·have k17:=k16 i hli
  repeat'((conv=>whnf);first|(intro hq;(try simp only[vw]at hq);try first|exact absurd hq (by decide)|exfalso;omega)|apply aI|with_reducible exact vM rfl|exact⟨⟩|apply nM|apply fM)
  all_goals((try apply vM);(try simp only[vq]at*);try omega)
  all_goals(try omega)
  ·rw[acI hli (List.eq_nil_of_length_eq_zero (by omega))];exact bU true
  ·refine⟨i+1,[],⟨⟨by omega,fun j hj=>?_⟩,by omega⟩,?_⟩
   ·by_cases e:j=i
    ·subst e;exact fun e=>hq (by rw[e];rfl)
    ·exact hok2 j (by omega)
   repeat'((conv=>whnf);first|intro _|apply aI|with_reducible exact vM rfl|exact⟨⟩|apply nM|apply fM)
   all_goals((try apply vM);(try simp only[vq]at*);try omega)
 have e:i=s.cs.length:=by omega
 subst e
 repeat'((conv=>whnf);first|(intro hq;(try simp only[vw]at hq);try first|exact absurd hq (by decide)|exfalso;omega)|apply aI|with_reducible exact vM rfl|exact⟨⟩|apply nM|apply fM)
 all_goals((try apply vM);(try simp only[vq]at*);try omega)
 all_goals(try omega)
 conv=>whnf
 refine aJ (X:=Nat) (fun i=>i≤ls.length∧∀j,j<i→lbk sum s (ls.getD j [])=false) (fun i=>[(9,.int .i64 i)]) (fun i=>[]) (fun i=>ls.length-i) 0 ⟨aG,mixed,aj,qN,aN⟩ (by rfl) ⟨by omega,fun j hj=>by omega⟩ ?_ ?_
 ·repeat'((conv=>whnf);first|intro _|apply aI|with_reducible exact vM rfl|exact⟨⟩|apply nM|apply fM)
  all_goals((try apply vM);(try simp only[vq]at*);try omega)
 intro i ⟨hi,hok3⟩
 by_cases hli:i<ls.length
 ·have hnx:lbk sum s (ls.getD i [])=false→∀j,j<i+1→lbk sum s (ls.getD j [])=false:=fun hq j hj=>by
   by_cases e:j=i
   ·subst e;exact hq
   ·exact hok3 j (by omega)
  repeat'((conv=>whnf);first|(intro hq;(try simp only[vw]at hq);try first|exact absurd hq (by decide)|exfalso;omega)|apply aI|with_reducible exact vM rfl|exact⟨⟩|apply nM|apply fM)
  all_goals((try apply vM);(try simp only[vq]at*);try omega)
  all_goals(try first|omega|exact⟨h,by omega,by omega⟩)
  ·rename_i h1
   rw[acJ hli (by
    unfold lbk
    rw[decide_eq_true (show(opn s (ls.getD i []) (-1)).length=0 from by have h1:((opn s (ls.getD i []) (-1)).length:Int)=0:=h1;omega),Bool.true_and]
    exact decide_eq_true hq)]
   exact bU true
  ·refine⟨i+1,[],⟨⟨by omega,hnx ?_⟩,by omega⟩,?_⟩
   ·unfold lbk
    rw[show decide (rst s sum (ls.getD i [])≠0)=false from decide_eq_false hq,Bool.and_false]
   repeat'((conv=>whnf);first|intro _|apply aI|with_reducible exact vM rfl|exact⟨⟩|apply nM|apply fM)
   all_goals((try apply vM);(try simp only[vq]at*);try omega)
  ·refine⟨i+1,[],⟨⟨by omega,hnx ?_⟩,by omega⟩,?_⟩
   ·unfold lbk
    rw[decide_eq_false (show¬(opn s (ls.getD i []) (-1)).length=0 from fun e=>hq (by have e:(opn ⟨s.cs,s.ds⟩ (ls.getD i []) (-1)).length=0:=e;omega)),Bool.false_and]
   repeat'((conv=>whnf);first|intro _|apply aI|with_reducible exact vM rfl|exact⟨⟩|apply nM|apply fM)
   all_goals((try apply vM);(try simp only[vq]at*);try omega)
 have e:i=ls.length:=by omega
 subst e
 rw[acK hok hok2 hok3]
 repeat'((conv=>whnf);first|(intro hq;(try simp only[vw]at hq);try first|exact absurd hq (by decide)|exfalso;omega)|apply aI|with_reducible exact vM rfl|exact⟨⟩|apply nM|apply fM)
 all_goals((try apply vM);(try simp only[vq]at*);try omega)
 all_goals first|omega|exact bU false
def NZ:PSp:=fun xs K=>match xs with
 | [.agg [.int .i64 c,.isl (.rows .i64 ls) .none,.int .i64 sum,.isl (.ints .i64 gv) .none],.agg [.isl (.rows .i64 CS) .none,.isl (.bools DS) .none]]=>VC (bI c ls sum ⟨CS,DS⟩)∧K (.bp (brk c ls sum ⟨CS,DS⟩))
 |_=>False
theorem Zh:POK Tryz.prog 26 NZ:=by
 intro xs K hk
 unfold NZ at hk
 split at hk
 ·exact⟨_,hk.2,QS _ _ _ _ ⟨_,_⟩ hk.1.get⟩
 ·exact hk.elim
theorem Uo (c:Int) (ls:List (List Int)) (sum:Int) (gv:List Int):aF Tryz.prog 19 [pzV c ls sum gv] (pzV c ls sum gv):=by
 refine av (md:=1) (rf:=[]) mixed aj aD Tryz.func19 (by rfl) (by rfl) (by rfl) ?_
 repeat'((conv=>whnf);first|intro _|apply aI|with_reducible exact vM rfl|exact⟨⟩|apply nM|apply fM)
 all_goals((try apply vM);(try simp only[vq]at*);try omega)
 all_goals exact Sup.of rfl
def N7:PSp:=fun xs K=>match xs with
 | [.agg [.int .i64 c,.isl (.rows .i64 ls) .none,.int .i64 sum,.isl (.ints .i64 gv) .none]]=>VC (True)∧K (.agg [.int .i64 c,.isl (.rows .i64 ls) .none,.int .i64 sum,.isl (.ints .i64 gv) .none])
 |_=>False
theorem QT:POK Tryz.prog 19 N7:=by
 intro xs K h
 unfold N7 at h
 split at h
 ·exact⟨_,h.2,Uo _ _ _ _⟩
 ·exact h.elim
theorem Uq (s:St):aF Tryz.prog 24 [stV s] (stV s):=by
 refine av (md:=1) (rf:=[]) mixed aj aD Tryz.func24 (by rfl) (by rfl) (by rfl) ?_
 repeat'((conv=>whnf);first|intro _|apply aI|with_reducible exact vM rfl|exact⟨⟩|apply nM|apply fM)
 all_goals((try apply vM);(try simp only[vq]at*);try omega)
 all_goals exact Sup.of rfl
def Ur:PSp:=fun xs K=>match xs with
 | [.agg [.isl (.rows .i64 CS) .none,.isl (.bools DS) .none]]=>VC (True)∧K (.agg [.isl (.rows .i64 CS) .none,.isl (.bools DS) .none])
 |_=>False
theorem abW:POK Tryz.prog 24 Ur:=by
 intro xs K h
 unfold Ur at h
 split at h
 ·exact⟨_,h.2,Uq ⟨_,_⟩⟩
 ·exact h.elim
def shB (ls:List (List Int)) (k n:Nat):Bool:=decide (ls.length≤n)&&ls.all fun l=>decide (l.length≤k)
theorem QU {ls:List (List Int)} {k n:Nat} (h:shB ls k n=true):ls.length≤n∧∀l∈ls,l.length≤k:=by
 unfold shB at h
 rw[Bool.and_eq_true,decide_eq_true_eq,List.all_eq_true]at h
 exact⟨h.1,fun l hl=>of_decide_eq_true (h.2 l hl)⟩
theorem N8 (c:Int) (ls:List (List Int)) (k n:Nat) (hn:n≤1000000):aF Tryz.prog 50 [.agg [.int .i64 c,.isl (.rows .i64 ls) .none],.int .i64 (k:Int),.int .i64 (n:Int)] (.bp (shB ls k n)):=by
 by_cases h1:ls.length≤n
 case neg=>
  rw[show shB ls k n=false by unfold shB;rw[decide_eq_false h1];rfl]
  refine av (md:=1) (rf:=[]) mixed aj aD Tryz.func50 (by rfl) (by rfl) (by rfl) ?_
  repeat'((conv=>whnf);first|(intro hq;(try simp only[vw]at hq);try first|exact absurd hq (by decide)|exfalso;omega)|apply aI|with_reducible exact vM rfl|exact⟨⟩|apply nM|apply fM)
  all_goals((try apply vM);(try simp only[vq]at*);try omega)
  all_goals first|omega|exact bU false|skip
 refine av (md:=1) (rf:=[]) mixed aj aD Tryz.func50 (by rfl) (by rfl) (by rfl) ?_
 repeat'((conv=>whnf);first|(intro hq;(try simp only[vw]at hq);try first|exact absurd hq (by decide)|exfalso;omega)|apply aI|with_reducible exact vM rfl|exact⟨⟩|apply nM|apply fM)
 all_goals((try apply vM);(try simp only[vq]at*);try omega)
 all_goals(try omega)
 conv=>whnf
 refine aJ (X:=Nat) (fun i=>i≤ls.length∧∀j,j<i→(ls.getD j []).length≤k) (fun i=>[(7,.int .i64 i)]) (fun i=>[]) (fun i=>ls.length-i) 0 ⟨aG,mixed,aj,aD,aN⟩ (by rfl) ⟨by omega,fun j hj=>by omega⟩ ?_ ?_
 ·repeat'((conv=>whnf);first|intro _|apply aI|with_reducible exact vM rfl|exact⟨⟩|apply nM|apply fM)
  all_goals((try apply vM);(try simp only[vq]at*);try omega)
 intro i ⟨hi,hok⟩
 by_cases hlt:i<ls.length
 ·repeat'((conv=>whnf);first|(intro hq;(try simp only[vw]at hq);try first|exact absurd hq (by decide)|exfalso;omega)|apply aI|with_reducible exact vM rfl|exact⟨⟩|apply nM|apply fM)
  all_goals((try apply vM);(try simp only[vq]at*);try omega)
  all_goals(try omega)
  ·have:shB ls k n=false:=by
    unfold shB
    rw[List.all_eq_false.2 ⟨ls.getD i [],iD hlt,by rw[decide_eq_false (by omega)];simp⟩,Bool.and_false]
   rw[this]
   exact bU false
  ·refine⟨i+1,[],⟨⟨by omega,fun j hj=>?_⟩,by omega⟩,?_⟩
   ·by_cases e:j=i
    ·subst e;omega
    ·exact hok j (by omega)
   repeat'((conv=>whnf);first|intro _|apply aI|with_reducible exact vM rfl|exact⟨⟩|apply nM|apply fM)
   all_goals((try apply vM);(try simp only[vq]at*);try omega)
 have e:i=ls.length:=by omega
 subst e
 have:shB ls k n=true:=by
  unfold shB
  rw[decide_eq_true h1,Bool.true_and,List.all_eq_true]
  intro l hl
  obtain⟨j,hj,rfl⟩:=List.getElem_of_mem hl
  have:=hok j hj
  rw[List.getD_eq_getElem?_getD,List.getElem?_eq_getElem hj]at this
  exact decide_eq_true this
 rw[this]
 repeat'((conv=>whnf);first|(intro hq;(try simp only[vw]at hq);try first|exact absurd hq (by decide)|exfalso;omega)|apply aI|with_reducible exact vM rfl|exact⟨⟩|apply nM|apply fM)
 all_goals((try apply vM);(try simp only[vq]at*);try omega)
 all_goals first|omega|exact bU true
def zH:PSp:=fun xs K=>match xs with
 | [.agg [.int .i64 c,.isl (.rows .i64 ls) .none],.int .i64 k,.int .i64 n]=>VC (0≤k∧0≤n∧n≤1000000)∧K (.bp (shB ls k.toNat n.toNat))
 |_=>False
theorem GU:POK Tryz.prog 50 zH:=by
 intro xs K hk
 unfold zH at hk
 split at hk
 ·rename_i c ls k n
  obtain⟨⟨h1,h2,h3⟩,hk⟩:=hk
  obtain⟨k',rfl⟩:∃k':Nat,k=k':=⟨k.toNat,by omega⟩
  obtain⟨n',rfl⟩:∃n':Nat,n=n':=⟨n.toNat,by omega⟩
  exact⟨_,hk,N8 _ _ _ _ (by omega)⟩
 ·exact hk.elim
noncomputable def adT:CPT:=aA 50 (aB zH) noC
theorem Kg:aW Tryz.prog adT:=ak (au GU) aD
def nL (ls:List (List Int)) (gv:List Int):Bool:=shB ls 20 130&&decide ((gv.length:Int)≤260)
theorem IX (c:Int) (ls:List (List Int)) (sum:Int) (gv:List Int):aF Tryz.prog 41 [pzV c ls sum gv] (.bp (nL ls gv)):=by
 unfold nL
 cases h:shB ls 20 130 with
 |true=>
  refine av (md:=1) (rf:=[]) mixed aj Kg Tryz.func41 (by rfl) (by rfl) (by rfl) ?_
  repeat'((conv=>whnf);first|(intro hq;(try simp only[vw]at hq);try first|exact absurd hq (by decide)|exfalso;omega)|apply aI|with_reducible exact vM rfl|exact⟨⟩|apply nM|apply fM)
  all_goals((try apply vM);(try simp only[vq]at*);try omega)
  ·rw[Bool.true_and];exact Sup.of rfl
  ·exact absurd (h.symm.trans hq) (by decide)
 |false=>
  refine av (md:=1) (rf:=[]) mixed aj Kg Tryz.func41 (by rfl) (by rfl) (by rfl) ?_
  repeat'((conv=>whnf);first|(intro hq;(try simp only[vw]at hq);try first|exact absurd hq (by decide)|exfalso;omega)|apply aI|with_reducible exact vM rfl|exact⟨⟩|apply nM|apply fM)
  all_goals((try apply vM);(try simp only[vq]at*);try omega)
  ·exact absurd (hq.symm.trans h) (by decide)
  ·exact bU false
def Bp:PSp:=fun xs K=>match xs with
 | [.agg [.int .i64 c,.isl (.rows .i64 ls) .none,.int .i64 sum,.isl (.ints .i64 gv) .none]]=>VC (True)∧K (.bp (nL ls gv))
 |_=>False
theorem QV:POK Tryz.prog 41 Bp:=by
 intro xs K h
 unfold Bp at h
 split at h
 ·exact⟨_,h.2,IX _ _ _ _⟩
 ·exact h.elim
theorem Zi {ls:List (List Int)} {gv:List Int} (h:nL ls gv=true):bK ls∧gv.length≤260:=by
 unfold nL at h
 rw[Bool.and_eq_true,decide_eq_true_eq]at h
 obtain⟨h1,h2⟩:=QU h.1
 exact⟨⟨by omega,fun l hl=>by have:=h2 l hl;omega⟩,by omega⟩
def vC (c:Int) (ls:List (List Int)) (k n:Nat):Bool:=shB ls k n&&(decide (iO c ls=0)&&decide (c≤k))
noncomputable def adU:CPT:=aA 50 (aB zH) (aA 120 (aB DN) noC)
theorem Bq:aW Tryz.prog adU:=ak (au GU) (ak (au JD) aD)
theorem Kh {ls:List (List Int)} {k n:Nat} (h:shB ls k n=true) (hk:k≤5000) (hn:n≤1000000):bK ls:=by
 obtain⟨h1,h2⟩:=QU h
 exact⟨by omega,fun l hl=>by have:=h2 l hl;omega⟩
theorem Us (c:Int) (ls:List (List Int)) (k n:Nat) (hk:k≤5000) (hn:n≤1000000):aF Tryz.prog 52 [.agg [.int .i64 c,.isl (.rows .i64 ls) .none],.int .i64 (k:Int),.int .i64 (n:Int)] (.bp (vC c ls k n)):=by
 unfold vC
 cases h:shB ls k n with
 |false=>
  rw[Bool.false_and]
  refine av (md:=1) (rf:=[]) mixed aj Bq Tryz.func52 (by rfl) (by rfl) (by rfl) ?_
  repeat'((conv=>whnf);first|(intro hq;(try simp only[vw]at hq);try first|exact absurd hq (by decide)|exfalso;omega)|apply aI|with_reducible exact vM rfl|exact⟨⟩|apply nM|apply fM)
  all_goals((try apply vM);(try simp only[vq]at*);try omega)
  all_goals first|omega|exact bU false|exact absurd (hq.symm.trans h) (by decide)|(exfalso;exact absurd (h.symm.trans (‹shB ls _ _=true›)) (by decide))|skip
 |true=>
  have hL:=Kh h hk hn
  rw[Bool.true_and]
  by_cases h1:iO c ls=0
  ·rw[decide_eq_true h1,Bool.true_and]
   refine av (md:=1) (rf:=[]) mixed aj Bq Tryz.func52 (by rfl) (by rfl) (by rfl) ?_
   repeat'((conv=>whnf);first|(intro hq;(try simp only[vw]at hq);try first|exact absurd hq (by decide)|exfalso;omega)|apply aI|with_reducible exact vM rfl|exact⟨⟩|apply nM|apply fM)
   all_goals((try apply vM);(try simp only[vq]at*);try omega)
   all_goals first|omega|exact hL|exact Sup.of rfl|exact absurd (h.symm.trans hq) (by decide)|(exfalso;exact hq h1)|skip
  ·rw[decide_eq_false h1,Bool.false_and]
   refine av (md:=1) (rf:=[]) mixed aj Bq Tryz.func52 (by rfl) (by rfl) (by rfl) ?_
   repeat'((conv=>whnf);first|(intro hq;(try simp only[vw]at hq);try first|exact absurd hq (by decide)|exfalso;omega)|apply aI|with_reducible exact vM rfl|exact⟨⟩|apply nM|apply fM)
   all_goals((try apply vM);(try simp only[vq]at*);try omega)
   all_goals first|omega|exact hL|exact bU false|exact absurd (h.symm.trans hq) (by decide)|(exfalso;exact h1 hq)|skip
def Ut:PSp:=fun xs K=>match xs with
 | [.agg [.int .i64 c,.isl (.rows .i64 ls) .none],.int .i64 k,.int .i64 n]=>VC ((0≤k∧k≤5000)∧0≤n∧n≤1000000)∧K (.bp (vC c ls k.toNat n.toNat))
 |_=>False
theorem abX:POK Tryz.prog 52 Ut:=by
 intro xs K hk
 unfold Ut at hk
 split at hk
 ·rename_i c ls k n
  obtain⟨⟨h1,h2,h3⟩,hk⟩:=hk
  obtain⟨k',rfl⟩:∃k':Nat,k=k':=⟨k.toNat,by omega⟩
  obtain⟨n',rfl⟩:∃n':Nat,n=n':=⟨n.toNat,by omega⟩
  exact⟨_,hk,Us _ _ _ _ (by omega) (by omega)⟩
 ·exact hk.elim
def Oa (c:Int) (ls:List (List Int)) (sum:Int) (gv:List Int) (k n:Nat):Bool:=vC c ls k n&&(decide ((gv.length:Int)≤k)&&decide (pzE c ls sum gv=0))
noncomputable def adV:CPT:=aA 18 (aB FY) (aA 52 (aB Ut) noC)
theorem Br:aW Tryz.prog adV:=ak (au FZ) (ak (au abX) aD)
theorem Uu {c:Int} {ls:List (List Int)} {k n:Nat} (h:vC c ls k n=true) (hk:k≤5000) (hn:n≤1000000):bK ls:=by
 unfold vC at h
 rw[Bool.and_eq_true]at h
 exact Kh h.1 hk hn
theorem QW (c:Int) (ls:List (List Int)) (sum:Int) (gv:List Int) (k n:Nat) (hk:k≤5000) (hn:n≤1000000):aF Tryz.prog 29 [pzV c ls sum gv,.int .i64 (k:Int),.int .i64 (n:Int)] (.bp (Oa c ls sum gv k n)):=by
 unfold Oa
 cases h:vC c ls k n with
 |false=>
  rw[Bool.false_and]
  refine av (md:=1) (rf:=[]) mixed aj Br Tryz.func29 (by rfl) (by rfl) (by rfl) ?_
  repeat'((conv=>whnf);first|(intro hq;(try simp only[vw]at hq);try first|exact absurd hq (by decide)|exfalso;omega)|apply aI|with_reducible exact vM rfl|exact⟨⟩|apply nM|apply fM)
  all_goals((try apply vM);(try simp only[vq]at*);try omega)
  all_goals first|omega|exact bU false|exact absurd (hq.symm.trans h) (by decide)|(exfalso;exact absurd (h.symm.trans (‹vC c ls _ _=true›)) (by decide))|skip
 |true=>
  have hL:=Uu h hk hn
  rw[Bool.true_and]
  by_cases h1:(gv.length:Int)≤k
  ·rw[decide_eq_true h1,Bool.true_and]
   refine av (md:=1) (rf:=[]) mixed aj Br Tryz.func29 (by rfl) (by rfl) (by rfl) ?_
   repeat'((conv=>whnf);first|(intro hq;(try simp only[vw]at hq);try first|exact absurd hq (by decide)|exfalso;omega)|apply aI|with_reducible exact vM rfl|exact⟨⟩|apply nM|apply fM)
   all_goals((try apply vM);(try simp only[vq]at*);try omega)
   all_goals first|omega|exact⟨hL,by omega⟩|exact Sup.of rfl|exact absurd (h.symm.trans hq) (by decide)|(exfalso;exact hq h1)|skip
  ·rw[decide_eq_false h1,Bool.false_and]
   refine av (md:=1) (rf:=[]) mixed aj Br Tryz.func29 (by rfl) (by rfl) (by rfl) ?_
   repeat'((conv=>whnf);first|(intro hq;(try simp only[vw]at hq);try first|exact absurd hq (by decide)|exfalso;omega)|apply aI|with_reducible exact vM rfl|exact⟨⟩|apply nM|apply fM)
   all_goals((try apply vM);(try simp only[vq]at*);try omega)
   all_goals first|omega|exact⟨hL,by omega⟩|exact bU false|exact absurd (h.symm.trans hq) (by decide)|(exfalso;exact h1 hq)|skip
def Ob:PSp:=fun xs K=>match xs with
 | [.agg [.int .i64 c,.isl (.rows .i64 ls) .none,.int .i64 sum,.isl (.ints .i64 gv) .none],.int .i64 k,.int .i64 n]=>VC ((0≤k∧k≤5000)∧0≤n∧n≤1000000)∧K (.bp (Oa c ls sum gv k.toNat n.toNat))
 |_=>False
theorem Zj:POK Tryz.prog 29 Ob:=by
 intro xs K hk
 unfold Ob at hk
 split at hk
 ·rename_i c ls sum gv k n
  obtain⟨⟨h1,h2,h3⟩,hk⟩:=hk
  obtain⟨k',rfl⟩:∃k':Nat,k=k':=⟨k.toNat,by omega⟩
  obtain⟨n',rfl⟩:∃n':Nat,n=n':=⟨n.toNat,by omega⟩
  exact⟨_,hk,QW _ _ _ _ _ _ (by omega) (by omega)⟩
 ·exact hk.elim
noncomputable def adW:CPT:=aA 18 (aB FY) (aA 19 (aB N7) (aA 29 (aB Ob) (aA 41 (aB Bp) noC)))
theorem Bt:aW Tryz.prog adW:=ak (au FZ) (ak (au QT) (ak (au Zj) (ak (au QV) aD)))
def Bu (c:Int) (ls:List (List Int)) (sum:Int) (gv:List Int):Bool:=!nL ls gv||(decide (pzE c ls sum gv=0)&&!Oa c ls sum gv 12 12)
theorem Oc (c:Int) (ls:List (List Int)) (sum:Int) (gv:List Int):aF Tryz.prog 16 [pzV c ls sum gv] (.bp (Bu c ls sum gv)):=by
 unfold Bu
 cases h:nL ls gv with
 |false=>
  rw[Bool.not_false,Bool.true_or]
  refine av (md:=1) (rf:=[]) mixed aj Bt Tryz.func16 (by rfl) (by rfl) (by rfl) ?_
  repeat'((conv=>whnf);first|(intro hq;(try simp only[vw]at hq);try first|exact absurd hq (by decide)|exfalso;omega)|apply aI|with_reducible exact vM rfl|exact⟨⟩|apply nM|apply fM)
  all_goals((try apply vM);(try simp only[vq]at*);try omega)
  all_goals first|omega|exact bU true|exact absurd (hq.symm.trans h) (by decide)|(exfalso;exact absurd ((‹nL ls gv=true›).symm.trans h) (by decide))|skip
 |true=>
  obtain⟨hL,hg⟩:=Zi h
  rw[Bool.not_true,Bool.false_or]
  by_cases h1:pzE c ls sum gv=0
  ·rw[decide_eq_true h1,Bool.true_and]
   refine av (md:=1) (rf:=[]) mixed aj Bt Tryz.func16 (by rfl) (by rfl) (by rfl) ?_
   repeat'((conv=>whnf);first|(intro hq;(try simp only[vw]at hq);try first|exact absurd hq (by decide)|exfalso;omega)|apply aI|with_reducible exact vM rfl|exact⟨⟩|apply nM|apply fM)
   all_goals((try apply vM);(try simp only[vq]at*);try omega)
   all_goals first|omega|exact⟨hL,by omega⟩|exact Sup.of rfl|exact absurd (h.symm.trans hq) (by decide)|(exfalso;exact hq h1)|skip
  ·rw[decide_eq_false h1,Bool.false_and]
   refine av (md:=1) (rf:=[]) mixed aj Bt Tryz.func16 (by rfl) (by rfl) (by rfl) ?_
   repeat'((conv=>whnf);first|(intro hq;(try simp only[vw]at hq);try first|exact absurd hq (by decide)|exfalso;omega)|apply aI|with_reducible exact vM rfl|exact⟨⟩|apply nM|apply fM)
   all_goals((try apply vM);(try simp only[vq]at*);try omega)
   all_goals first|omega|exact⟨hL,by omega⟩|exact bU false|exact absurd (h.symm.trans hq) (by decide)|(exfalso;exact h1 hq)|skip
def GV:PSp:=fun xs K=>match xs with
 | [.agg [.int .i64 c,.isl (.rows .i64 ls) .none,.int .i64 sum,.isl (.ints .i64 gv) .none]]=>VC (True)∧K (.bp (Bu c ls sum gv))
 |_=>False
theorem Uv:POK Tryz.prog 16 GV:=by
 intro xs K h
 unfold GV at h
 split at h
 ·exact⟨_,h.2,Oc _ _ _ _⟩
 ·exact h.elim
noncomputable def adX:CPT:=aA 36 (aB nu) noC
theorem qO:aW Tryz.prog adX:=ak (au qw) aD
theorem Uw {a b:List (List Int)} (hl:a.length=b.length) (h:∀j,j<a.length→a.getD j []=b.getD j []):a=b:=by
 refine List.ext_getElem hl fun j h1 h2=>?_
 have:=h j h1
 rwa [List.getD_eq_getElem?_getD,List.getElem?_eq_getElem h1,List.getD_eq_getElem?_getD,List.getElem?_eq_getElem h2]at this
theorem QX {a b:List Bool} (hl:a.length=b.length) (h:∀j,j<a.length→a.getD j false=b.getD j false):a=b:=by
 refine List.ext_getElem hl fun j h1 h2=>?_
 have:=h j h1
 rwa [List.getD_eq_getElem?_getD,List.getElem?_eq_getElem h1,List.getD_eq_getElem?_getD,List.getElem?_eq_getElem h2]at this
def smB (a b:St):Bool:=decide (a.cs=b.cs∧a.ds=b.ds)
theorem Cj (a b:St) (ha:a.cs.length≤1000000∧a.ds.length≤1000000∧∀i,(a.cs.getD i []).length≤2000000):aF Tryz.prog 23 [stV a,stV b] (.bp (smB a b)):=by
 have fF:¬(a.cs=b.cs∧a.ds=b.ds)→Sup (bF [PV.bool false]) (PV.bp (smB a b)):=fun h=>by rw[show smB a b=false from decide_eq_false h];exact bU false
 by_cases h1:a.cs.length=b.cs.length
 case neg=>
  refine av (md:=1) (rf:=[]) mixed aj qO Tryz.func23 (by rfl) (by rfl) (by rfl) ?_
  repeat'((conv=>whnf);first|(intro hq;(try simp only[vw]at hq);try first|exact absurd hq (by decide)|exfalso;omega)|apply aI|with_reducible exact vM rfl|exact⟨⟩|apply nM|apply fM)
  all_goals((try apply vM);(try simp only[vq]at*);try omega)
  all_goals first|omega|exact fF (fun e=>h1 (by rw[e.1]))|skip
 by_cases h2:a.ds.length=b.ds.length
 case neg=>
  refine av (md:=1) (rf:=[]) mixed aj qO Tryz.func23 (by rfl) (by rfl) (by rfl) ?_
  repeat'((conv=>whnf);first|(intro hq;(try simp only[vw]at hq);try first|exact absurd hq (by decide)|exfalso;omega)|apply aI|with_reducible exact vM rfl|exact⟨⟩|apply nM|apply fM)
  all_goals((try apply vM);(try simp only[vq]at*);try omega)
  all_goals first|omega|exact fF (fun e=>h2 (by rw[e.2]))|skip
 refine av (md:=1) (rf:=[]) mixed aj qO Tryz.func23 (by rfl) (by rfl) (by rfl) ?_
 repeat'((conv=>whnf);first|(intro hq;(try simp only[vw]at hq);try first|exact absurd hq (by decide)|exfalso;omega)|apply aI|with_reducible exact vM rfl|exact⟨⟩|apply nM|apply fM)
 all_goals((try apply vM);(try simp only[vq]at*);try omega)
 all_goals(try omega)
 conv=>whnf
 refine aJ (X:=Nat) (fun i=>i≤a.cs.length∧∀j,j<i→a.cs.getD j []=b.cs.getD j []) (fun i=>[(5,.int .i64 i)]) (fun i=>[]) (fun i=>a.cs.length-i) 0 ⟨aG,mixed,aj,qO,aN⟩ (by rfl) ⟨by omega,fun j hj=>by omega⟩ ?_ ?_
 ·repeat'((conv=>whnf);first|intro _|apply aI|with_reducible exact vM rfl|exact⟨⟩|apply nM|apply fM)
  all_goals((try apply vM);(try simp only[vq]at*);try omega)
 intro i ⟨hi,hok⟩
 by_cases hlt:i<a.cs.length
 ·have h3:=ha.2.2 i
  repeat'((conv=>whnf);first|(intro hq;(try simp only[vw]at hq);try first|exact absurd hq (by decide)|exfalso;omega)|apply aI|with_reducible exact vM rfl|exact⟨⟩|apply nM|apply fM)
  all_goals((try apply vM);(try simp only[vq]at*);try omega)
  all_goals(try omega)
  ·exact fF fun e=>hq (by rw[e.1])
  ·refine⟨i+1,[],⟨⟨by omega,fun j hj=>?_⟩,by omega⟩,?_⟩
   ·by_cases e:j=i
    ·subst e;assumption
    ·exact hok j (by omega)
   repeat'((conv=>whnf);first|intro _|apply aI|with_reducible exact vM rfl|exact⟨⟩|apply nM|apply fM)
   all_goals((try apply vM);(try simp only[vq]at*);try omega)
 have e:i=a.cs.length:=by omega
 subst e
 have hcs:=Uw h1 hok
 repeat'((conv=>whnf);first|(intro hq;(try simp only[vw]at hq);try first|exact absurd hq (by decide)|exfalso;omega)|apply aI|with_reducible exact vM rfl|exact⟨⟩|apply nM|apply fM)
 all_goals((try apply vM);(try simp only[vq]at*);try omega)
 all_goals(try omega)
 conv=>whnf
 refine aJ (X:=Nat) (fun i=>i≤a.ds.length∧∀j,j<i→a.ds.getD j false=b.ds.getD j false) (fun i=>[(6,.int .i64 i)]) (fun i=>[]) (fun i=>a.ds.length-i) 0 ⟨aG,mixed,aj,qO,aN⟩ (by rfl) ⟨by omega,fun j hj=>by omega⟩ ?_ ?_
 ·repeat'((conv=>whnf);first|intro _|apply aI|with_reducible exact vM rfl|exact⟨⟩|apply nM|apply fM)
  all_goals((try apply vM);(try simp only[vq]at*);try omega)
 intro i ⟨hi,hok⟩
 by_cases hlt:i<a.ds.length
 ·repeat'((conv=>whnf);first|(intro hq;(try simp only[vw]at hq);try first|exact absurd hq (by decide)|exfalso;omega)|apply aI|with_reducible exact vM rfl|exact⟨⟩|apply nM|apply fM)
  all_goals((try apply vM);(try simp only[vq]at*);try omega)
  all_goals(try omega)
  ·exact fF fun e=>by rw[e.2]at hq;simp at hq
  ·refine⟨i+1,[],⟨⟨by omega,fun j hj=>?_⟩,by omega⟩,?_⟩
   ·by_cases e:j=i
    ·subst e;exact beq_iff_eq.1 hq
    ·exact hok j (by omega)
   repeat'((conv=>whnf);first|intro _|apply aI|with_reducible exact vM rfl|exact⟨⟩|apply nM|apply fM)
   all_goals((try apply vM);(try simp only[vq]at*);try omega)
 have e:i=a.ds.length:=by omega
 subst e
 have hds:=QX h2 hok
 rw[show smB a b=true from decide_eq_true ⟨hcs,hds⟩]
 repeat'((conv=>whnf);first|(intro hq;(try simp only[vw]at hq);try first|exact absurd hq (by decide)|exfalso;omega)|apply aI|with_reducible exact vM rfl|exact⟨⟩|apply nM|apply fM)
 all_goals((try apply vM);(try simp only[vq]at*);try omega)
 all_goals first|omega|exact bU true
end Go.Eng.YtcechbdgokjmgaaGreatDoor
namespace Go.Eng.YtcechbdgokjmgaaGreatDoor
open Go.Proofs Go.RowKit
set_option linter.unusedSimpArgs false
set_option linter.unusedVariables false
set_option maxHeartbeats 0
set_option maxRecDepth 100000
theorem Od {g:FuncId} {xs ys:List PV} {v:PV} (h:aF Tryz.prog g xs v) (hl:ys.length=xs.length) (hs:∀i,i<ys.length→Sup (aC ys i) (aC xs i)):aF Tryz.prog g ys v:=
 ⟨h.1,fun S w vs hB hI hA=>h.2 S w vs hB hI ⟨hl.symm.trans hA.1,fun i hi=>(hs i (by omega)).get (hA.2 i (by omega))⟩⟩
theorem Ki {S:Imm} {w:World} {ι:Ix} {c:CL} {v:Value} (h:Rep S w ι (.isl (.ints .i64 []) .none) v) (hc:c.cnt=0):Rep S w ι (.isl c .none) v:=by
 cases h with
 |islnil _ _ _ h=>exact .islnil _ _ _ hc
 |isl _ _ _ b off cap h1 hs h hf ho=>exact iq _ hc (.inr ⟨b,off,rfl⟩) _
def Ux:PSp:=fun xs K=>match xs with
 | [.agg [.isl (.rows .i64 A) .none,.isl (.bools B) .none],.agg [.isl (.rows .i64 C) .none,.isl (.bools D) .none]]=>VC (A.length≤1000000∧B.length≤1000000∧∀i,(A.getD i []).length≤2000000)∧K (.bp (smB ⟨A,B⟩ ⟨C,D⟩))
 | [.agg [.isl (.rows .i64 A) .none,.isl (.bools B) .none],.agg [.isl (.ints .i64 []) .none,.isl (.ints .i64 []) .none]]=>VC (A=[]∧B=[])∧K (.bp true)
 |_=>False
theorem abY:POK Tryz.prog 23 Ux:=by
 intro xs K hk
 unfold Ux at hk
 split at hk
 ·exact⟨_,hk.2,Cj ⟨_,_⟩ ⟨_,_⟩ hk.1.get⟩
 ·obtain⟨⟨rfl,rfl⟩,hk⟩:=hk
  refine⟨_,hk,Od (Cj ⟨[],[]⟩ ⟨[],[]⟩ ⟨by decide,by decide,fun i=>by simp⟩) rfl fun i hi=>?_⟩
  match i,hi with
  |0,_=>exact mD _
  |1,_=>exact⟨fun hr=>by
   cases hr with
   |agg _ _ vs hl hh=>
    refine .agg _ _ _ hl fun i hi=>?_
    match i,hi with
    |0,_=>have:=hh 0 (by decide);simp only[aC]at this⊢;generalize vs.getD 0 undef=u at this;exact Ki this rfl
    |1,_=>have:=hh 1 (by decide);simp only[aC]at this⊢;generalize vs.getD 1 undef=u at this;exact Ki this rfl⟩
 ·exact hk.elim
def Oe (s:St):PSp:=fun xs K=>match xs with
 | [.agg [.int .i64 c,.isl (.rows .i64 ls) .none,.int .i64 sum,.isl (.ints .i64 gv) .none]]=>VC (bK ls∧gv.length≤5000∧mE c ls sum gv=s)∧K (.tup [stV s,.int .i64 (pzE c ls sum gv)])
 |_=>False
theorem Zk (s:St):POK Tryz.prog 20 (Oe s):=by
 intro xs K hk
 unfold Oe at hk
 split at hk
 ·obtain⟨⟨h1,h2,rfl⟩,hk⟩:=hk;exact⟨_,hk,zA _ _ _ _ h1 h2⟩
 ·exact hk.elim
def GX (r:Option Dd × Int):PSp:=fun xs K=>match xs with
 | [.agg [.int .i64 c,.isl (.rows .i64 ls) .none,.int .i64 sum,.isl (.ints .i64 gv) .none]]=>VC (bK ls∧gv.length≤5000∧fT c ls sum gv=r)∧K (.tup [ddO r.1,.int .i64 r.2])
 |_=>False
theorem Uy (r:Option Dd × Int):POK Tryz.prog 21 (GX r):=by
 intro xs K hk
 unfold GX at hk
 split at hk
 ·obtain⟨⟨h1,h2,rfl⟩,hk⟩:=hk;exact⟨_,hk,Ci _ _ _ _ h1 h2⟩
 ·exact hk.elim
def GY:PSp:=fun xs K=>match xs with
 | [.agg [.int .i64 c,.isl (.rows .i64 ls) .none,.int .i64 sum,.isl (.ints .i64 gv) .none]]=>VC (dR c ls sum gv)∧K (stV (bgn c gv))
 |_=>False
theorem Uz:POK Tryz.prog 25 GY:=by
 intro xs K hk
 unfold GY at hk
 split at hk
 ·exact⟨_,hk.2,IW _ _ _ _ hk.1.get⟩
 ·exact hk.elim
def Bv:PSp:=fun xs K=>match xs with
 | [.agg [.isl (.rows .i64 CS) .none,.isl (.bools DS) .none]]=>VC (DS.length≤1000000)∧K (.bp (don ⟨CS,DS⟩))
 |_=>False
theorem QY:POK Tryz.prog 27 Bv:=by
 intro xs K h
 unfold Bv at h
 split at h
 ·exact⟨_,h.2,NY ⟨_,_⟩ h.1.get⟩
 ·exact h.elim
def GZ (o:Option Dd):PSp:=fun xs K=>match xs with
 | [.agg [.int .i64 c,.isl (.rows .i64 ls) .none,.int .i64 sum,.isl (.ints .i64 gv) .none],.agg [.isl (.rows .i64 CS) .none,.isl (.bools DS) .none],.int .i64 n]=>VC (n=5∧bK ls∧bI c ls sum ⟨CS,DS⟩∧fZ ⟨CS,DS⟩ sum ls 5=o)∧K (Na o)
 |_=>False
theorem UA (o:Option Dd):POK Tryz.prog 28 (GZ o):=by
 intro xs K hk
 unfold GZ at hk
 split at hk
 ·obtain⟨⟨rfl,h1,h2,rfl⟩,hk⟩:=hk;exact⟨_,hk,IV _ _ _ _ ⟨_,_⟩ h1 h2 5 (by decide)⟩
 ·exact hk.elim
noncomputable def sM (s:St) (r:Option Dd × Int) (o:Option Dd):CPT:=aA 16 (aB GV) (aA 17 (aB GA) (aA 18 (aB FY) (aA 19 (aB N7) (aA 20 (aB (Oe s)) (aA 21 (aB (GX r)) (aA 22 (aB lF) (aA 23 (aB Ux) (aA 24 (aB Ur) (aA 25 (aB GY) (aA 26 (aB NZ) (aA 27 (aB Bv) (aA 28 (aB (GZ o)) noC))))))))))))
theorem oC (s:St) (r:Option Dd × Int) (o:Option Dd):aW Tryz.prog (sM s r o):=ak (au Uv) (ak (au Uf) (ak (au FZ) (ak (au QT) (ak (au (Zk s)) (ak (au (Uy r)) (ak (au kN) (ak (au abY) (ak (au abW) (ak (au Uz) (ak (au Zh) (ak (au QY) (ak (au (UA o)) aD))))))))))))
theorem clB {b:Bool} (h:b=true) (h':b=false):False:=by rw[h]at h';cases h'
theorem QZ (c:Int) (ls:List (List Int)) (sum:Int) (gv:List Int):aF Tryz.prog 3 [pzV c ls sum gv] (.bp true):=by
 by_cases hg:Bu c ls sum gv=true
 ·have hC:=oC noS (none,0) none
  refine cu (md:=1) (rf:=[]) mixed aj hC Tryz.func3 (by rfl) (by rfl) (by rfl) ?_
  unfold sM
  conv=>whnf
  refine And.intro ⟨trivial⟩ ?_
  conv=>whnf
  refine And.intro (fun _=>?_) (fun hq=>absurd hg (by rw[hq];simp))
  repeat'((conv=>whnf);first|(intro hq;(try simp only[vw]at hq);try first|exact absurd hq (by decide)|exfalso;omega)|apply aI|with_reducible exact vM rfl|exact⟨⟩|apply nM|apply fM)
  all_goals((try apply vM);(try simp only[vq]at*);try omega)
  exact Sup.of rfl
 have hg:Bu c ls sum gv=false:=by simpa using hg
 have hsh:nL ls gv=true:=by unfold Bu at hg;cases h:nL ls gv<;>simp[h]at hg⊢
 have hL:bK ls:=by
  unfold nL shB at hsh
  simp only[Bool.and_eq_true,decide_eq_true_eq,List.all_eq_true]at hsh
  exact⟨by omega,fun x hx=>by have:=hsh.1.2 x hx;omega⟩
 have hgl:gv.length≤5000:=by
  unfold nL at hsh
  simp only[Bool.and_eq_true,decide_eq_true_eq]at hsh
  omega
 by_cases he:pzE c ls sum gv=0
 case neg=>
  have h1:mE c ls sum gv=noS:=by unfold mE;rw[if_neg he]
  have h2:fT c ls sum gv=(none,pzE c ls sum gv):=by unfold fT;rw[if_pos he]
  obtain⟨e,hee⟩:∃e,pzE c ls sum gv=e:=⟨_,rfl⟩
  rw[hee]at h2 he
  have hC:=oC noS (none,e) none
  refine cu (md:=1) (rf:=[]) mixed aj hC Tryz.func3 (by rfl) (by rfl) (by rfl) ?_
  unfold sM
  repeat'((conv=>whnf);first|(intro hq;(try simp only[vw]at hq);try first|exact absurd hq (by decide)|exfalso;omega)|apply aI|with_reducible exact vM rfl|exact⟨⟩|apply nM|apply fM)
  all_goals((try apply vM);(try simp only[vq]at*);try omega)
  all_goals(try first|exact⟨hL,hgl⟩|exact⟨hL,hgl,h1⟩|exact⟨hL,hgl,h2⟩|(exfalso;rw[hg]at hq;exact absurd hq (by decide)))
  ·exact⟨rfl,rfl⟩
  ·exact Sup.of rfl
 have hp:=dR.of he
 have hb:=uY hp
 have h1:mE c ls sum gv=bgn c gv:=by unfold mE;rw[if_pos he]
 have hsm:smB ⟨(bgn c gv).cs,(bgn c gv).ds⟩ ⟨(bgn c gv).cs,(bgn c gv).ds⟩=true:=decide_eq_true ⟨rfl,rfl⟩
 have hlen:=jU (c:=c) (gv:=gv)
 have hcs:(bgn c gv).cs.length≤1000000∧(bgn c gv).ds.length≤1000000∧∀i,((bgn c gv).cs.getD i []).length≤2000000:=⟨by omega,by omega,fun i=>by
  by_cases hi:i<(bgn c gv).cs.length
  ·have h16:((bgn c gv).cs.getD i []).length≤16:=kT (hb.asc i hi).1;omega
  ·rw[List.getD_eq_getElem?_getD,List.getElem?_eq_none (by omega)];simp⟩
 obtain⟨o,ho⟩:∃o,fZ (bgn c gv) sum ls 5=o:=⟨_,rfl⟩
 cases hbk:brk c ls sum (bgn c gv)with
 |true=>
  have h2:fT c ls sum gv=(none,21):=by unfold fT;rw[if_neg (by rw[he];simp),hbk,if_pos rfl]
  have hC:=oC (bgn c gv) (none,21) o
  cases o with
  |none=>
   refine cu (md:=1) (rf:=[]) mixed aj hC Tryz.func3 (by rfl) (by rfl) (by rfl) ?_
   unfold sM
   repeat'((conv=>whnf);first|(intro hq;(try simp only[vw]at hq);try first|exact absurd hq (by decide)|exfalso;omega)|apply aI|with_reducible exact vM rfl|exact⟨⟩|apply nM|apply fM)
   all_goals((try apply vM);(try simp only[vq]at*);try omega)
   all_goals first|exact⟨hL,hgl⟩|exact⟨hL,hgl,h1⟩|exact⟨hL,hgl,h2⟩|exact hp|exact hb|exact hcs|(refine hlen.2.trans_le ?_;omega)|exact⟨hL,hb,ho⟩|exact Sup.of rfl|(exfalso;refine clB hsm ?_;assumption)|(exfalso;refine clB hbk ?_;assumption)|(exfalso;refine clB ?_ hbk;assumption)|(exfalso;refine clB hbk ?_;assumption)|(exfalso;refine clB ?_ hbk;assumption)|omega|skip
  |some d=>
   refine cu (md:=1) (rf:=[]) mixed aj hC Tryz.func3 (by rfl) (by rfl) (by rfl) ?_
   unfold sM
   repeat'((conv=>whnf);first|(intro hq;(try simp only[vw]at hq);try first|exact absurd hq (by decide)|exfalso;omega)|apply aI|with_reducible exact vM rfl|exact⟨⟩|apply nM|apply fM)
   all_goals((try apply vM);(try simp only[vq]at*);try omega)
   all_goals first|exact⟨hL,hgl⟩|exact⟨hL,hgl,h1⟩|exact⟨hL,hgl,h2⟩|exact hp|exact hb|exact hcs|(refine hlen.2.trans_le ?_;omega)|exact⟨hL,hb,ho⟩|exact Sup.of rfl|(exfalso;refine clB hsm ?_;assumption)|(exfalso;refine clB hbk ?_;assumption)|(exfalso;refine clB ?_ hbk;assumption)|(exfalso;refine clB hbk ?_;assumption)|(exfalso;refine clB ?_ hbk;assumption)|omega|skip
 |false=>
  cases hdn:don (bgn c gv)with
  |true=>
   have h2:fT c ls sum gv=(none,29):=by unfold fT;rw[if_neg (by rw[he];simp),hbk,if_neg (by simp),hdn,if_pos rfl]
   have hC:=oC (bgn c gv) (none,29) o
   cases o with
   |none=>
    refine cu (md:=1) (rf:=[]) mixed aj hC Tryz.func3 (by rfl) (by rfl) (by rfl) ?_
    unfold sM
    repeat'((conv=>whnf);first|(intro hq;(try simp only[vw]at hq);try first|exact absurd hq (by decide)|exfalso;omega)|apply aI|with_reducible exact vM rfl|exact⟨⟩|apply nM|apply fM)
    all_goals((try apply vM);(try simp only[vq]at*);try omega)
    all_goals first|exact⟨hL,hgl⟩|exact⟨hL,hgl,h1⟩|exact⟨hL,hgl,h2⟩|exact hp|exact hb|exact hcs|(refine hlen.2.trans_le ?_;omega)|exact⟨hL,hb,ho⟩|exact Sup.of rfl|(exfalso;refine clB hsm ?_;assumption)|(exfalso;refine clB hbk ?_;assumption)|(exfalso;refine clB ?_ hbk;assumption)|(exfalso;refine clB hdn ?_;assumption)|(exfalso;refine clB ?_ hdn;assumption)|omega|skip
   |some d=>
    refine cu (md:=1) (rf:=[]) mixed aj hC Tryz.func3 (by rfl) (by rfl) (by rfl) ?_
    unfold sM
    repeat'((conv=>whnf);first|(intro hq;(try simp only[vw]at hq);try first|exact absurd hq (by decide)|exfalso;omega)|apply aI|with_reducible exact vM rfl|exact⟨⟩|apply nM|apply fM)
    all_goals((try apply vM);(try simp only[vq]at*);try omega)
    all_goals first|exact⟨hL,hgl⟩|exact⟨hL,hgl,h1⟩|exact⟨hL,hgl,h2⟩|exact hp|exact hb|exact hcs|(refine hlen.2.trans_le ?_;omega)|exact⟨hL,hb,ho⟩|exact Sup.of rfl|(exfalso;refine clB hsm ?_;assumption)|(exfalso;refine clB hbk ?_;assumption)|(exfalso;refine clB ?_ hbk;assumption)|(exfalso;refine clB hdn ?_;assumption)|(exfalso;refine clB ?_ hdn;assumption)|omega|skip
  |false=>
   cases o with
   |none=>
    have h2:fT c ls sum gv=(none,23):=by unfold fT;rw[if_neg (by rw[he];simp),hbk,if_neg (by simp),hdn,if_neg (by simp),ho]
    have hC:=oC (bgn c gv) (none,23) none
    refine cu (md:=1) (rf:=[]) mixed aj hC Tryz.func3 (by rfl) (by rfl) (by rfl) ?_
    unfold sM
    repeat'((conv=>whnf);first|(intro hq;(try simp only[vw]at hq);try first|exact absurd hq (by decide)|exfalso;omega)|apply aI|with_reducible exact vM rfl|exact⟨⟩|apply nM|apply fM)
    all_goals((try apply vM);(try simp only[vq]at*);try omega)
    all_goals first|exact⟨hL,hgl⟩|exact⟨hL,hgl,h1⟩|exact⟨hL,hgl,h2⟩|exact hp|exact hb|exact hcs|(refine hlen.2.trans_le ?_;omega)|exact⟨hL,hb,ho⟩|exact Sup.of rfl|(exfalso;refine clB hsm ?_;assumption)|(exfalso;refine clB hbk ?_;assumption)|(exfalso;refine clB ?_ hbk;assumption)|(exfalso;refine clB hdn ?_;assumption)|(exfalso;refine clB ?_ hdn;assumption)|omega|skip
   |some d=>
    have h2:fT c ls sum gv=(some d,0):=by unfold fT;rw[if_neg (by rw[he];simp),hbk,if_neg (by simp),hdn,if_neg (by simp),ho]
    have hC:=oC (bgn c gv) (some d,0) (some d)
    refine cu (md:=1) (rf:=[]) mixed aj hC Tryz.func3 (by rfl) (by rfl) (by rfl) ?_
    unfold sM
    repeat'((conv=>whnf);first|(intro hq;(try simp only[vw]at hq);try first|exact absurd hq (by decide)|exfalso;omega)|apply aI|with_reducible exact vM rfl|exact⟨⟩|apply nM|apply fM)
    all_goals((try apply vM);(try simp only[vq]at*);try omega)
    all_goals first|exact⟨hL,hgl⟩|exact⟨hL,hgl,h1⟩|exact⟨hL,hgl,h2⟩|exact hp|exact hb|exact hcs|(refine hlen.2.trans_le ?_;omega)|exact⟨hL,hb,ho⟩|exact Sup.of rfl|(exfalso;refine clB hsm ?_;assumption)|(exfalso;refine clB hbk ?_;assumption)|(exfalso;refine clB ?_ hbk;assumption)|(exfalso;refine clB hdn ?_;assumption)|(exfalso;refine clB ?_ hdn;assumption)|omega|skip
end Go.Eng.YtcechbdgokjmgaaGreatDoor
