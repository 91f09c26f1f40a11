/- Contracts of functions of the program: what each returns. Their conditions stand in them. -/
import Derived.Shelf.Strings.BuilderF
import Derived.Test.YtcechbdgokjmgaaGreatDoorHSolutionsb
namespace Go.Eng.YtcechbdgokjmgaaGreatDoor
open Go.Proofs
set_option linter.unusedSimpArgs false
set_option linter.unusedVariables false
set_option maxHeartbeats 0
set_option maxRecDepth 100000
def MO:LSp:=fun xs objs K=>match xs,objs with
 | [.agg [.int .i64 c,.isl (.rows .i64 ls) .none,.int .i64 sum,.isl (.ints .i64 gv) .none]],[]=>VC ((1≤gv.length∧gv.length≤1000000)∧ls.length≤5000∧∀i,i<ls.length→1≤(ls.getD i []).length∧(ls.getD i []).length≤5000)∧K [.agg [.int .i64 c,.isl (.rows .i64 ls) .none,.int .i64 sum,.rsl 0 0 gv.length]] [.cells (.ints .i64 gv) false]
 |_,_=>False
theorem Yz:LOK Tryz.prog 124 MO:=by
 intro xs objs K hk
 unfold MO at hk
 split at hk
 ·exact⟨_,_,hk.2,Ia _ _ _ _ hk.1.get.1 hk.1.get.2.1 hk.1.get.2.2⟩
 ·exact hk.elim
def F5:PSp:=fun xs K=>match xs with
 | [.agg [.int .i64 c,.isl (.rows .i64 ls) .none],.isl (.ints .i64 f) .none]=>VC (bT ls∧f.length≤2000000∧rT c ls f=0∧qy f ls)∧K (.tup [.bp (decide (nG (gI f ls ls.length)<0)),.int .i64 0])
 |_=>False
theorem Sz:POK Tryz.prog 122 F5:=by
 intro xs K hk
 unfold F5 at hk
 split at hk
 ·exact⟨_,hk.2,CG _ _ _ hk.1.get.1 hk.1.get.2.1 hk.1.get.2.2.1 hk.1.get.2.2.2⟩
 ·exact hk.elim
def mkS (c:Int) (ls:List (List Int)) (sum:Int) (nv:List Int) (g:Nat) (gv:List Int) (y:Int):List Int:=
 if(sol c ls sum (gv.set y.toNat 0) g).2.2≠0 then(gv.set y.toNat 0).set y.toNat (nv.getD y.toNat 0)else gv.set y.toNat 0
noncomputable def adi:CPT:=aA 88 (aB jP) (aA 89 (aB gq) (aA 93 (aB zw) (aA 98 (aB pz) (aA 99 (j6 zC) (aA 121 (aB uT) (aA 122 (aB F5) (aA 123 (aB MB) (aA 124 (eT [] MO) noC))))))))
theorem lZ:aY Tryz.prog adi:=aj (au jD) (aj (au jC) (aj (au Fh) (aj (au wL) (aj (iq FQ) (aj (au Ie) (aj (au Sz) (aj (au Yj) (aj (dI [] Yz) aD))))))))
def AY (c:Int) (ls:List (List Int)) (nv:List Int) (g:Int):Int:=aJ [fT c ls,iZ g,if(nv.length:Int)≠c then 2 else 0]
def SA (ls:List (List Int)) (nv:List Int):Bool:=decide (nG (gI nv ls ls.length)<0)
def F6 (c:Int) (ls:List (List Int)) (nv ov:List Int) (g:Int):(Int × List (List Int) × Int × List Int) × Int:=
 if AY c ls nv g≠0 then((0,[],0,[]),AY c ls nv g)else if(iL nv).2≠0∨(iL nv).1=false then((0,[],0,[]),1)else if SA ls nv=false then((0,[],0,[]),16)
 else if(ov.length:Int)≠c∨rY 5 ov≠0 then((0,[],0,[]),14)
 else((c,ls,fO nv (ls.getD 0 []) (ls.getD 0 []).length,ov.foldl (mkS c ls (fO nv (ls.getD 0 []) (ls.getD 0 []).length) nv g.toNat) nv),0)
abbrev pzT (p:Int × List (List Int) × Int × List Int):PV:=pzV p.1 p.2.1 p.2.2.1 p.2.2.2
theorem zF (e:Int):Sup (bF [PV.agg [.int .i64 0,.nils,.int .i64 0,.nils],.int .i64 e]) (.tup [pzT (0,[],0,[]),.int .i64 e]):=by all_goals(refine Sup.via ?_;repeat'((conv=>whnf);first|intro _|apply aI|with_reducible exact vM rfl|exact⟨⟩|apply nM|apply fM);all_goals((try apply vM);(try simp only[vq]at*);try omega);all_goals(try(simp[CL.sub];done)))
theorem PS (c:Int) (ls:List (List Int)) (nv ov:List Int) (g:Int) (h:bT ls) (hn:nv.length≤5000) (ho:ov.length≤5000):
 aG Tryz.prog 53 [.agg [.int .i64 c,.isl (.rows .i64 ls) .none],.isl (.ints .i64 nv) .none,.isl (.ints .i64 ov) .none,.int .i64 g] (.tup [pzT (F6 c ls nv ov g).1,.int .i64 (F6 c ls nv ov g).2]):=by
 unfold F6
 by_cases h1:AY c ls nv g=0
 case neg=>
  rw[if_pos h1]
  refine cB (md:=1) (rf:=[]) mixed ak lZ Tryz.func53 (by rfl) (by rfl) (by rfl) ?_
  repeat'((conv=>whnf);first|(intro hq;(try simp only[vw]at hq);try first|exact absurd hq (by decide)|exfalso;omega)|apply aI|with_reducible exact vM rfl|exact⟨⟩|apply nM|apply fM)
  all_goals((try apply vM);(try simp only[vq]at*);try omega)
  all_goals first|exact h|exact zF _|(exfalso;exact ‹¬aJ [_,_,_]≠0› h1)|skip
 rw[if_neg (by rw[h1];simp)]
 have hb:fT c ls=0:=by
  by_cases e:fT c ls=0
  ·exact e
  ·exact absurd ((jO [fT c ls,iZ g,if(nv.length:Int)≠c then 2 else 0] 0 (by simp) (fun i hi=>absurd hi (Nat.not_lt_zero i)) e).symm.trans h1) e
 by_cases h2:(iL nv).2≠0∨(iL nv).1=false
 ·rw[if_pos h2]
  refine cB (md:=1) (rf:=[]) mixed ak lZ Tryz.func53 (by rfl) (by rfl) (by rfl) ?_
  repeat'((conv=>whnf);first|(intro hq;(try simp only[vw]at hq);try first|exact absurd hq (by decide)|exfalso;omega)|apply aI|with_reducible exact vM rfl|exact⟨⟩|apply nM|apply fM)
  all_goals((try apply vM);(try simp only[vq]at*);try omega)
  all_goals first|exact h|exact zF _|(exfalso;exact ‹aJ [_,_,_]≠0› h1)|omega|(exfalso;rcases h2 with h2|h2<;>simp_all;done)|skip
 rw[if_neg h2]
 obtain⟨hlc,hnr,hi⟩:(nv.length:Int)=c∧kY nv=true∧iL nv=(true,0):=by
  have a1:(iL nv).2=0:=Classical.not_not.1 fun e=>h2 (.inl e)
  have a2:(iL nv).1=true:=by
   cases e:(iL nv).1 with
   |true=>rfl
   |false=>exact absurd (.inr e) h2
  have a3:cfE nv=0:=by
   by_cases e:cfE nv=0
   ·exact e
   ·unfold iL at a1;rw[if_pos e]at a1;exact absurd a1 e
  refine⟨?_,?_,Prod.ext a2 a1⟩
  ·by_cases e:(nv.length:Int)=c
   ·exact e
   ·unfold AY at h1
    rw[if_pos e,hb]at h1
    by_cases eg:iZ g=0
    ·rw[eg]at h1;simp[aJ]at h1
    ·have:=jO [0,iZ g,2] 1 (by simp) (fun i hi=>by(have:i=0:=by omega);subst this;rfl) eg
     rw[this]at h1;exact absurd h1 eg
  ·unfold iL at a2;rw[if_neg (by rw[a3];simp)]at a2;exact a2
 have hp:=PO hb
 have hfil:bT ls∧nv.length≤2000000∧rT c ls nv=0∧qy nv ls:=by
  have hr:=vU hnr
  have hc:=hp.c1
  have hN:∀x∈nv,0≤x∧x≤16:=fun x hx=>by have:=hr x hx;omega
  refine⟨h,by omega,?_,⟨hp.ll.1,by have:=hp.ll;omega⟩,fun i hi=>?_⟩
  ·have e1:iJ c ls=0:=by
    by_cases e:iJ c ls=0
    ·exact e
    ·unfold fT at hb
     exact absurd ((jO [iJ c ls,if 16<c then 20 else 0,if ls.length=0 then 12 else 0] 0 (by simp) (fun i hi=>absurd hi (Nat.not_lt_zero i)) e).symm.trans hb) e
   have e2:rQ nv=0:=by
    unfold rQ
    rw[if_neg]
    intro e
    rw[List.any_eq_true]at e
    obtain⟨x,hx,e⟩:=e
    have:=hN x hx
    unfold rP at e
    simp at e
    omega
   unfold rT
   rw[e1,e2,if_neg (by omega)];rfl
  ·have hL:=hp.ln i hi
   refine⟨by have:=hL.len;omega,fun x hx=>by have:=hL.rng x hx;omega,fun k hk=>?_⟩
   have:=nT hN ((ls.getD i []).take k)
   have e:fO nv (ls.getD i []) k=fA nv ((ls.getD i []).take k):=rfl
   rw[List.length_take,Nat.min_eq_left hk]at this
   have:=hL.len
   omega
 have hi1:(iL nv).1=true:=by rw[hi]
 have hi2:(iL nv).2=0:=by rw[hi]
 cases h3:SA ls nv with
 |false=>
  have h3':¬nG (gI nv ls ls.length)<0:=of_decide_eq_false h3
  rw[if_pos rfl]
  refine cB (md:=1) (rf:=[]) mixed ak lZ Tryz.func53 (by rfl) (by rfl) (by rfl) ?_
  repeat'((conv=>whnf);first|(intro hq;(try simp only[vw]at hq);try first|exact absurd hq (by decide)|exfalso;omega)|apply aI|with_reducible exact vM rfl|exact⟨⟩|apply nM|apply fM)
  all_goals((try apply vM);(try simp only[vq]at*);try omega)
  all_goals first|exact h|exact hfil|exact zF _|(exfalso;exact ‹aJ [_,_,_]≠0› h1)|(exfalso;exact h3' (by assumption))|omega|(exfalso;simp_all;done)|skip
 |true=>
  have h3':nG (gI nv ls ls.length)<0:=of_decide_eq_true h3
  rw[if_neg (by simp)]
  by_cases h4:(ov.length:Int)≠c∨rY 5 ov≠0
  ·rw[if_pos h4]
   refine cB (md:=1) (rf:=[]) mixed ak lZ Tryz.func53 (by rfl) (by rfl) (by rfl) ?_
   repeat'((conv=>whnf);first|(intro hq;(try simp only[vw]at hq);try first|exact absurd hq (by decide)|exfalso;omega)|apply aI|with_reducible exact vM rfl|exact⟨⟩|apply nM|apply fM)
   all_goals((try apply vM);(try simp only[vq]at*);try omega)
   all_goals first|exact h|exact hfil|exact zF _|(exfalso;exact ‹aJ [_,_,_]≠0› h1)|(exfalso;exact ‹¬nG _<0› h3')|omega|(exfalso;rcases h4 with h4|h4<;>contradiction)|(exfalso;simp_all;done)|skip
  rw[if_neg h4]
  have h5:(ov.length:Int)=c:=Classical.not_not.1 fun e=>h4 (.inl e)
  have h6:rY 5 ov=0:=Classical.not_not.1 fun e=>h4 (.inr e)
  have hll:=hp.ll
  have hc:=hp.c1
  have hcond:(1≤nv.length∧nv.length≤1000000)∧ls.length≤5000∧∀i,i<ls.length→1≤(ls.getD i []).length∧(ls.getD i []).length≤5000:=⟨by omega,by omega,fun i hi=>by have:=hp.ln i hi;have:=this.ne;have:=(hp.ln i hi).len;omega⟩
  refine cB (md:=1) (rf:=[]) mixed ak lZ Tryz.func53 (by rfl) (by rfl) (by rfl) ?_
  repeat'((conv=>whnf);first|(intro hq;(try simp only[vw]at hq);try first|exact absurd hq (by decide)|exfalso;omega)|apply aI|with_reducible exact vM rfl|exact⟨⟩|apply nM|apply fM)
  all_goals((try apply vM);(try simp only[vq]at*);try omega)
  all_goals(try first|exact h|exact hfil|exact hcond|(exfalso;exact ‹aJ [_,_,_]≠0› h1)|(exfalso;exact ‹¬nG _<0› h3')|omega|(exfalso;exact ‹rY 5 ov≠0› h6)|(exfalso;simp_all;done))
  conv=>whnf
  refine aM (X:=Nat) (fun k=>k≤(ls.getD 0 []).length) (fun k=>[(84,.int .i64 k)]) (fun k=>[(35,.cells (.pv [.int .i64 c,.isl (.rows .i64 ls) .none,.int .i64 (fO nv (ls.getD 0 []) k),(.rsl 31 0 nv.length)]) false)]) (fun k=>(ls.getD 0 []).length-k) 0 ⟨aK,mixed,ak,lZ,aQ⟩ (by rfl) (by omega) ?_ ?_
  ·repeat'((conv=>whnf);first|intro _|apply aI|with_reducible exact vM rfl|exact⟨⟩|apply nM|apply fM)
   all_goals((try apply vM);(try simp only[vq]at*);try omega)
  intro k hk
  have hL:=hp.ln 0 (by omega)
  have hN:∀x∈nv,0≤x∧x≤16:=fun x hx=>by have:=vU hnr x hx;omega
  have hsb:=nT hN ((ls.getD 0 []).take k)
  rw[List.length_take,Nat.min_eq_left hk]at hsb
  have esb:fO nv (ls.getD 0 []) k=fA nv ((ls.getD 0 []).take k):=rfl
  have hLl:=hL.len
  by_cases hlt:k<(ls.getD 0 []).length
  ·have hx:=hL.rng ((ls.getD 0 []).getD k 0) (eO hlt)
   have hv:=hN (nv.getD ((ls.getD 0 []).getD k 0).toNat 0) (eO (by omega))
   have hsx:=zn nv (ls.getD 0 []) k hlt
   repeat'((conv=>whnf);first|(intro hq;(try simp only[vw]at hq);try first|exact absurd hq (by decide)|exfalso;omega)|apply aI|with_reducible exact vM rfl|exact⟨⟩|apply nM|apply fM)
   all_goals((try apply vM);(try simp only[vq]at*);try omega)
   all_goals(try simp only[Int.toNat_zero]at*)
   all_goals(try omega)
   refine⟨k+1,[],⟨by omega,by omega⟩,?_⟩
   rw[hsx]
   repeat'((conv=>whnf);first|intro _|apply aI|with_reducible exact vM rfl|exact⟨⟩|apply nM|apply fM)
   all_goals((try apply vM);(try simp only[vq]at*);try omega)
   all_goals skip
  have e:k=(ls.getD 0 []).length:=by omega
  subst e
  repeat'((conv=>whnf);first|(intro hq;(try simp only[vw]at hq);try first|exact absurd hq (by decide)|exfalso;omega)|apply aI|with_reducible exact vM rfl|exact⟨⟩|apply nM|apply fM)
  all_goals((try apply vM);(try simp only[vq]at*);try omega)
  all_goals(try simp only[Int.toNat_zero]at*)
  all_goals(try(exfalso;omega))
  conv=>whnf
  obtain⟨sm,hsm⟩:∃sm,fO nv (ls.getD 0 []) (ls.getD 0 []).length=sm:=⟨_,rfl⟩
  rw[hsm]
  refine aM (X:=Nat) (fun k=>k≤ov.length) (fun k=>[(99,.int .i64 k)]) (fun k=>[(31,.cells (.ints .i64 ((ov.take k).foldl (mkS c ls sm nv g.toNat) nv)) false)]) (fun k=>ov.length-k) 0 ⟨aK,mixed,ak,lZ,aQ⟩ (by rfl) (by omega) ?_ ?_
  ·repeat'((conv=>whnf);first|intro _|apply aI|with_reducible exact vM rfl|exact⟨⟩|apply nM|apply fM)
   all_goals((try apply vM);(try simp only[vq]at*);try omega)
  intro k hk
  obtain⟨gk,hgk⟩:∃gk,(ov.take k).foldl (mkS c ls sm nv g.toNat) nv=gk:=⟨_,rfl⟩
  have hsub:lY gk nv:=by
   rw[←hgk]
   clear hgk
   generalize ov.take k=l
   have:∀(l:List Int) (v:List Int),lY v nv→lY (l.foldl (mkS c ls sm nv g.toNat) v) nv:=by
    intro l
    induction l with
    |nil=>exact fun v h=>h
    |cons y l ih=>
     intro v h
     refine ih _ ?_
     unfold mkS
     split
     ·exact(h.set0 _).set1 _
     ·exact h.set0 _
   exact this l nv (lY.refl nv)
  have hgl:=hsub.1
  have hsmb: -999999999≤sm∧sm≤999999999:=by
   have:=nT hN (ls.getD 0 [])
   have e:fO nv (ls.getD 0 []) (ls.getD 0 []).length=fA nv ((ls.getD 0 []).take (ls.getD 0 []).length):=rfl
   rw[List.take_length]at e
   omega
  have hg5:1≤g∧g≤5:=by
   unfold AY at h1
   rw[hb]at h1
   by_cases eg:iZ g=0
   ·unfold iZ at eg
    by_cases e:g<1∨5<g
    ·rw[if_pos e]at eg;cases eg
    ·omega
   ·have:=jO [0,iZ g,if(nv.length:Int)≠c then 2 else 0] 1 (by simp) (fun i hi=>by(have:i=0:=by omega);subst this;rfl) eg
    rw[this]at h1;exact absurd h1 eg
  by_cases hlk:k<ov.length
  ·have hy:0≤ov.getD k 0∧ov.getD k 0<ov.length:=by
    unfold rY at h6
    rw[if_neg (by omega)]at h6
    have:=iU h6 k hlk
    unfold AJ at this
    by_cases e:ov.getD k 0<0∨ov.length≤ov.getD k 0∨ov.getD k 0∈ov.take k
    ·rw[if_pos e]at this;cases this
    ·omega
   have hnext:(ov.take (k+1)).foldl (mkS c ls sm nv g.toNat) nv=mkS c ls sm nv g.toNat gk (ov.getD k 0):=by
    rw[cZ hlk,List.foldl_append,hgk];rfl
   have hpz:=abf hb hlc hnr hsmb (hsub.set0 (ov.getD k 0).toNat)
   have hsl:(gk.set (ov.getD k 0).toNat 0).length=nv.length:=by rw[List.length_set];exact hgl
   have tk:List.take (nv.length-0) (List.drop 0 (gk.set (ov.getD k 0).toNat 0))=gk.set (ov.getD k 0).toNat 0:=dA hsl
   rw[hgk]
   cases ho:jc (sol c ls sm (gk.set (ov.getD k 0).toNat 0) g.toNat)with
   |none=>
    have he:(sol c ls sm (gk.set (ov.getD k 0).toNat 0) g.toNat).2.2≠0:=by
     unfold jc at ho
     by_cases e:(sol c ls sm (gk.set (ov.getD k 0).toNat 0) g.toNat).2.2=21
     ·rw[e];decide
     ·rw[if_neg e]at ho;cases ho
    have hst:mkS c ls sm nv g.toNat gk (ov.getD k 0)=(gk.set (ov.getD k 0).toNat 0).set (ov.getD k 0).toNat (nv.getD (ov.getD k 0).toNat 0):=by unfold mkS;rw[if_pos he]
    repeat'((conv=>whnf);first|apply Exists.intro (none)|(intro hq;(try simp only[vw]at hq);try first|exact absurd hq (by decide)|exfalso;omega)|apply aI|with_reducible exact vM rfl|exact⟨⟩|apply nM|apply fM)
    all_goals((try apply vM);(try simp only[vq]at*);try omega)
    all_goals(try first|omega|exact⟨by rw[tk];exact hpz,by omega,by rw[tk];exact ho⟩)
    refine⟨k+1,[],⟨by omega,by omega⟩,?_⟩
    rw[hnext,hst]
    repeat'((conv=>whnf);first|intro _|apply aI|with_reducible exact vM rfl|exact⟨⟩|apply nM|apply fM)
    all_goals((try apply vM);(try simp only[vq]at*);try omega)
   |some r=>
    have hr:sol c ls sm (gk.set (ov.getD k 0).toNat 0) g.toNat=r:=by
     unfold jc at ho
     by_cases e:(sol c ls sm (gk.set (ov.getD k 0).toNat 0) g.toNat).2.2=21
     ·rw[if_pos e]at ho;cases ho
     ·rw[if_neg e]at ho;exact Option.some.inj ho
    have hs1:r.2.2≠0→mkS c ls sm nv g.toNat gk (ov.getD k 0)=(gk.set (ov.getD k 0).toNat 0).set (ov.getD k 0).toNat (nv.getD (ov.getD k 0).toNat 0):=fun e=>by unfold mkS;rw[hr,if_pos e]
    have hs0:¬r.2.2≠0→mkS c ls sm nv g.toNat gk (ov.getD k 0)=gk.set (ov.getD k 0).toNat 0:=fun e=>by unfold mkS;rw[hr,if_neg e]
    repeat'((conv=>whnf);first|apply Exists.intro (some r)|(intro hq;(try simp only[vw]at hq);try first|exact absurd hq (by decide)|exfalso;omega)|apply aI|with_reducible exact vM rfl|exact⟨⟩|apply nM|apply fM)
    all_goals((try apply vM);(try simp only[vq]at*);try omega)
    all_goals(try first|omega|exact⟨by rw[tk];exact hpz,by omega,by rw[tk];exact ho⟩)
    ·refine⟨k+1,[],⟨by omega,by omega⟩,?_⟩
     rw[hnext,hs1 (by assumption)]
     repeat'((conv=>whnf);first|intro _|apply aI|with_reducible exact vM rfl|exact⟨⟩|apply nM|apply fM)
     all_goals((try apply vM);(try simp only[vq]at*);try omega)
    ·refine⟨k+1,[],⟨by omega,by omega⟩,?_⟩
     rw[hnext,hs0 (by assumption)]
     repeat'((conv=>whnf);first|intro _|apply aI|with_reducible exact vM rfl|exact⟨⟩|apply nM|apply fM)
     all_goals((try apply vM);(try simp only[vq]at*);try omega)
  have e:k=ov.length:=by omega
  subst e
  rw[List.take_length]at hgk⊢
  rw[hgk]
  have s2:(CL.ints .i64 gk).sub 0 nv.length=.ints .i64 gk:=congrArg (CL.ints .i64) (dA hgl)
  repeat'((conv=>whnf);first|(intro hq;(try simp only[vw]at hq);try first|exact absurd hq (by decide)|exfalso;omega)|apply aI|with_reducible exact vM rfl|exact⟨⟩|apply nM|apply fM)
  all_goals((try apply vM);(try simp only[vq]at*);try omega)
  rw[s2]
  exact Sup.of rfl
end Go.Eng.YtcechbdgokjmgaaGreatDoor
namespace Go.Eng.YtcechbdgokjmgaaGreatDoor
open Go.Proofs Go.RowKit
set_option linter.unusedSimpArgs false
set_option linter.unusedVariables false
set_option maxHeartbeats 0
set_option maxRecDepth 100000
theorem JC {s w:ByteArray} {l:List Int} (h:bW s w=some l):l.length≤s.size:=by
 unfold bW at h
 split at h
 ·obtain rfl:=Option.some.inj h
  unfold numsL
  rw[List.length_map,List.length_drop]
  have:=xQ 32 s
  omega
 ·cases h
structure SB (r:Rd) (n:Nat):Prop where
 ln:r.line=n
 ll:r.L.length≤n
 rw:∀x∈r.L,x.length≤5000
 gl:r.gv.length≤5000
theorem YA {r:Rd} {n:Nat} {s:ByteArray} (h:SB r n) (hs:s.size≤4096):SB (nxt r s).2 (n+1):=by
 have h1:=h.ln
 have h2:=h.ll
 have h3:=h.rw
 have h4:=h.gl
 unfold nxt
 repeat' split
 all_goals refine⟨by simp only;omega,?_,?_,?_⟩
 all_goals simp only
 all_goals first|exact h3|exact h4|omega|(rw[List.length_append,List.length_cons,List.length_nil];omega)|(simp;done)|skip
 ·intro x hx
  rcases List.mem_append.1 hx with hx|hx
  ·exact h3 _ hx
  ·obtain rfl:=List.mem_singleton.1 hx
   have:=JC ‹bW s Dv=some _›
   omega
 ·have:=JC ‹bW s uP=some _›
  omega
noncomputable def rdG:Rd→List ByteArray→Rd × Bool
 |r,[]=>(r,true)
 |r,x::t=>if(nxt r x).1=true then rdG (nxt r x).2 t else((nxt r x).2,false)
def rd0:Rd:=⟨0,[],0,[],0,false⟩
abbrev kNl:ByteArray:=⟨#[10]⟩
def uU (s:ByteArray):Int:=aJ [if 4096<(s.size:Int)then 25 else 0,if EW s kNl=false then 27 else 0]
noncomputable def gW (s:ByteArray):Rd × Bool:=rdG rd0 (dx 10 (iY s kNl))
noncomputable def MP (s:ByteArray):(Int × List (List Int) × Int × List Int) × Int × Int:=
 if uU s≠0 then((0,[],0,[]),0,uU s)
 else if(gW s).2=false then((0,[],0,[]),(gW s).1.line,24)
 else if(gW s).1.done=false then((0,[],0,[]),(gW s).1.line+1,24)
 else if pzE (gW s).1.c (gW s).1.L (gW s).1.sum (gW s).1.gv≠0 then((0,[],0,[]),0,pzE (gW s).1.c (gW s).1.L (gW s).1.sum (gW s).1.gv)
 else(((gW s).1.c,(gW s).1.L,(gW s).1.sum,(gW s).1.gv),0,0)
noncomputable def abZ:CPT:=aA 22 (aB mM) (aA 88 (aB jP) (aA 89 (aB gq) (aA 112 (aB Rb) (aA 113 (aB zk) (aA 114 (aB Rh) (aA 115 (eT [] RU) noC))))))
theorem xV:aY Tryz.prog abZ:=aj (au lX) (aj (au jD) (aj (au jC) (aj (au aaB) (aj (au EU) (aj (au aaC) (aj (dI [] aaU) aD))))))
def abg (r:(Int × List (List Int) × Int × List Int) × Int × Int):PV:=.tup [pzT r.1,.int .i64 r.2.1,.int .i64 r.2.2]
theorem zG (a b:Int):Sup (bF [PV.agg [.int .i64 0,.nils,.int .i64 0,.nils],.int .i64 a,.int .i64 b]) (abg ((0,[],0,[]),a,b)):=by all_goals(refine Sup.via ?_;repeat'((conv=>whnf);first|intro _|apply aI|with_reducible exact vM rfl|exact⟨⟩|apply nM|apply fM);all_goals((try apply vM);(try simp only[vq]at*);try omega);all_goals(try(simp[CL.sub];done)))
theorem PU (s:ByteArray) (hs:s.size≤1000000):aG Tryz.prog 44 [.str s] (abg (MP s)):=by
 have hx:aJ [if decide (4096<(s.size:Int))=true then 25 else 0,if(!EW s ⟨#[10]⟩)=true then 27 else 0]=uU s:=by unfold uU;simp
 have htr:(iY s kNl).size≤s.size:=by
  have e3:(iY s kNl).size=(Go.Lib.trimSuffix s.data.toList kNl.data.toList).length:=by
   show(List.toArray _).size=_
   rw[List.size_toArray]
  have e1:s.size=s.data.toList.length:=by rw[Array.length_toList];rfl
  rw[e3,e1]
  unfold Go.Lib.trimSuffix
  split
  ·rw[List.length_take];omega
  ·omega
 unfold MP
 by_cases he:uU s=0
 case neg=>
  rw[if_pos he]
  have he2:=he
  unfold uU at he2
  refine cB (md:=1) (rf:=[]) mixed ak xV Tryz.func44 (by rfl) (by rfl) (by rfl) ?_
  repeat'((conv=>whnf);first|refine Exists.intro (10) ?_|(intro hq;(try simp only[vw]at hq);try first|exact absurd hq (by decide)|exfalso;omega)|apply aI|with_reducible exact vM rfl|exact⟨⟩|apply nM|apply fM)
  all_goals try refine VC.mk ?_
  all_goals first|omega|(exfalso;exact hq he2)|(exfalso;exact ‹¬aJ [_,_]≠0› he2)|(rw[←hx];exact zG _ _)|(simp;done)|skip
 rw[if_neg (by rw[he];simp)]
 have he2:=he
 unfold uU at he2
 have h4:s.size≤4096:=by
  by_cases e:4096<(s.size:Int)
  ·rw[if_pos e]at he2;cases h:EW s kNl<;>simp[aJ,h]at he2
  ·omega
 refine cB (md:=1) (rf:=[]) mixed ak xV Tryz.func44 (by rfl) (by rfl) (by rfl) ?_
 repeat'((conv=>whnf);first|refine Exists.intro (10) ?_|(intro hq;(try simp only[vw]at hq);try first|exact absurd hq (by decide)|exfalso;omega)|apply aI|with_reducible exact vM rfl|exact⟨⟩|apply nM|apply fM)
 all_goals try refine VC.mk ?_
 all_goals(try first|omega|(exfalso;exact hq he2)|(simp;done)|(refine And.intro rfl ?_;show(iY s kNl).size<_;omega))
 conv=>whnf
 have hG:gW s=rdG rd0 (dx 10 (iY s kNl)):=rfl
 have hln:=xQ 10 (iY s kNl)
 have hsz:∀j,j<(dx 10 (iY s kNl)).length→((dx 10 (iY s kNl)).getD j .empty).size≤4096:=fun j hj=>by
  have:=Ca (uO hj)
  omega
 generalize dx 10 (iY s kNl)=W at hG hln hsz⊢
 refine aM (X:=Nat × Rd) (fun x=>x.1≤W.length∧SB x.2 x.1∧gW s=rdG x.2 (W.drop x.1)) (fun x=>[(28,.int .i64 x.1)]) (fun x=>[(18,.cells (.pv [.int .i64 x.2.c,.isl (.rows .i64 x.2.L) (.own 22),.int .i64 x.2.sum,.isl (.ints .i64 x.2.gv) .none,.int .i64 x.2.line,.bp x.2.done]) false),(22,.tok 1 x.2.L.length)]) (fun x=>W.length-x.1) (0,rd0) ⟨aK,mixed,ak,xV,aQ⟩ (by rfl) ⟨by omega,⟨rfl,Nat.le_refl 0,fun x hx=>absurd hx (by simp[rd0]),by simp[rd0]⟩,hG⟩ ?_ ?_
 ·repeat'((conv=>whnf);first|intro _|apply aI|with_reducible exact vM rfl|exact⟨⟩|apply nM|apply fM)
  all_goals((try apply vM);(try simp only[vq]at*);try omega)
  all_goals skip
 rintro⟨i,r⟩ ⟨hi,hr,hT⟩
 simp only at hi hr hT
 by_cases hlt:i<W.length
 ·have hsi:=hsz i hlt
  have hd:W.drop i=W.getD i .empty::W.drop (i+1):=by rw[List.getD_eq_getElem?_getD,List.getElem?_eq_getElem hlt];simp
  have hr1:=hr.ln
  have hr2:=hr.ll
  have hok:=YA hr hsi
  rw[hd]at hT
  unfold rdG at hT
  repeat'((conv=>whnf);first|refine Exists.intro (10) ?_|(intro hq;(try simp only[vw]at hq);try first|exact absurd hq (by decide)|exfalso;omega)|apply aI|with_reducible exact vM rfl|exact⟨⟩|apply nM|apply fM)
  all_goals((try apply vM);(try simp only[vq]at*);try omega)
  ·have hq:(nxt r (W.getD i .empty)).1=false:=hq
   rw[if_neg (by rw[hq];simp)]at hT
   rw[hT]
   exact zG _ _
  have hq:(nxt r (W.getD i .empty)).1=true:=hq
  rw[if_pos hq]at hT
  refine⟨(i+1,(nxt r (W.getD i .empty)).2),[],⟨⟨by simp only;omega,hok,hT⟩,by simp only;omega⟩,?_⟩
  repeat'((conv=>whnf);first|refine Exists.intro (10) ?_|(intro hq;(try simp only[vw]at hq);try first|exact absurd hq (by decide)|exfalso;omega)|apply aI|with_reducible exact vM rfl|exact⟨⟩|apply nM|apply fM)
  all_goals((try apply vM);(try simp only[vq]at*);try omega)
  all_goals skip
 have e:i=W.length:=by omega
 subst e
 have hT2:gW s=(r,true):=by rw[hT,List.drop_length];rfl
 have hr1:=hr.ln
 have hr2:=hr.ll
 have hLN:bT r.L:=⟨by omega,hr.rw⟩
 have hgl:=hr.gl
 rw[hT2]
 repeat'((conv=>whnf);first|refine Exists.intro (10) ?_|(intro hq;(try simp only[vw]at hq);try first|exact absurd hq (by decide)|exfalso;omega)|apply aI|with_reducible exact vM rfl|exact⟨⟩|apply nM|apply fM)
 all_goals((try apply vM);(try simp only[vq]at*);try omega)
 all_goals(try omega)
 ·rw[if_neg (by simp),if_pos hq]
  exact zG _ _
 ·exact⟨hLN,hgl⟩
 ·rename_i hd
  rw[if_neg (by simp),if_neg (by simp only[hd];simp),if_pos hq]
  exact zG _ _
 ·rename_i hd
  rw[if_neg (by simp),if_neg (by simp only[hd];simp),if_neg hq]
  exact Sup.of rfl
end Go.Eng.YtcechbdgokjmgaaGreatDoor
namespace Go.Eng.YtcechbdgokjmgaaGreatDoor
open Go.Proofs
set_option linter.unusedSimpArgs false
set_option linter.unusedVariables false
set_option maxHeartbeats 0
set_option maxRecDepth 100000
abbrev kZ:ByteArray:=⟨#[99,101,108,108]⟩
abbrev sIs:ByteArray:=⟨#[105,115]⟩
abbrev F7:ByteArray:=⟨#[110,111,116]⟩
abbrev sBy:ByteArray:=⟨#[98,121]⟩
abbrev AZ:ByteArray:=⟨#[111,110,32,108,105,110,101]⟩
def exW (g:Int) (r:ByteArray) (y x k:Int):List ByteArray:=
 [kZ,itB y,sIs]++(if g≤3 then []else [F7])++[itB x,sBy,r]++(if 0≤k then [AZ,itB k]else [])
def MQ (c:Int) (ls:List (List Int)) (sum:Int) (gv:List Int) (r:ByteArray) (y x k:Int):ByteArray × Int:=
 if pzE c ls sum gv≠0 then(rV,pzE c ls sum gv)else if fu c ls r y x k≠0 then(rV,fu c ls r y x k)else(joB (exW (bE r) r y x k) kBl,0)
noncomputable def adj:CPT:=aA 22 (aB mM) (aA 101 (aB nQ) (aA 107 (aB zf) (aA 126 (aB RX) (aA 129 (aB Dj) (aA 130 (aB oG) noC)))))
theorem fV:aY Tryz.prog adj:=aj (au lX) (aj (au pG) (aj (au ES) (aj (au aaV) (aj (au IU) (aj (au oH) aD)))))
theorem uV {g:Int} {r:ByteArray} {y x k:Int} (hy:mV y) (hx:mV x) (hk:mV k) (hr:r.size≤6):Q5 (exW g r y x k) 1000000:=by
 have h1:=ow hy
 have h2:=ow hx
 have h3:=ow hk
 refine⟨?_,fun w hw=>?_⟩
 ·unfold exW;split<;>split<;>simp
 ·unfold exW at hw
  simp only[List.mem_append,List.mem_cons,List.not_mem_nil,or_false]at hw
  rcases hw with((((rfl|rfl|rfl)|hw)|(rfl|rfl|rfl))|hw)
  ·decide
  ·omega
  ·decide
  ·split at hw
   ·simp at hw
   ·simp at hw;subst hw;decide
  ·omega
  ·decide
  ·omega
  ·split at hw
   ·simp at hw
    rcases hw with rfl|rfl
    ·decide
    ·omega
   ·simp at hw
theorem F8 (c:Int) (ls:List (List Int)) (sum:Int) (gv:List Int) (h:bT ls) (hg:gv.length≤5000) (r:ByteArray) (y x k:Int):
 aG Tryz.prog 63 [pzV c ls sum gv,ddV r y x k] (.tup [.str (MQ c ls sum gv r y x k).1,.int .i64 (MQ c ls sum gv r y x k).2]):=by
 unfold MQ
 by_cases he:pzE c ls sum gv=0
 case neg=>
  rw[if_pos he]
  refine av (md:=1) (rf:=[]) mixed ak fV Tryz.func63 (by rfl) (by rfl) (by rfl) ?_
  repeat'((conv=>whnf);first|(intro hq;(try simp only[vw]at hq);try first|exact absurd hq (by decide)|exfalso;omega)|apply aI|with_reducible exact vM rfl|exact⟨⟩|apply nM|apply fM)
  all_goals((try apply vM);(try simp only[vq]at*);try omega)
  all_goals first|exact⟨h,hg⟩|exact h|exact Sup.of rfl|(exfalso;exact he (by assumption))|(exfalso;contradiction)|skip
 rw[if_neg (by rw[he];simp)]
 by_cases hd:fu c ls r y x k=0
 case neg=>
  rw[if_pos hd]
  refine av (md:=1) (rf:=[]) mixed ak fV Tryz.func63 (by rfl) (by rfl) (by rfl) ?_
  repeat'((conv=>whnf);first|(intro hq;(try simp only[vw]at hq);try first|exact absurd hq (by decide)|exfalso;omega)|apply aI|with_reducible exact vM rfl|exact⟨⟩|apply nM|apply fM)
  all_goals((try apply vM);(try simp only[vq]at*);try omega)
  all_goals first|exact⟨h,hg⟩|exact h|exact Sup.of rfl|(exfalso;exact hd (by assumption))|(exfalso;contradiction)|skip
 rw[if_neg (by rw[hd];simp)]
 have hp:=dz.of he
 have hc:=hp.c1
 have hll:=hp.ll
 have ho:=Ar.of hd
 have hy:=ho.y
 have hx:=ho.x
 have hte:=ze
 have hk:k= -1∨(0≤k∧k<128):=by
  unfold fu at hd
  by_cases h1:bE r=0
  ·rw[if_pos h1]at hd;cases hd
  rw[if_neg h1]at hd
  by_cases h2:y<0∨c≤y
  ·rw[if_pos h2]at hd;cases hd
  rw[if_neg h2]at hd
  by_cases h3:x<1∨c<x
  ·rw[if_pos h3]at hd;cases hd
  rw[if_neg h3]at hd
  by_cases h4:bE r=2∨bE r=3
  ·rw[if_pos h4]at hd
   by_cases h5:k= -1
   ·exact .inl h5
   ·rw[if_pos h5]at hd;cases hd
  ·rw[if_neg h4]at hd
   by_cases h5:k<0∨ls.length≤k∨y∉ls.getD k.toNat []
   ·rw[if_pos h5]at hd;cases hd
   ·have h6:¬k<0:=fun e=>h5 (.inl e)
    have h7:¬(ls.length:Int)≤k:=fun e=>h5 (.inr (.inl e))
    omega
 have b1:mV y:=⟨by omega,by omega⟩
 have b2:mV x:=⟨by omega,by omega⟩
 have b3:mV k:=⟨by omega,by omega⟩
 obtain⟨rfl,hg'⟩|⟨rfl,hg'⟩|⟨rfl,hg'⟩|⟨rfl,hg'⟩|⟨rfl,hg'⟩|hg':=rX r
 ·rw[hg']
  have hw:=uV (g:=1) (r:=bH) (k:=k) b1 b2 b3 (by decide)
  rcases hk with hk0|hk0
  ·have e:exW 1 bH y x k=([kZ,itB y,sIs]++[itB x,sBy,bH]):=by unfold exW;rw[if_pos (show(1:Int)≤3 by decide),if_neg (show¬(0:Int)≤k by omega),List.append_nil];(try rfl)
   rw[e]at hw⊢
   refine av (md:=1) (rf:=[]) mixed ak fV Tryz.func63 (by rfl) (by rfl) (by rfl) ?_
   repeat'((conv=>whnf);first|apply Exists.intro (1)|(intro hq;(try simp only[vw]at hq);try first|exact absurd hq (by decide)|exfalso;omega)|apply aI|with_reducible exact vM rfl|exact⟨⟩|apply nM|apply fM)
   all_goals((try apply vM);(try simp only[vq]at*);try omega)
   all_goals first|exact⟨h,hg⟩|exact h|exact hg'|exact hd|exact he|exact b1|exact b2|exact b3|(rw[hte];decide)|exact hw|(simp;done)|(exfalso;contradiction)|(exfalso;omega)|exact Sup.of rfl|skip
  ·have e:exW 1 bH y x k=([kZ,itB y,sIs]++[itB x,sBy,bH])++[AZ,itB k]:=by unfold exW;rw[if_pos (show(1:Int)≤3 by decide),if_pos (show(0:Int)≤k by omega)];(try rfl)
   rw[e]at hw⊢
   refine av (md:=1) (rf:=[]) mixed ak fV Tryz.func63 (by rfl) (by rfl) (by rfl) ?_
   repeat'((conv=>whnf);first|apply Exists.intro (1)|(intro hq;(try simp only[vw]at hq);try first|exact absurd hq (by decide)|exfalso;omega)|apply aI|with_reducible exact vM rfl|exact⟨⟩|apply nM|apply fM)
   all_goals((try apply vM);(try simp only[vq]at*);try omega)
   all_goals first|exact⟨h,hg⟩|exact h|exact hg'|exact hd|exact he|exact b1|exact b2|exact b3|(rw[hte];decide)|exact hw|(simp;done)|(exfalso;contradiction)|(exfalso;omega)|exact Sup.of rfl|skip
 ·rw[hg']
  have hw:=uV (g:=2) (r:=bQ) (k:=k) b1 b2 b3 (by decide)
  rcases hk with hk0|hk0
  ·have e:exW 2 bQ y x k=([kZ,itB y,sIs]++[itB x,sBy,bQ]):=by unfold exW;rw[if_pos (show(2:Int)≤3 by decide),if_neg (show¬(0:Int)≤k by omega),List.append_nil];(try rfl)
   rw[e]at hw⊢
   refine av (md:=1) (rf:=[]) mixed ak fV Tryz.func63 (by rfl) (by rfl) (by rfl) ?_
   repeat'((conv=>whnf);first|apply Exists.intro (2)|(intro hq;(try simp only[vw]at hq);try first|exact absurd hq (by decide)|exfalso;omega)|apply aI|with_reducible exact vM rfl|exact⟨⟩|apply nM|apply fM)
   all_goals((try apply vM);(try simp only[vq]at*);try omega)
   all_goals first|exact⟨h,hg⟩|exact h|exact hg'|exact hd|exact he|exact b1|exact b2|exact b3|(rw[hte];decide)|exact hw|(simp;done)|(exfalso;contradiction)|(exfalso;omega)|exact Sup.of rfl|skip
  ·have e:exW 2 bQ y x k=([kZ,itB y,sIs]++[itB x,sBy,bQ])++[AZ,itB k]:=by unfold exW;rw[if_pos (show(2:Int)≤3 by decide),if_pos (show(0:Int)≤k by omega)];(try rfl)
   rw[e]at hw⊢
   refine av (md:=1) (rf:=[]) mixed ak fV Tryz.func63 (by rfl) (by rfl) (by rfl) ?_
   repeat'((conv=>whnf);first|apply Exists.intro (2)|(intro hq;(try simp only[vw]at hq);try first|exact absurd hq (by decide)|exfalso;omega)|apply aI|with_reducible exact vM rfl|exact⟨⟩|apply nM|apply fM)
   all_goals((try apply vM);(try simp only[vq]at*);try omega)
   all_goals first|exact⟨h,hg⟩|exact h|exact hg'|exact hd|exact he|exact b1|exact b2|exact b3|(rw[hte];decide)|exact hw|(simp;done)|(exfalso;contradiction)|(exfalso;omega)|exact Sup.of rfl|skip
 ·rw[hg']
  have hw:=uV (g:=3) (r:=bR) (k:=k) b1 b2 b3 (by decide)
  rcases hk with hk0|hk0
  ·have e:exW 3 bR y x k=([kZ,itB y,sIs]++[itB x,sBy,bR]):=by unfold exW;rw[if_pos (show(3:Int)≤3 by decide),if_neg (show¬(0:Int)≤k by omega),List.append_nil];(try rfl)
   rw[e]at hw⊢
   refine av (md:=1) (rf:=[]) mixed ak fV Tryz.func63 (by rfl) (by rfl) (by rfl) ?_
   repeat'((conv=>whnf);first|apply Exists.intro (3)|(intro hq;(try simp only[vw]at hq);try first|exact absurd hq (by decide)|exfalso;omega)|apply aI|with_reducible exact vM rfl|exact⟨⟩|apply nM|apply fM)
   all_goals((try apply vM);(try simp only[vq]at*);try omega)
   all_goals first|exact⟨h,hg⟩|exact h|exact hg'|exact hd|exact he|exact b1|exact b2|exact b3|(rw[hte];decide)|exact hw|(simp;done)|(exfalso;contradiction)|(exfalso;omega)|exact Sup.of rfl|skip
  ·have e:exW 3 bR y x k=([kZ,itB y,sIs]++[itB x,sBy,bR])++[AZ,itB k]:=by unfold exW;rw[if_pos (show(3:Int)≤3 by decide),if_pos (show(0:Int)≤k by omega)];(try rfl)
   rw[e]at hw⊢
   refine av (md:=1) (rf:=[]) mixed ak fV Tryz.func63 (by rfl) (by rfl) (by rfl) ?_
   repeat'((conv=>whnf);first|apply Exists.intro (3)|(intro hq;(try simp only[vw]at hq);try first|exact absurd hq (by decide)|exfalso;omega)|apply aI|with_reducible exact vM rfl|exact⟨⟩|apply nM|apply fM)
   all_goals((try apply vM);(try simp only[vq]at*);try omega)
   all_goals first|exact⟨h,hg⟩|exact h|exact hg'|exact hd|exact he|exact b1|exact b2|exact b3|(rw[hte];decide)|exact hw|(simp;done)|(exfalso;contradiction)|(exfalso;omega)|exact Sup.of rfl|skip
 ·rw[hg']
  have hw:=uV (g:=4) (r:=bN) (k:=k) b1 b2 b3 (by decide)
  rcases hk with hk0|hk0
  ·have e:exW 4 bN y x k=([kZ,itB y,sIs]++[F7]++[itB x,sBy,bN]):=by unfold exW;rw[if_neg (show¬(4:Int)≤3 by decide),if_neg (show¬(0:Int)≤k by omega),List.append_nil];(try rfl)
   rw[e]at hw⊢
   refine av (md:=1) (rf:=[]) mixed ak fV Tryz.func63 (by rfl) (by rfl) (by rfl) ?_
   repeat'((conv=>whnf);first|apply Exists.intro (4)|(intro hq;(try simp only[vw]at hq);try first|exact absurd hq (by decide)|exfalso;omega)|apply aI|with_reducible exact vM rfl|exact⟨⟩|apply nM|apply fM)
   all_goals((try apply vM);(try simp only[vq]at*);try omega)
   all_goals first|exact⟨h,hg⟩|exact h|exact hg'|exact hd|exact he|exact b1|exact b2|exact b3|(rw[hte];decide)|exact hw|(simp;done)|(exfalso;contradiction)|(exfalso;omega)|exact Sup.of rfl|skip
  ·have e:exW 4 bN y x k=([kZ,itB y,sIs]++[F7]++[itB x,sBy,bN])++[AZ,itB k]:=by unfold exW;rw[if_neg (show¬(4:Int)≤3 by decide),if_pos (show(0:Int)≤k by omega)];(try rfl)
   rw[e]at hw⊢
   refine av (md:=1) (rf:=[]) mixed ak fV Tryz.func63 (by rfl) (by rfl) (by rfl) ?_
   repeat'((conv=>whnf);first|apply Exists.intro (4)|(intro hq;(try simp only[vw]at hq);try first|exact absurd hq (by decide)|exfalso;omega)|apply aI|with_reducible exact vM rfl|exact⟨⟩|apply nM|apply fM)
   all_goals((try apply vM);(try simp only[vq]at*);try omega)
   all_goals first|exact⟨h,hg⟩|exact h|exact hg'|exact hd|exact he|exact b1|exact b2|exact b3|(rw[hte];decide)|exact hw|(simp;done)|(exfalso;contradiction)|(exfalso;omega)|exact Sup.of rfl|skip
 ·rw[hg']
  have hw:=uV (g:=5) (r:=bO) (k:=k) b1 b2 b3 (by decide)
  rcases hk with hk0|hk0
  ·have e:exW 5 bO y x k=([kZ,itB y,sIs]++[F7]++[itB x,sBy,bO]):=by unfold exW;rw[if_neg (show¬(5:Int)≤3 by decide),if_neg (show¬(0:Int)≤k by omega),List.append_nil];(try rfl)
   rw[e]at hw⊢
   refine av (md:=1) (rf:=[]) mixed ak fV Tryz.func63 (by rfl) (by rfl) (by rfl) ?_
   repeat'((conv=>whnf);first|apply Exists.intro (5)|(intro hq;(try simp only[vw]at hq);try first|exact absurd hq (by decide)|exfalso;omega)|apply aI|with_reducible exact vM rfl|exact⟨⟩|apply nM|apply fM)
   all_goals((try apply vM);(try simp only[vq]at*);try omega)
   all_goals first|exact⟨h,hg⟩|exact h|exact hg'|exact hd|exact he|exact b1|exact b2|exact b3|(rw[hte];decide)|exact hw|(simp;done)|(exfalso;contradiction)|(exfalso;omega)|exact Sup.of rfl|skip
  ·have e:exW 5 bO y x k=([kZ,itB y,sIs]++[F7]++[itB x,sBy,bO])++[AZ,itB k]:=by unfold exW;rw[if_neg (show¬(5:Int)≤3 by decide),if_pos (show(0:Int)≤k by omega)];(try rfl)
   rw[e]at hw⊢
   refine av (md:=1) (rf:=[]) mixed ak fV Tryz.func63 (by rfl) (by rfl) (by rfl) ?_
   repeat'((conv=>whnf);first|apply Exists.intro (5)|(intro hq;(try simp only[vw]at hq);try first|exact absurd hq (by decide)|exfalso;omega)|apply aI|with_reducible exact vM rfl|exact⟨⟩|apply nM|apply fM)
   all_goals((try apply vM);(try simp only[vq]at*);try omega)
   all_goals first|exact⟨h,hg⟩|exact h|exact hg'|exact hd|exact he|exact b1|exact b2|exact b3|(rw[hte];decide)|exact hw|(simp;done)|(exfalso;contradiction)|(exfalso;omega)|exact Sup.of rfl|skip
 have:=ho.g
 omega
end Go.Eng.YtcechbdgokjmgaaGreatDoor
namespace Go.Eng
open Go.Proofs Go.Shelf Go.RowKit
set_option linter.unusedSimpArgs false
set_option linter.unusedVariables false
theorem vV {P:Program} {w:World} {ops:Array Oper} {rest:List Oper} {o:Oper} {a:Act} {Q:Exit→Act→World→Prop} (hgd:o.guard=none) (sl x:Operand) (t u:TypeId)
 (ho:o.op=.call {callee:=.builtin .append,args:= #[sl,x],argTypes:= #[t,u]})
 (e:TypeId) (i:TypeInfo) (ht:P.underlying t=some (.slice e)) (hu:P.underlying u=some .string) (hi:P.info? e=some i) (hz:i.zero=some (.int .u8 0)) (hsize:i.size=1) (hby:i.bytes=1)
 (v:Value) (n:Nat) (xs:List Value) (hs:a.eval sl=v) (hown:w.ownsRowF 0 e 1 v n xs) (s:ByteArray) (hx:a.eval x=.string s) (h63:n+s.size≤maxLen) (hbytes:n+s.size≤140737488355328)
 (h:∀v' w',w'.ownsRowF 0 e 1 v' (n+s.size) (xs++Lib.strCells s)→w.grownBy w' v.ownBlock→(∀b,b<w.heap.size→bsz w' b=bsz w b)→(∀g,v'.ownBlock=some g→v.ownBlock=some g∨w.heap.size≤g)→wpList P ops Q rest (a.put o.dst v') w'):
 wpList P ops Q (o::rest) a w:=by
 refine wpList_plain hgd fun K hK=>?_
 obtain⟨v',w',hr,h2,h3,h4,h5⟩:=KY (P:=P) w t u o.type e i ht hu hi hz hsize hby v n xs hown s h63 hbytes
 unfold Oper.wp execOp
 simp only[ho,resolve,invoke,builtin,Sem.run_bind,Sem.run_pure,Result.andThen_ok,List.map_toArray,List.map_cons,List.map_nil,hs,hx,hr]
 exact hK _ _ (h v' w' h2 h3 h4 h5)
theorem wN (w:World) (a:Addr) (x:Value) (b:Nat):bsz (w.setCell a x) b=bsz w b:=by
 unfold bsz World.setCell
 rw[Array.getElem?_modify]
 by_cases e:a.block=b
 ·rw[if_pos e]
  cases w.heap[b]? with
  |none=>rfl
  |some o=>
   cases o with
   |cells c t f=>simp only[Option.map_some];split<;>simp
   |_=>rfl
 ·rw[if_neg e]
theorem F9 (a b:ByteArray):Lib.strCells a++Lib.strCells b=Lib.strCells (a++b):=by
 unfold Lib.strCells
 rw[←List.map_append]
 congr 1
theorem PW {P:Program} {ρ:Ren} (L:Lays.n240 P ρ) (X:Builder.X72 P ρ) (b:Nat) (p v:Value) (w:World) (hbk:w.heap[b]? =some (.cells #[p,v] (ρ.t 72) (0,0))) (hp:p=.pointer none∨p=.pointer (some ⟨b,0,none⟩)):
 Calls P (ρ.f 240) #[.pointer (some ⟨b,0,none⟩)] w fun e w'=>e=.returned (.tuple #[])∧w'.heap[b]? =some (.cells #[.pointer (some ⟨b,0,none⟩),v] (ρ.t 72) (0,0))∧w'.os=w.os∧w'.tape=w.tape∧w'.output=w.output∧w'.heap.size=w.heap.size∧
  (∀b',b'≠b→w'.heap[b']? =w.heap[b']?)∧∀b',bsz w' b'=bsz w b':=by
 rcases hp with rfl|rfl
 ·refine(Any.Builder_copyCheck_fresh L X b w (by rw[Lib.cell_of_heap hbk];rfl) (by simp[World.shape?,hbk]) (Lib.frozen_of_heap hbk 0)).mono ?_
  rintro e w' ⟨rfl,rfl⟩
  exact⟨rfl,by simp[World.setCell,Array.getElem?_modify,hbk],rfl,rfl,rfl,by simp[World.setCell],fun b' hb'=>Below.heap_setCell _ _ _ _ hb',fun b'=>wN _ _ _ _⟩
 ·refine(Any.Builder_copyCheck_used L X b w (by rw[Lib.cell_of_heap hbk];rfl)).mono ?_
  rintro e w' ⟨rfl,rfl⟩
  exact⟨rfl,hbk,rfl,rfl,rfl,rfl,fun _ _=>rfl,fun _=>rfl⟩
set_option maxHeartbeats 4000000 in
set_option maxRecDepth 100000 in
theorem PX {P:Program} {ρ:Ren} (L:Lays.n166 P ρ) (X:Builder.Extra P ρ) (b:Nat) (p v:Value) (bs s:ByteArray) (w:World) (hbk:w.heap[b]? =some (.cells #[p,v] (ρ.t 72) (0,0))) (hp:p=.pointer none∨p=.pointer (some ⟨b,0,none⟩))
 (hne:v.ownBlock≠some b) (hown:w.ownsRowF 0 (ρ.t 5) 1 v bs.size (Lib.strCells bs)) (hlen:bs.size+s.size≤140737488355328):
 Calls P (ρ.f 166) #[.pointer (some ⟨b,0,none⟩),.string s] w fun ex w'=>∃val v',ex=.returned val∧uD (ρ.t 72) (ρ.t 5) b v w w' (bs++s) v'∧val=.tuple #[.int .i64 s.size,.nilIface]:=by
 obtain⟨i0,hi,hz0,hz1,hz2⟩:=info_parts X.infoByte
 have mixed:=L.mixed
 have t72:=L.t72;have a72:=L.a72;have z72:=L.z72;have v72:=L.v72;have u72:=run_underlying L.t72
 have t70:=L.t70;have a70:=L.a70;have z70:=L.z70;have v70:=L.v70;have u70:=run_underlying L.t70
 have t37:=L.t37;have a37:=L.a37;have z37:=L.z37;have v37:=L.v37;have u37:=run_underlying L.t37
 have t3:=L.t3;have a3:=L.a3;have z3:=L.z3;have v3:=L.v3;have u3:=run_underlying L.t3
 have t9:=L.t9;have a9:=L.a9;have z9:=L.z9;have v9:=L.v9;have u9:=run_underlying L.t9
 have t4:=L.t4;have a4:=L.a4;have z4:=L.z4;have v4:=L.v4;have u4:=run_underlying L.t4
 have t164:=L.t164;have a164:=L.a164;have z164:=L.z164;have v164:=L.v164;have u164:=run_underlying L.t164
 have t5:=X.t5;have a5:=X.a5;have z5:=X.z5;have v5:=X.v5;have u5:=run_underlying X.t5
 have e240:∀args w,(callFunc (ρ.f 240) args).run P w=.ok (.enter (ρ.f 240) args) w:=enters_of L.f240 (by kernel_rfl) rfl
 go_enter L.f166,Body.n166_ntmps ρ
 go_wp2_with (go_at_fn (ρ.f 240);refine(PW {L with} X.toX72 b p v _ hbk hp).mono ?_)
 rintro e w1 ⟨rfl,hb1,o1,tp1,ou1,sz1,oth1,bz1⟩
 have hown1:w1.ownsRowF 0 (ρ.t 5) 1 v bs.size (Lib.strCells bs):=lH hown fun g hg=>oth1 g (fun e=>hne (by rw[hg,e]))
 have c0:w1.cell? ⟨b,0,none⟩=some (.pointer (some ⟨b,0,none⟩)):=by rw[Lib.cell_of_heap hb1];rfl
 have c1:w1.cell? ⟨b,1,none⟩=some v:=by rw[Lib.cell_of_heap hb1];rfl
 go_wp2_with (at_builtin;refine vV rfl _ _ (ρ.t 37) (ρ.t 9) rfl (ρ.t 5) i0 L.t37 L.t9 hi hz0 hz1 hz2 _ _ _ rfl hown1 s rfl ?c3 ?c4 ?_)
 case c3=>unfold maxLen;omega
 case c4=>omega
 intro v' w2 hown' hgrow hbz hnew
 have hlt:b<w1.heap.size:=lt_of_heap hb1
 have hb2:w2.heap[b]? =some (.cells #[.pointer (some ⟨b,0,none⟩),v] (ρ.t 72) (0,0)):=by
  rw[hgrow.block b hlt (fun e=>hne e.symm)]
  exact hb1
 have d0:w2.cell? ⟨b,0,none⟩=some (.pointer (some ⟨b,0,none⟩)):=by rw[Lib.cell_of_heap hb2];rfl
 have d1:w2.cell? ⟨b,1,none⟩=some v:=by rw[Lib.cell_of_heap hb2];rfl
 have f1:w2.frozen? ⟨b,1,none⟩=false:=Lib.frozen_of_heap hb2 1
 have hvb:v'.ownBlock≠some b:=fun e=>by
  rcases hnew b e with h|h
  ·exact hne h
  ·omega
 obtain⟨ao,n',cap,rfl⟩:∃ao n' cap,v'=.slice ao n' cap:=by
  rcases hown'.2 with⟨hv,_⟩|⟨g,cap,cur,fz,hv,_⟩
  ·exact⟨_,_,_,hv⟩
  ·exact⟨_,_,_,hv⟩
 go_wp2
 go_ret2
 refine⟨_,.slice ao n' cap,rfl,⟨⟨_,?_,.inr rfl⟩,hvb,?_,?_,?_,?_,?_,?_,?_,?_⟩,rfl⟩
 ·simp[World.setCell,Array.getElem?_modify,hb2]
 ·rw[←F9,ByteArray.size_append]
  exact lH hown' fun g hg=>Below.heap_setCell _ _ _ _ (fun e=>hvb (by rw[hg,e]))
 ·intro g hg
  rcases hnew g hg with h|h
  ·exact .inl h
  ·exact .inr (by omega)
 ·exact hgrow.os.trans o1
 ·exact hgrow.tape.trans tp1
 ·exact hgrow.output.trans ou1
 ·have:=hgrow.size;simp[World.setCell];omega
 ·intro b' h1 h2 h3
  rw[Below.heap_setCell _ _ _ _ h2,hgrow.block b' (by omega) (fun e=>h3 e.symm)]
  exact oth1 b' h2
 ·intro b' h1
  rw[wN,hbz b' (by omega)]
set_option maxHeartbeats 4000000 in
set_option maxRecDepth 100000 in
theorem MR {P:Program} {ρ:Ren} (L:Lays.n169 P ρ) (X:Builder.Extra P ρ) (b:Nat) (p v:Value) (s:ByteArray) (w:World) (hbk:w.heap[b]? =some (.cells #[p,v] (ρ.t 72) (0,0))) (hp:p=.pointer none∨p=.pointer (some ⟨b,0,none⟩))
 (hne:v.ownBlock≠some b) (hown:w.ownsRowF 0 (ρ.t 5) 1 v s.size (Lib.strCells s)) (h0:0<s.size):
 Calls P (ρ.f 169) #[.pointer (some ⟨b,0,none⟩)] w fun ex w'=>∃val v',ex=.returned val∧uD (ρ.t 72) (ρ.t 5) b v w w' s v'∧val=.string s:=by
 obtain⟨g,cap,cur,fz,rfl,hbg,hg,hfz,hnc,hcm,hcs,htake⟩:∃g cap cur fz,v=.slice (some ⟨g,0,none⟩) s.size cap∧0≤g∧w.heap[g]? =some (.cells cur (ρ.t 5) fz)∧fz.2≤s.size*1∧s.size≤cap∧cap≤maxLen∧cur.size=cap*1∧cur.toList.take (s.size*1)=Lib.strCells s:=by
  rcases hown.2 with⟨_,hz⟩|⟨g,cap,cur,fz,hv,r⟩
  ·omega
  ·exact⟨g,cap,cur,fz,hv,r⟩
 have hgb:g≠b:=fun e=>hne (by simp[Value.ownBlock,e])
 have hls:s.data.toList.length=s.size:=by rw[Array.length_toList];rfl
 have c1:w.drew.cell? ⟨b,1,none⟩=some (.slice (some ⟨g,0,none⟩) s.size cap):=by
  have:w.drew.heap[b]? =some (.cells #[p,.slice (some ⟨g,0,none⟩) s.size cap] (ρ.t 72) (0,0)):=hbk
  rw[Lib.cell_of_heap this];rfl
 have hSD:(Builtin.unsafeSliceData_ #[(ρ.t 37)] (ρ.t 127) #[.slice (some ⟨g,0,none⟩) s.size cap]).run P w.drew=.ok (.pointer (some ⟨g,0,none⟩)) w.drew:=
  Lib.run_unsafeSliceData_row _ _ _ _ _ _ (by omega)
 have hUS:(Builtin.unsafeString_ #[(ρ.t 127),(ρ.t 3)] (ρ.t 9) #[.pointer (some ⟨g,0,none⟩),.int .i64 s.size]).run P w.drew=.ok (.string s) (w.drew.freeze ⟨g,0,none⟩ s.size):=by
  have:=Lib.run_unsafeString_row (P:=P) w.drew (ρ.t 127) (ρ.t 3) (ρ.t 9) (ρ.t 5) L.t127 X.cellsByte g cur.size (by have hg':w.drew.heap[g]? =some (.cells cur (ρ.t 5) fz):=hg;simp[World.shape?,hg']) s.data.toList (by intro e;rw[e]at hls;exact absurd hls (by rw[List.length_nil];omega)) (by omega) (by unfold maxLen at hcm;omega) (by
   intro j x hx
   exact hown.cells (g:=g) rfl j (.int .u8 x.toNat) (by simp[Lib.strCells,hx]))
  rw[hls]at this
  exact this
 have hfin:uD (ρ.t 72) (ρ.t 5) b (.slice (some ⟨g,0,none⟩) s.size cap) w (w.drew.freeze ⟨g,0,none⟩ s.size) s (.slice (some ⟨g,0,none⟩) s.size cap):=by
  have hgn:(w.drew.freeze ⟨g,0,none⟩ s.size).heap[g]? =some (.cells cur (ρ.t 5) (if fz.1==fz.2 then(0,0+s.size)else(min fz.1 0,max fz.2 (0+s.size)))):=by
   unfold World.freeze
   rw[if_neg (by omega)]
   have hg':w.drew.heap[g]? =some (.cells cur (ρ.t 5) fz):=hg
   simp[Array.getElem?_modify,hg']
  have hoth:∀b',b'≠g→(w.drew.freeze ⟨g,0,none⟩ s.size).heap[b']? =w.heap[b']? :=fun b' hb'=>by
   unfold World.freeze
   rw[if_neg (by omega)]
   simp only[Array.getElem?_modify]
   rw[if_neg (fun e=>hb' e.symm)]
   rfl
  refine⟨⟨p,(hoth b (fun e=>hgb e.symm)).trans hbk,hp⟩,hne,⟨hown.1,.inr ⟨g,cap,cur,_,rfl,hbg,hgn,?_,hnc,hcm,hcs,htake⟩⟩,fun g' hg'=>.inl hg',?_,?_,?_,?_,fun b' _ _ h3=>hoth b' (fun e=>h3 (by simp[Value.ownBlock,e])),fun b' _=>?_⟩
  ·split
   ·simp
   ·simp;omega
  ·unfold World.freeze;split<;>rfl
  ·unfold World.freeze;split<;>rfl
  ·unfold World.freeze;split<;>rfl
  ·unfold World.freeze
   split
   ·exact Nat.le_refl _
   ·exact Nat.le_of_eq (Array.size_modify ..).symm
  ·by_cases e:b'=g
   ·subst e;unfold bsz;rw[hgn,hg]
   ·exact dZ (hoth b' e)
 have mixed:=L.mixed
 have t72:=L.t72;have a72:=L.a72;have z72:=L.z72;have v72:=L.v72;have u72:=run_underlying L.t72
 have t70:=L.t70;have a70:=L.a70;have z70:=L.z70;have v70:=L.v70;have u70:=run_underlying L.t70
 have t37:=L.t37;have a37:=L.a37;have z37:=L.z37;have v37:=L.v37;have u37:=run_underlying L.t37
 have t127:=L.t127;have a127:=L.a127;have z127:=L.z127;have v127:=L.v127;have u127:=run_underlying L.t127
 have t3:=L.t3;have a3:=L.a3;have z3:=L.z3;have v3:=L.v3;have u3:=run_underlying L.t3
 have t9:=L.t9;have a9:=L.a9;have z9:=L.z9;have v9:=L.v9;have u9:=run_underlying L.t9
 have t5:=X.t5;have a5:=X.a5;have z5:=X.z5;have v5:=X.v5;have u5:=run_underlying X.t5
 go_enter L.f169,Body.n169_ntmps ρ
 go_wp2
 go_region_o
 all_goals(go_wp2;go_ret;exact⟨_,_,rfl,hfin,rfl⟩)
end Go.Eng
namespace Go.Eng.YtcechbdgokjmgaaGreatDoor
open Go.Proofs Go.RowKit
set_option linter.unusedSimpArgs false
set_option linter.unusedVariables false
set_option maxHeartbeats 0
set_option maxRecDepth 100000
def MS:CT:=fun args n H K=>match args with
 | [p,x]=>match p with
  |.rp k off=>match x with
   |.str s=>bS H k fun o=>match o with
    |.bld t e acc=>ifK (Nat.beq off 0&&Nat.beq t 163&&Nat.beq e 5) (VC (acc.size+s.size≤140737488355328)∧K (.tup [.int .i64 s.size,.nili]) [(k,.bld t e (acc++s))] [k] [])
    |_=>False
   |_=>False
  |_=>False
 |_=>False
def MU:CT:=fun args n H K=>match args with
 | [p]=>match p with
  |.rp k off=>bS H k fun o=>match o with
   |.bld t e acc=>ifK (Nat.beq off 0&&Nat.beq t 163&&Nat.beq e 5) (K (.int .i64 acc.size) [(k,.bld t e acc)] [k] [])
   |_=>False
  |_=>False
 |_=>False
def MV:CT:=fun args n H K=>match args with
 | [p]=>match p with
  |.rp k off=>bS H k fun o=>match o with
   |.bld t e acc=>ifK (Nat.beq off 0&&Nat.beq t 163&&Nat.beq e 5) (VC (0<acc.size)∧K (.str acc) [(k,.bld t e acc)] [k] [])
   |_=>False
  |_=>False
 |_=>False
theorem A8 {S:Imm} {w:World} {ι:Ix} {k b:Nat} {v:Value} (h:Rep S w ι (.rp k 0) v) (hb:ι.o k=some b):v=.pointer (some ⟨b,0,none⟩):=by
 cases h with
 |rp _ _ _ b' hk=>rw[hb]at hk;cases hk;rfl
theorem SC {S:Imm} {w:World} {ι:Ix} {s:ByteArray} {v:Value} (h:Rep S w ι (.str s) v):v=.string s:=by cases h;rfl
theorem SE:COK Tryz.prog 106 MS:=by
 intro args n H K hk
 unfold MS at hk
 split at hk
 ·split at hk
  ·rename_i k off
   split at hk
   ·rename_i s
    rw[aZ]at hk
    obtain⟨o,hob,hk⟩:=hk
    split at hk
    ·rename_i t e acc
     simp only[aL,Bool.and_eq_true]at hk
     obtain⟨⟨⟨h1,h2⟩,h3⟩,⟨hsz⟩,hk⟩:=hk
     have h1:=Nat.eq_of_beq_eq_true h1;have h2:=Nat.eq_of_beq_eq_true h2;have h3:=Nat.eq_of_beq_eq_true h3
     subst h1;subst h2;subst h3
     refine⟨_,_,_,[],hk,xw (enters' Tryz.func106 (by rfl) (by rfl)) hob fun S w ι vs b p v hr ho h0 hp hne hown=>?_⟩
     obtain⟨v1,v2,rfl,r1,r2⟩:=EI hr
     obtain rfl:=A8 r1 ho
     obtain rfl:=SC r2
     refine(PX (P:=Tryz.prog) (ρ:=Tryz.lays156_ren) {Tryz.lays156 with} Tryz.Builder_Extra_156 b p v acc s w h0 hp hne hown hsz).mono ?_
     rintro ex w' ⟨val,v',rfl,B,rfl⟩
     exact⟨_,v',rfl,B,fun S' ι'=>.tup _ _ _ rfl fun i hi=>by
      match i,hi with
      |0,_=>exact .int _ _ _
      |1,_=>exact .nili _⟩
    ·exact hk.elim
   ·exact hk.elim
  ·exact hk.elim
 ·exact hk.elim
theorem SF:COK Tryz.prog 110 MV:=by
 intro args n H K hk
 unfold MV at hk
 split at hk
 ·split at hk
  ·rename_i k off
   rw[aZ]at hk
   obtain⟨o,hob,hk⟩:=hk
   split at hk
   ·rename_i t e acc
    simp only[aL,Bool.and_eq_true]at hk
    obtain⟨⟨⟨h1,h2⟩,h3⟩,⟨hsz⟩,hk⟩:=hk
    have h1:=Nat.eq_of_beq_eq_true h1;have h2:=Nat.eq_of_beq_eq_true h2;have h3:=Nat.eq_of_beq_eq_true h3
    subst h1;subst h2;subst h3
    refine⟨_,_,_,[],hk,xw (enters' Tryz.func110 (by rfl) (by rfl)) hob fun S w ι vs b p v hr ho h0 hp hne hown=>?_⟩
    obtain⟨v1,rfl,r1⟩:=xA hr
    obtain rfl:=A8 r1 ho
    refine(MR (P:=Tryz.prog) (ρ:=Tryz.lays156_ren) {Tryz.lays156 with} Tryz.Builder_Extra_156 b p v acc w h0 hp hne hown hsz).mono ?_
    rintro ex w' ⟨val,v',rfl,B,rfl⟩
    exact⟨_,v',rfl,B,fun S' ι'=>.str _ _⟩
   ·exact hk.elim
  ·exact hk.elim
 ·exact hk.elim
set_option maxRecDepth 100000 in
theorem YB (b:Nat) (p v:Value) (s:ByteArray) (w:World) (hbk:w.heap[b]? =some (.cells #[p,v] 163 (0,0))) (hown:w.ownsRowF 0 5 1 v s.size (Lib.strCells s)):
 Calls Tryz.prog 109 #[.pointer (some ⟨b,0,none⟩)] w fun ex w'=>ex=.returned (.int .i64 s.size)∧w'=w:=by
 obtain⟨ao,cap,rfl⟩:∃ao cap,v=.slice ao s.size cap:=by
  rcases hown.2 with⟨hv,h0⟩|⟨g,cap,cur,fz,hv,_⟩
  ·exact⟨none,0,by rw[hv,h0]⟩
  ·exact⟨_,_,hv⟩
 have c1:w.cell? ⟨b,1,none⟩=some (.slice ao s.size cap):=by rw[Lib.cell_of_heap hbk];rfl
 have mixed:=Tryz.lays156.mixed
 have t72:=Tryz.underlying163;have u72:=run_underlying Tryz.underlying163
 go_enter Tryz.func109,Tryz.ntmps109
 go_wp2
 go_ret
 exact⟨rfl,rfl⟩
theorem SG:COK Tryz.prog 109 MU:=by
 intro args n H K hk
 unfold MU at hk
 split at hk
 ·split at hk
  ·rename_i k off
   rw[aZ]at hk
   obtain⟨o,hob,hk⟩:=hk
   split at hk
   ·rename_i t e acc
    simp only[aL,Bool.and_eq_true]at hk
    obtain⟨⟨⟨h1,h2⟩,h3⟩,hk⟩:=hk
    have h1:=Nat.eq_of_beq_eq_true h1;have h2:=Nat.eq_of_beq_eq_true h2;have h3:=Nat.eq_of_beq_eq_true h3
    subst h1;subst h2;subst h3
    refine⟨_,_,_,[],hk,xw (enters' Tryz.func109 (by rfl) (by rfl)) hob fun S w ι vs b p v hr ho h0 hp hne hown=>?_⟩
    obtain⟨v1,rfl,r1⟩:=xA hr
    obtain rfl:=A8 r1 ho
    refine(YB b p v acc w h0 hown).mono ?_
    rintro ex w' ⟨rfl,rfl⟩
    exact⟨_,v,rfl,⟨⟨p,h0,hp⟩,hne,hown,fun g hg=>.inl hg,rfl,rfl,rfl,Nat.le_refl _,fun _ _ _ _=>rfl,fun _ _=>rfl⟩,fun S' ι'=>.int _ _ _⟩
   ·exact hk.elim
  ·exact hk.elim
 ·exact hk.elim
def sNl:ByteArray:=⟨#[10]⟩
def lnB (w:ByteArray) (l:List Int):ByteArray:=joB ([w]++l.map itB) kBl++sNl
theorem l5 {w:ByteArray} {l:List Int} (hw:w.size≤10) (h:∀x∈l,mV x):(lnB w l).size≤22*(l.length+1)+1:=by
 have:=ER (xs:=[w]++l.map itB) (b:=21) fun x hx=>by
  rcases List.mem_append.1 hx with hx|hx
  ·simp at hx;subst hx;omega
  ·obtain⟨n,hn,rfl⟩:=List.mem_map.1 hx
   exact ow (h n hn)
 unfold lnB
 rw[ByteArray.size_append]
 have e:sNl.size=1:=rfl
 simp only[List.length_append,List.length_cons,List.length_nil,List.length_map]at this
 omega
noncomputable def adk:CPT:=aA 106 MS (aA 107 (aB zf) (aA 108 (aB ET) noC))
theorem YC:aY Tryz.prog adk:=aj SE (aj (au ES) (aj (au Q7) aD))
structure A9 (acc w:ByteArray) (l:List Int):Prop where
 sa:acc.size≤1000000000
 sw:w.size≤10
 sl:1≤l.length∧l.length≤100000
 sn:∀x∈l,mV x
theorem SH (acc w:ByteArray) (l:List Int) (h:A9 acc w l):jM Tryz.prog 105 [.str w,.isl (.ints .i64 l) .none,.rp 0 0] [.bld 163 5 acc] [] [.bld 163 5 (acc++lnB w l)]:=by
 obtain⟨h1,h2,h3,h4⟩:=h
 have hs:=l5 h2 h4
 have hT:Q6 l:=⟨by omega,fun i hi=>h4 _ (bV hi)⟩
 have hW:Q5 ([w]++l.map itB) 1000000:=⟨by simp;omega,fun x hx=>by
  rcases List.mem_append.1 hx with hx|hx
  ·simp at hx;subst hx;omega
  ·obtain⟨n,hn,rfl⟩:=List.mem_map.1 hx
   have:=ow (h4 n hn);omega⟩
 have e1:(joB ([w]++l.map itB) kBl).size+1=(lnB w l).size:=by
  unfold lnB;rw[ByteArray.size_append];rfl
 unfold lnB sNl
 unfold lnB sNl at hs e1
 refine bJ (md:=1) (rf:=[]) mixed ak YC 1 [] Tryz.func105 (by rfl) (by rfl) (by rfl) ?_
 repeat'((conv=>whnf);first|intro _|apply aI|with_reducible exact vM rfl|exact⟨⟩|apply nM|apply fM)
 all_goals((try apply vM);(try simp only[vq]at*);try omega)
 all_goals first|exact hT|exact hW|(simp only[List.length_append,List.length_map,List.length_cons,List.length_nil];omega)|(rw[ByteArray.size_append]at*;omega)|skip
def SI:LSp:=fun xs objs K=>match xs,objs with
 | [.str w,.isl (.ints .i64 l) .none,.rp 0 0],[.bld 163 5 acc]=>VC (A9 acc w l)∧K [] [.bld 163 5 (acc++lnB w l)]
 |_,_=>False
theorem abh:LOK Tryz.prog 105 SI:=by
 intro xs objs K hk
 unfold SI at hk
 split at hk
 ·exact⟨_,_,hk.2,SH _ _ _ hk.1.get⟩
 ·exact hk.elim
abbrev qE:ByteArray:=⟨#[99,101,108,108,115]⟩
abbrev MW:ByteArray:=⟨#[115,117,109]⟩
abbrev Dx:ByteArray:=⟨#[108,105,110,101]⟩
abbrev uW:ByteArray:=⟨#[103,105,118,101,110]⟩
def prA (c:Int) (ls:List (List Int)) (sum:Int) (k:Nat):ByteArray:=(ls.take k).foldl (fun a l=>a++lnB Dx l) (.empty++lnB qE [c]++lnB MW [sum])
def uX (c:Int) (ls:List (List Int)) (sum:Int) (gv:List Int):ByteArray:=prA c ls sum ls.length++lnB uW gv
def MX (c:Int) (ls:List (List Int)) (sum:Int) (gv:List Int):ByteArray × Int:=
 if pzE c ls sum gv≠0 then(rV,pzE c ls sum gv)else if 4096<(uX c ls sum gv).size then(rV,25)else(uX c ls sum gv,0)
theorem Ga (c:Int) (ls:List (List Int)) (sum:Int) (k:Nat) (h:k<ls.length):prA c ls sum (k+1)=prA c ls sum k++lnB Dx (ls.getD k []):=by
 unfold prA
 rw[List.take_add_one,List.getElem?_eq_getElem h,List.foldl_append,List.getD_eq_getElem?_getD,List.getElem?_eq_getElem h];rfl
noncomputable def adl:CPT:=aA 22 (aB mM) (aA 105 (eT [] SI) (aA 109 MU (aA 110 MV noC)))
theorem Bc:aY Tryz.prog adl:=aj (au lX) (aj (dI [] abh) (aj SG (aj SF aD)))
theorem SK {c:Int} {ls:List (List Int)} {sum:Int} {gv:List Int} (hp:dz c ls sum gv):∀k,k≤ls.length→(prA c ls sum k).size≤5000+1000*k:=by
 intro k
 induction k with
 |zero=>
  intro _
  have h1:=l5 (w:=qE) (l:=[c]) (by decide) (fun x hx=>by simp at hx;subst hx;have:=hp.c1;exact⟨by omega,by omega⟩)
  have h2:=l5 (w:=MW) (l:=[sum]) (by decide) (fun x hx=>by simp at hx;subst hx;have:=hp.sm;exact⟨by omega,by omega⟩)
  show(ByteArray.empty++lnB qE [c]++lnB MW [sum]).size≤_
  rw[ByteArray.size_append,ByteArray.size_append]
  simp at h1 h2⊢
  omega
 |succ k ih=>
  intro hk
  have hL:=hp.ln k (by omega)
  have h1:=l5 (w:=Dx) (l:=ls.getD k []) (by decide) (fun x hx=>by have:=hL.rng x hx;have:=hp.c1;exact⟨by omega,by omega⟩)
  rw[Ga _ _ _ _ (by omega),ByteArray.size_append]
  have:=ih (by omega)
  have:=hL.len
  omega
theorem MZ (c:Int) (ls:List (List Int)) (sum:Int) (gv:List Int) (h:bT ls) (hg:gv.length≤5000):
 aG Tryz.prog 42 [pzV c ls sum gv] (.tup [.str (MX c ls sum gv).1,.int .i64 (MX c ls sum gv).2]):=by
 unfold MX
 by_cases he:pzE c ls sum gv=0
 case neg=>
  rw[if_pos he]
  refine av (md:=1) (rf:=[2163]) mixed ak Bc Tryz.func42 (by rfl) (by rfl) (by rfl) ?_
  repeat'((conv=>whnf);first|(intro hq;(try simp only[vw]at hq);try first|exact absurd hq (by decide)|exfalso;omega)|apply aI|with_reducible exact vM rfl|exact⟨⟩|apply nM|apply fM)
  all_goals((try apply vM);(try simp only[vq]at*);try omega)
  all_goals first|exact⟨h,hg⟩|exact Sup.of rfl|(exfalso;exact he (by assumption))|(exfalso;contradiction)|skip
 rw[if_neg (by rw[he];simp)]
 have hp:=dz.of he
 have hc:=hp.c1
 have hs:=hp.sm
 have hgl:=hp.gl
 have hll:=hp.ll
 have hA:=SK hp
 have k1:A9 .empty qE [c]:=⟨by decide,by decide,by simp,fun x hx=>by simp at hx;subst hx;exact⟨by omega,by omega⟩⟩
 have k2:A9 (.empty++lnB qE [c]) MW [sum]:=⟨by
  have h1:=l5 (w:=qE) (l:=[c]) (by decide) (fun x hx=>by simp at hx;subst hx;exact⟨by omega,by omega⟩)
  rw[ByteArray.size_append];simp at h1⊢;omega,by decide,by simp,fun x hx=>by simp at hx;subst hx;exact⟨by omega,by omega⟩⟩
 have k3:∀k,k<ls.length→A9 (prA c ls sum k) Dx (ls.getD k []):=fun k hk=>⟨by have:=hA k (by omega);omega,by decide,by have:=(hp.ln k hk).ne;have:=(hp.ln k hk).len;omega,fun x hx=>by have:=(hp.ln k hk).rng x hx;exact⟨by omega,by omega⟩⟩
 have k4:A9 (prA c ls sum ls.length) uW gv:=⟨by have:=hA ls.length (Nat.le_refl _);omega,by decide,by omega,fun x hx=>by have:=hp.gr x hx;exact⟨by omega,by omega⟩⟩
 have hT:0<(uX c ls sum gv).size∧(uX c ls sum gv).size≤1000000:=by
  have h1:=hA ls.length (Nat.le_refl _)
  have h2:=l5 (w:=uW) (l:=gv) (by decide) k4.sn
  have h3:0<(lnB uW gv).size:=by unfold lnB;rw[ByteArray.size_append];exact Nat.lt_of_lt_of_le (by decide:0<sNl.size) (Nat.le_add_left _ _)
  unfold uX
  rw[ByteArray.size_append]
  omega
 have fin:∀r:ByteArray × Int,r=(if 4096<(uX c ls sum gv).size then(rV,(25:Int))else(uX c ls sum gv,0))→aG Tryz.prog 42 [pzV c ls sum gv] (.tup [.str r.1,.int .i64 r.2]):=by
  intro r hr
  refine av (md:=1) (rf:=[2163]) mixed ak Bc Tryz.func42 (by rfl) (by rfl) (by rfl) ?_
  repeat'((conv=>whnf);first|(intro hq;(try simp only[vw]at hq);try first|exact absurd hq (by decide)|exfalso;omega)|apply aI|with_reducible exact vM rfl|exact⟨⟩|apply nM|apply fM)
  all_goals((try apply vM);(try simp only[vq]at*);try omega)
  all_goals(try first|exact⟨h,hg⟩|exact k1|exact k2|(exfalso;contradiction))
  all_goals(try exact(rfl:K5.zero.cells= #[Value.pointer none,Value.slice none 0 0]))
  conv=>whnf
  refine aM (X:=Nat) (fun k=>k≤ls.length) (fun k=>[(30,.int .i64 k)]) (fun k=>[(5,.bld 163 5 (prA c ls sum k))]) (fun k=>ls.length-k) 0 ⟨aK,mixed,ak,Bc,aQ⟩ (by rfl) (by omega) ?_ ?_
  ·repeat'((conv=>whnf);first|intro _|apply aI|with_reducible exact vM rfl|exact⟨⟩|apply nM|apply fM)
   all_goals((try apply vM);(try simp only[vq]at*);try omega)
  intro k hk
  by_cases hlt:k<ls.length
  ·have hs:=Ga c ls sum k hlt
   repeat'((conv=>whnf);first|(intro hq;(try simp only[vw]at hq);try first|exact absurd hq (by decide)|exfalso;omega)|apply aI|with_reducible exact vM rfl|exact⟨⟩|apply nM|apply fM)
   all_goals((try apply vM);(try simp only[vq]at*);try omega)
   all_goals(try first|exact k3 k hlt|omega)
   refine⟨k+1,[],⟨by omega,by omega⟩,?_⟩
   repeat'((conv=>whnf);first|intro _|apply aI|with_reducible exact vM rfl|exact⟨⟩|apply nM|apply fM)
   all_goals((try apply vM);(try simp only[vq]at*);try omega)
   all_goals(try(rw[hs]))
  have e:k=ls.length:=by omega
  subst e
  have e2:prA c ls sum ls.length++lnB uW gv=uX c ls sum gv:=rfl
  repeat'((conv=>whnf);first|(intro hq;(try simp only[vw]at hq);try first|exact absurd hq (by decide)|exfalso;omega)|apply aI|with_reducible exact vM rfl|exact⟨⟩|apply nM|apply fM)
  all_goals((try apply vM);(try simp only[vq]at*);try omega)
  all_goals(try first|exact k4|omega)
  all_goals(try rw[e2]at*)
  ·rw[hr,if_pos (by omega)];exact Sup.of rfl
  ·exact hT.1
  ·rw[hr,if_neg (by omega)];exact Sup.of rfl
 exact fin _ rfl
def L9:List (List Int):=[[0,1,2],[3,4,5],[6,7,8],[0,3,6],[1,4,7],[2,5,8],[0,4,8],[2,4,6]]
def G9:List Int:=[2,7,0,0,5,0,0,0,0]
def G9b:List Int:=[2,7,5,0,0,0,0,0,0]
def N9:List Int:=[2,7,6,9,5,1,4,3,8]
def O9:List Int:=[8,7,6,5,4,3,2,1,0]
theorem abj:pzE 9 L9 15 G9=0:=by decide+kernel
theorem ab0:(sol 9 L9 15 G9 1).1.length=6∧(sol 9 L9 15 G9 1).2.1.cs.getD 3 []=[9]∧(sol 9 L9 15 G9 1).2.1.cs.length=9∧(sol 9 L9 15 G9 1).2.2=0:=by decide+kernel
theorem abk:fP 9 L9 15 G9 5=([N9],0):=by decide+kernel
theorem ab1:FT 9 L9 15 G9=[6,0,0,0,0]:=by decide+kernel
theorem M0:(kI 9 L9 15 G9).1=1∧(kI 9 L9 15 G9).2.2=0:=by decide+kernel
instance aci:DecidableEq Dd:=fun a b=>match a,b with
 |⟨g,y,x,k⟩,⟨g',y',x',k'⟩=>decidable_of_iff (g=g'∧y=y'∧x=x'∧k=k') ⟨fun h=>by obtain⟨rfl,rfl,rfl,rfl⟩:=h;rfl,fun h=>by cases h;exact⟨rfl,rfl,rfl,rfl⟩⟩
theorem abl:r9 9 L9 15 G9=(some ⟨1,2,6,0⟩,0):=by decide+kernel
abbrev SL:ByteArray:=⟨#[99,101,108,108,32,50,32,105,115,32,54,32,98,121,32,108,97,115,116,32,111,110,32,108,105,110,101,32,48]⟩
theorem ab2:MQ 9 L9 15 G9 ⟨#[108,97,115,116]⟩ 2 6 0=(SL,0):=by decide+kernel
theorem ab3:dV N9=[1,2,3,4,5,6,7,8,9]:=by
 unfold dV
 simp[N9,List.mergeSort,List.MergeSort.Internal.splitInTwo,List.splitAt,List.splitAt.go,List.merge]
theorem adn:iL N9=(true,0):=by
 have h:kY N9=true:=by unfold kY;rw[ab3];decide
 unfold iL
 rw[if_neg (by decide),h]
theorem M8:AY 9 L9 N9 1=0∧SA L9 N9=true∧rY 5 O9=0:=by decide+kernel
theorem Vn:O9.foldl (mkS 9 L9 15 N9 1) N9=[2,7,0,9,0,0,0,0,0]∧fO N9 (L9.getD 0 []) (L9.getD 0 []).length=15:=by decide+kernel
theorem ab4:F6 9 L9 N9 O9 1=((9,L9,15,[2,7,0,9,0,0,0,0,0]),0):=by
 unfold F6
 rw[if_neg (by rw[M8.1];simp),if_neg (by rw[adn];simp),if_neg (by rw[M8.2.1];simp),if_neg (by rw[M8.2.2];decide),Vn.2]
 rw[show(1:Int).toNat=1 from rfl,Vn.1]
abbrev jY:ByteArray:=⟨#[99,101,108,108,115,32,57,10,115,117,109,32,49,53,10,108,105,110,101,32,48,32,49,32,50,10,108,105,110,101,32,51,32,52,32,53,10,108,105,110,101,32,54,32,55,32,56,10,108,105,110,101,32,48,32,51,32,54,10,108,105,110,101,32,49,32,52,32,55,10,108,105,110,101,32,50,32,53,32,56,10,108,105,110,101,32,48,32,52,32,56,10,108,105,110,101,32,50,32,52,32,54,10,103,105,118,101,110,32,50,32,55,32,48,32,48,32,53,32,48,32,48,32,48,32,48,10]⟩
theorem ab5:MX 9 L9 15 G9=(jY,0):=by decide+kernel
def M9 (z:ByteArray):Bool:=decide (0<z.size)&&decide (z.size≤9)&&(decide (z.size=1)||!decide (((z.data.getD 0 0).toNat:Int)=48))&&(dw z).all dgI
theorem xW (z:ByteArray):Ap z↔M9 z=true:=by
 unfold Ap M9
 simp only[Bool.and_eq_true,Bool.or_eq_true,decide_eq_true_eq,Bool.not_eq_true',decide_eq_false_iff_not]
 constructor
 ·rintro⟨⟨h1,h2,h3⟩,h4⟩;exact⟨⟨⟨h1,h2⟩,h3⟩,h4⟩
 ·rintro⟨⟨⟨h1,h2⟩,h3⟩,h4⟩;exact⟨⟨h1,h2,h3⟩,h4⟩
def Na (s:ByteArray) (sg:Bool):Bool:=preB s kMi&&(!sg||decide (jV s kMi=kZe))
theorem Gb (s:ByteArray) (sg:Bool):Mk s sg↔Na s sg=true:=by
 unfold Mk Na
 simp
def Bd (s:ByteArray) (sg:Bool):Option Int:=if(M9 (jV s kMi)&&!Na s sg)=true then Go.Lib.atoi s.data.toList else none
theorem Bf (s:ByteArray) (sg:Bool):fq s sg=Bd s sg:=by
 unfold fq Bd
 by_cases h:M9 (jV s kMi)=true<;>by_cases h2:Na s sg=true
 ·rw[if_neg (fun e=>e.2 ((Gb _ _).2 h2)),if_neg (by simp[h,h2])]
 ·rw[if_pos ⟨(xW _).2 h,fun e=>h2 ((Gb _ _).1 e)⟩,if_pos (by simp[h,h2])]
 ·rw[if_neg (fun e=>h ((xW _).1 e.1)),if_neg (by simp[h,h2])]
 ·rw[if_neg (fun e=>h ((xW _).1 e.1)),if_neg (by simp[h,h2])]
def Gc (s w:ByteArray):Option (List Int):=
 if(decide ((dx 32 s).getD 0 .empty=w)&&((dx 32 s).drop 1).all fun x=>(Bd x (decide (w=iK))).isSome)=true then some (((dx 32 s).drop 1).map fun x=>(Bd x (decide (w=iK))).getD 0)else none
theorem JD (sg:Bool) (ws:List ByteArray):okW sg ws↔(ws.all fun x=>(Bd x sg).isSome)=true:=by
 unfold okW
 rw[List.all_eq_true]
 constructor
 ·intro h x hx
  obtain⟨j,hj,rfl⟩:=List.mem_iff_getElem.1 hx
  have:=h j hj
  rw[List.getD_eq_getElem?_getD,List.getElem?_eq_getElem hj,Bf]at this
  exact this
 ·intro h j hj
  rw[Bf]
  exact h _ (uO hj)
theorem YD (s w:ByteArray):bW s w=Gc s w:=by
 unfold bW Gc numsL
 simp only[Bf]
 by_cases h:(dx 32 s).getD 0 .empty=w<;>by_cases h2:(((dx 32 s).drop 1).all fun x=>(Bd x (decide (w=iK))).isSome)=true
 ·rw[if_pos ⟨h,(JD _ _).2 h2⟩,if_pos (by rw[h2];simp only[h];simp)]
 ·rw[if_neg (fun e=>h2 ((JD _ _).1 e.2)),if_neg (fun e=>h2 (by rw[Bool.and_eq_true]at e;exact e.2))]
 ·rw[if_neg (fun e=>h e.1),if_neg (fun e=>h (by rw[Bool.and_eq_true,decide_eq_true_eq]at e;exact e.1))]
 ·rw[if_neg (fun e=>h e.1),if_neg (fun e=>h (by rw[Bool.and_eq_true,decide_eq_true_eq]at e;exact e.1))]
def Gd (r:Rd) (s:ByteArray):Bool × Rd:=
 if r.line+1≤2 then
  match Gc s (if r.line=0 then FB else iK)with
  |none=>(false,{r with line:=r.line+1})
  |some l=>if l.length≠1 then(false,{r with line:=r.line+1})else if r.line=0 then(true,{r with line:=r.line+1,c:=l.getD 0 0})else(true,{r with line:=r.line+1,sum:=l.getD 0 0})
 else if r.done=true then(false,{r with line:=r.line+1})
 else match Gc s Dv with
  |some l=>(true,{r with line:=r.line+1,L:=r.L++[l]})
  |none=>match Gc s uP with
   |some l=>(true,{r with line:=r.line+1,gv:=l,done:=true})
   |none=>(false,{r with line:=r.line+1,gv:=[],done:=false})
theorem YE (r:Rd) (s:ByteArray):nxt r s=Gd r s:=by
 unfold nxt Gd
 simp only[YD]
 rfl
def rdC:Rd→List ByteArray→Rd × Bool
 |r,[]=>(r,true)
 |r,x::t=>if(Gd r x).1=true then rdC (Gd r x).2 t else((Gd r x).2,false)
theorem abm:∀(l:List ByteArray) (r:Rd),rdG r l=rdC r l:=by
 intro l
 induction l with
 |nil=>intro r;rfl
 |cons x t ih=>
  intro r
  unfold rdG rdC
  rw[YE,ih]
theorem ado:((rdC rd0 (dx 10 (iY jY kNl))).1.c,(rdC rd0 (dx 10 (iY jY kNl))).1.L,(rdC rd0 (dx 10 (iY jY kNl))).1.sum,(rdC rd0 (dx 10 (iY jY kNl))).1.gv,(rdC rd0 (dx 10 (iY jY kNl))).1.done,(rdC rd0 (dx 10 (iY jY kNl))).2)=(9,L9,15,G9,true,true):=by decide+kernel
theorem ab6:uU jY=0:=by decide+kernel
theorem abn:MP jY=((9,L9,15,G9),0,0):=by
 have h:=ado
 have hG:gW jY=rdC rd0 (dx 10 (iY jY kNl)):=abm _ _
 rw[←hG]at h
 simp only[Prod.mk.injEq]at h
 obtain⟨h1,h2,h3,h4,h5,h6⟩:=h
 unfold MP
 rw[if_neg (by rw[ab6];simp),if_neg (by rw[h6];simp),if_neg (by rw[h5];simp),h1,h2,h3,h4,if_neg (by rw[abj];simp)]
theorem abo (l:List Dd):Sup (.isl (dlC l) .none) (.isl (.recs 4 (l.map ddC)) .none):=⟨fun{S w ι v} hr=>by
 have hn:(CL.recs 4 (l.map ddC)).ncell=(dlC l).ncell:=by simp[CL.ncell]
 have hc:(CL.recs 4 (l.map ddC)).cnt=(dlC l).cnt:=by simp[CL.cnt]
 have hg:∀j,j<(dlC l).ncell→(CL.recs 4 (l.map ddC)).get j=(dlC l).get j:=fun j hj=>by
  simp only[CL.ncell]at hj
  have:j / 4<l.length:=by omega
  simp only[CL.get]
  rw[List.getD_eq_getElem?_getD,List.getElem?_map,List.getD_eq_getElem?_getD,List.getElem?_eq_getElem this]
  rfl
 cases hr with
 |islnil _ _ _ h=>exact .islnil _ _ _ (by rw[hc];exact h)
 |isl _ _ _ b off cap h1 h2 h3 h4 h5=>
  rw[←hc]
  exact .isl _ _ _ _ _ _ (by rw[hc];exact h1) (fun j hj=>h2 j (by rw[←hn];exact hj)) (fun j hj=>by rw[hg j (by rw[←hn];exact hj)];exact h3 j (by rw[←hn];exact hj)) (fun h=>by cases h) (fun k h=>by cases h)⟩
theorem Ig:aG Tryz.prog 84 [] (.agg [.int .i64 9,.isl (.rows .i64 L9) .none]):=by
 refine cB (md:=1) (rf:=[]) mixed ak aD Tryz.func84 (by rfl) (by rfl) (by rfl) ?_
 repeat'((conv=>whnf);first|(intro hq;(try simp only[vw]at hq);try first|exact absurd hq (by decide)|exfalso;omega)|apply aI|with_reducible exact vM rfl|exact⟨⟩|apply nM|apply fM)
 all_goals((try apply vM);(try simp only[vq]at*);try omega)
 unfold L9
 all_goals(refine Sup.via ?_;repeat'((conv=>whnf);first|intro _|apply aI|with_reducible exact vM rfl|exact⟨⟩|apply nM|apply fM);all_goals((try apply vM);(try simp only[vq]at*);try omega);all_goals(try(simp[CL.sub];done)))
theorem SN:aG Tryz.prog 85 [] (.isl (.ints .i64 N9) .none):=by
 refine av (md:=1) (rf:=[]) mixed ak aD Tryz.func85 (by rfl) (by rfl) (by rfl) ?_
 repeat'((conv=>whnf);first|(intro hq;(try simp only[vw]at hq);try first|exact absurd hq (by decide)|exfalso;omega)|apply aI|with_reducible exact vM rfl|exact⟨⟩|apply nM|apply fM)
 all_goals((try apply vM);(try simp only[vq]at*);try omega)
 unfold N9
 all_goals(refine Sup.via ?_;repeat'((conv=>whnf);first|intro _|apply aI|with_reducible exact vM rfl|exact⟨⟩|apply nM|apply fM);all_goals((try apply vM);(try simp only[vq]at*);try omega);all_goals(try(simp[CL.sub];done)))
def Bg:PSp:=fun xs K=>match xs with
 | []=>VC (True)∧K (.agg [.int .i64 9,.isl (.rows .i64 L9) .none])
 |_=>False
theorem PY:POK Tryz.prog 84 Bg:=by
 intro xs K h
 unfold Bg at h
 split at h
 ·exact⟨_,h.2,Ig⟩
 ·exact h.elim
def SQ:PSp:=fun xs K=>match xs with
 | []=>VC (True)∧K (.isl (.ints .i64 N9) .none)
 |_=>False
theorem abp:POK Tryz.prog 85 SQ:=by
 intro xs K h
 unfold SQ at h
 split at h
 ·exact⟨_,h.2,SN⟩
 ·exact h.elim
theorem mg:bT L9:=⟨by decide,by decide⟩
def C9:List (List Int):=[[2],[7],[1,3,4,6,8,9],[1,3,4,6,8,9],[5],[1,3,4,6,8,9],[1,3,4,6,8,9],[1,3,4,6,8,9],[1,3,4,6,8,9]]
def D9:List Bool:=[true,true,false,false,true,false,false,false,false]
def T9:List (List PV):=[(6,2,0),(3,7,4),(8,8,6),(4,6,2),(9,3,3),(1,5,1)].map fun d:Int × Int × Int=>[.str bH,.int .i64 d.2.1,.int .i64 d.1,.int .i64 d.2.2]
theorem ab7:uS 9 L9 15 G9=⟨C9,D9⟩:=by
 have h1:(uS 9 L9 15 G9).cs=C9:=by decide+kernel
 have h2:(uS 9 L9 15 G9).ds=D9:=by decide+kernel
 rw[←h1,←h2]
theorem adp:aG Tryz.prog 20 [pzV 9 L9 15 G9] (.tup [.agg [.isl (.rows .i64 C9) .none,.isl (.bools D9) .none],.int .i64 0]):=by
 have h:=ME 9 L9 15 G9 mg (by decide)
 rw[ab7,abj]at h
 exact h
theorem ab8:aG Tryz.prog 21 [pzV 9 L9 15 G9] (.tup [ddV bH 2 6 0,.int .i64 0]):=by
 have h:=Po 9 L9 15 G9 mg (by decide)
 rw[abl]at h
 exact h
theorem ab9:aG Tryz.prog 63 [pzV 9 L9 15 G9,ddV bH 2 6 0] (.tup [.str SL,.int .i64 0]):=by
 have h:=F8 9 L9 15 G9 mg (by decide) bH 2 6 0
 rw[ab2]at h
 exact h
theorem acd:(sol 9 L9 15 G9 1).1.map ddC=T9:=by
 have h:(sol 9 L9 15 G9 1).1=[⟨1,2,6,0⟩,⟨1,7,3,4⟩,⟨1,8,8,6⟩,⟨1,6,4,2⟩,⟨1,3,9,3⟩,⟨1,5,1,1⟩]:=by decide+kernel
 rw[h];rfl
def S9:List (List Int):=[[2],[7],[6],[9],[5],[1],[4],[3],[8]]
theorem abq:aG Tryz.prog 30 [pzV 9 L9 15 G9,.int .i64 1] (.tup [.isl (.recs 4 T9) .none,.agg [.isl (.rows .i64 S9) .none,.isl (.bools (List.replicate 9 true)) .none],.int .i64 0]):=by
 have h:=zD 9 L9 15 G9 1 mg (by decide)
 have h1:sj 9 L9 15 G9 1=sol 9 L9 15 G9 1:=by
  have e:aJ [pzE 9 L9 15 G9,iZ 1]=0∧(sol 9 L9 15 G9 (1:Int).toNat).2.2≠21:=by decide+kernel
  unfold sj
  rw[if_neg (by rw[e.1];simp),if_neg e.2]
  rfl
 rw[h1]at h
 have h2:(sol 9 L9 15 G9 1).2.2=0:=ab0.2.2.2
 have h3:(sol 9 L9 15 G9 1).2.1.cs=S9:=by decide+kernel
 have h4:(sol 9 L9 15 G9 1).2.1.ds=List.replicate 9 true:=by decide+kernel
 rw[←acd]
 refine tV h (AL rfl fun i hi=>?_)
 match i,hi with
 |0,_=>exact abo _
 |1,_=>
  show Sup (stV _) _
  rw[show stV (sol 9 L9 15 G9 1).2.1=.agg [.isl (.rows .i64 (sol 9 L9 15 G9 1).2.1.cs) .none,.isl (.bools (sol 9 L9 15 G9 1).2.1.ds) .none]from rfl,h3]
  rw[h4];exact dU _
 |2,_=>show Sup (.int .i64 _) _;rw[h2];exact dU _
theorem abr:aG Tryz.prog 31 [pzV 9 L9 15 G9] (.tup [.int .i64 1,.int .i64 0]):=by
 have h:=MF 9 L9 15 G9 mg (by decide)
 rw[M0.1,M0.2]at h
 exact h
theorem abt:aG Tryz.prog 32 [pzV 9 L9 15 G9] (.tup [.isl (.ints .i64 [6,0,0,0,0]) .none,.int .i64 0]):=by
 have h:=MG 9 L9 15 G9 mg (by decide)
 rw[ab1,M0.2]at h
 exact h
theorem ace:aG Tryz.prog 53 [.agg [.int .i64 9,.isl (.rows .i64 L9) .none],.isl (.ints .i64 N9) .none,.isl (.ints .i64 O9) .none,.int .i64 1] (.tup [pzV 9 L9 15 [2,7,0,9,0,0,0,0,0],.int .i64 0]):=by
 have h:=PS 9 L9 N9 O9 1 mg (by decide) (by decide)
 rw[ab4]at h
 exact h
theorem acf:aG Tryz.prog 39 [pzV 9 L9 15 G9,.int .i64 5] (.tup [.isl (.rows .i64 [N9]) .none,.int .i64 0]):=by
 have h:=qD 9 L9 15 G9 5 mg (by decide)
 rw[abk]at h
 exact h
theorem abu:aG Tryz.prog 42 [pzV 9 L9 15 G9] (.tup [.str jY,.int .i64 0]):=by
 have h:=MZ 9 L9 15 G9 mg (by decide)
 rw[ab5]at h
 exact h
theorem acg:aG Tryz.prog 44 [.str jY] (.tup [pzV 9 L9 15 G9,.int .i64 0,.int .i64 0]):=by
 have h:=PU jY (by decide+kernel)
 rw[abn]at h
 exact h
theorem abv:aG Tryz.prog 30 [pzV 9 L9 15 G9b,.int .i64 5] (.tup [.any,.agg [.isl (.rows .i64 []) .none,.isl (.bools []) .none],.int .i64 21]):=by
 have h:=zD 9 L9 15 G9b 5 mg (by decide)
 have h1:sj 9 L9 15 G9b 5=([],noS,21):=by
  have e:aJ [pzE 9 L9 15 G9b,iZ 5]=0∧(sol 9 L9 15 G9b (5:Int).toNat).2.2=21:=by decide+kernel
  unfold sj
  rw[if_neg (by rw[e.1];simp),if_pos e.2]
 rw[h1]at h
 refine tV h (AL rfl fun i hi=>?_)
 match i,hi with
 |0,_=>exact⟨fun _=>.any _ _⟩
 |1,_=>exact dU _
 |2,_=>exact dU _
def Nb:PSp:=fun xs K=>match xs with
 | [.agg [.int .i64 c,.isl (.rows .i64 ls) .none,.int .i64 s,.isl (.ints .i64 gv) .none]]=>VC (c=9∧ls=L9∧s=15∧gv=G9)∧K (.tup [.agg [.isl (.rows .i64 C9) .none,.isl (.bools D9) .none],.int .i64 0])
 |_=>False
theorem YF:POK Tryz.prog 20 Nb:=by
 intro xs K h
 unfold Nb at h
 split at h
 ·exact⟨_,h.2,(by obtain⟨rfl,rfl,rfl,rfl⟩:=h.1.get;exact adp)⟩
 ·exact h.elim
def Gf:PSp:=fun xs K=>match xs with
 | [.agg [.int .i64 c,.isl (.rows .i64 ls) .none,.int .i64 s,.isl (.ints .i64 gv) .none]]=>VC (c=9∧ls=L9∧s=15∧gv=G9)∧K (.tup [ddV bH 2 6 0,.int .i64 0])
 |_=>False
theorem SS:POK Tryz.prog 21 Gf:=by
 intro xs K h
 unfold Gf at h
 split at h
 ·exact⟨_,h.2,(by obtain⟨rfl,rfl,rfl,rfl⟩:=h.1.get;exact ab8)⟩
 ·exact h.elim
def Gg:PSp:=fun xs K=>match xs with
 | [.agg [.int .i64 c,.isl (.rows .i64 ls) .none,.int .i64 s,.isl (.ints .i64 gv) .none],.agg [.str r,.int .i64 y,.int .i64 x,.int .i64 k]]=>VC ((c=9∧ls=L9∧s=15∧gv=G9)∧r=bH∧y=2∧x=6∧k=0)∧K (.tup [.str SL,.int .i64 0])
 |_=>False
theorem SV:POK Tryz.prog 63 Gg:=by
 intro xs K h
 unfold Gg at h
 split at h
 ·exact⟨_,h.2,(by obtain⟨⟨rfl,rfl,rfl,rfl⟩,rfl,rfl,rfl,rfl⟩:=h.1.get;exact ab9)⟩
 ·exact h.elim
def Bh:PSp:=fun xs K=>match xs with
 | [.agg [.int .i64 c,.isl (.rows .i64 ls) .none,.int .i64 s,.isl (.ints .i64 gv) .none],.int .i64 g]=>match decide (g=1)with
  |true=>VC (g=1∧c=9∧ls=L9∧s=15∧gv=G9)∧K (.tup [.isl (.recs 4 T9) .none,.agg [.isl (.rows .i64 S9) .none,.isl (.bools (List.replicate 9 true)) .none],.int .i64 0])
  |false=>VC (g=5∧c=9∧ls=L9∧s=15∧gv=G9b)∧K (.tup [.any,.agg [.isl (.rows .i64 []) .none,.isl (.bools []) .none],.int .i64 21])
 |_=>False
theorem PZ:POK Tryz.prog 30 Bh:=by
 intro xs K hk
 unfold Bh at hk
 split at hk
 ·split at hk
  ·obtain⟨⟨rfl,rfl,rfl,rfl,rfl⟩,hk⟩:=hk;exact⟨_,hk,abq⟩
  ·obtain⟨⟨rfl,rfl,rfl,rfl,rfl⟩,hk⟩:=hk;exact⟨_,hk,abv⟩
 ·exact hk.elim
def Bj:PSp:=fun xs K=>match xs with
 | [.agg [.int .i64 c,.isl (.rows .i64 ls) .none,.int .i64 s,.isl (.ints .i64 gv) .none]]=>VC (c=9∧ls=L9∧s=15∧gv=G9)∧K (.tup [.int .i64 1,.int .i64 0])
 |_=>False
theorem P5:POK Tryz.prog 31 Bj:=by
 intro xs K h
 unfold Bj at h
 split at h
 ·exact⟨_,h.2,(by obtain⟨rfl,rfl,rfl,rfl⟩:=h.1.get;exact abr)⟩
 ·exact h.elim
def Bl:PSp:=fun xs K=>match xs with
 | [.agg [.int .i64 c,.isl (.rows .i64 ls) .none,.int .i64 s,.isl (.ints .i64 gv) .none]]=>VC (c=9∧ls=L9∧s=15∧gv=G9)∧K (.tup [.isl (.ints .i64 [6,0,0,0,0]) .none,.int .i64 0])
 |_=>False
theorem P6:POK Tryz.prog 32 Bl:=by
 intro xs K h
 unfold Bl at h
 split at h
 ·exact⟨_,h.2,(by obtain⟨rfl,rfl,rfl,rfl⟩:=h.1.get;exact abt)⟩
 ·exact h.elim
def Gh:PSp:=fun xs K=>match xs with
 | [.agg [.int .i64 c,.isl (.rows .i64 ls) .none],.isl (.ints .i64 nv) .none,.isl (.ints .i64 ov) .none,.int .i64 g]=>VC (c=9∧ls=L9∧nv=N9∧ov=O9∧g=1)∧K (.tup [pzV 9 L9 15 [2,7,0,9,0,0,0,0,0],.int .i64 0])
 |_=>False
theorem SX:POK Tryz.prog 53 Gh:=by
 intro xs K h
 unfold Gh at h
 split at h
 ·exact⟨_,h.2,(by obtain⟨rfl,rfl,rfl,rfl,rfl⟩:=h.1.get;exact ace)⟩
 ·exact h.elim
def Gi:PSp:=fun xs K=>match xs with
 | [.agg [.int .i64 c,.isl (.rows .i64 ls) .none,.int .i64 s,.isl (.ints .i64 gv) .none],.int .i64 lim]=>VC ((c=9∧ls=L9∧s=15∧gv=G9)∧lim=5)∧K (.tup [.isl (.rows .i64 [N9]) .none,.int .i64 0])
 |_=>False
theorem SY:POK Tryz.prog 39 Gi:=by
 intro xs K h
 unfold Gi at h
 split at h
 ·exact⟨_,h.2,(by obtain⟨⟨rfl,rfl,rfl,rfl⟩,rfl⟩:=h.1.get;exact acf)⟩
 ·exact h.elim
def Bn:PSp:=fun xs K=>match xs with
 | [.agg [.int .i64 c,.isl (.rows .i64 ls) .none,.int .i64 s,.isl (.ints .i64 gv) .none]]=>VC (c=9∧ls=L9∧s=15∧gv=G9)∧K (.tup [.str jY,.int .i64 0])
 |_=>False
theorem P7:POK Tryz.prog 42 Bn:=by
 intro xs K h
 unfold Bn at h
 split at h
 ·exact⟨_,h.2,(by obtain⟨rfl,rfl,rfl,rfl⟩:=h.1.get;exact abu)⟩
 ·exact h.elim
def Gj:PSp:=fun xs K=>match xs with
 | [.str s]=>VC (s=jY)∧K (.tup [pzV 9 L9 15 G9,.int .i64 0,.int .i64 0])
 |_=>False
theorem Ta:POK Tryz.prog 44 Gj:=by
 intro xs K h
 unfold Gj at h
 split at h
 ·exact⟨_,h.2,(by obtain rfl:=h.1.get;exact acg)⟩
 ·exact h.elim
noncomputable def ach:CPT:=aA 20 (kg Nb) (aA 21 (kg Gf) (aA 30 (kg Bh) (aA 31 (kg Bj) (aA 32 (kg Bl) (aA 36 (aB mK) (aA 39 (kg Gi) (aA 42 (kg Bn) (aA 44 (aB Gj) (aA 53 (aB Gh) (aA 63 (kg Gg) (aA 84 (aB Bg) (aA 85 (aB SQ) noC))))))))))))
theorem Tc:aY Tryz.prog ach:=aj (iw YF) (aj (iw SS) (aj (iw PZ) (aj (iw P5) (aj (iw P6) (aj (au pV) (aj (iw SY) (aj (iw P7) (aj (au Ta) (aj (au SX) (aj (iw SV) (aj (au PY) (aj (au abp) aD))))))))))))
theorem Nc:aG Tryz.prog 17 [] (.bp true):=by
 refine cB (md:=1) (rf:=[28]) mixed ak Tc Tryz.func17 (by rfl) (by rfl) (by rfl) ?_
 repeat'((conv=>whnf);first|(intro hq;(try simp only[vw]at hq);try first|exact absurd hq (by decide)|exfalso;omega)|apply aI|with_reducible exact vM rfl|exact⟨⟩|apply nM|apply fM)
 all_goals((try apply vM);(try simp only[vq]at*);try omega)
 all_goals(try rfl)
 all_goals(try decide+kernel)
 all_goals(try(exfalso;exact absurd hq (by decide+kernel)))
 have hb:∀b,b=true→Sup (bF ([PV.bp b]++[])) (PV.bp true):=fun b e=>by subst e;exact Sup.of rfl
 exact hb _ (by decide+kernel)
def Gl:PSp:=fun xs K=>match xs with
 | []=>VC (True)∧K (.bp true)
 |_=>False
theorem Td:POK Tryz.prog 17 Gl:=by
 intro xs K h
 unfold Gl at h
 split at h
 ·exact⟨_,h.2,Nc⟩
 ·exact h.elim
end Go.Eng.YtcechbdgokjmgaaGreatDoor
namespace Go.Eng.YtcechbdgokjmgaaGreatDoor
open Go.Proofs
set_option linter.unusedSimpArgs false
set_option linter.unusedVariables false
set_option maxHeartbeats 0
set_option maxRecDepth 100000
theorem Te (c:Int) (ls:List (List Int)) (sum:Int) (gv:List Int):aG Tryz.prog 19 [pzV c ls sum gv] (pzV c ls sum gv):=by
 refine av (md:=1) (rf:=[]) mixed ak aD Tryz.func19 (by rfl) (by rfl) (by rfl) ?_
 repeat'((conv=>whnf);first|intro _|apply aI|with_reducible exact vM rfl|exact⟨⟩|apply nM|apply fM)
 all_goals((try apply vM);(try simp only[vq]at*);try omega)
 all_goals exact Sup.of rfl
def Nf:PSp:=fun xs K=>match xs with
 | [.agg [.int .i64 c,.isl (.rows .i64 ls) .none,.int .i64 sum,.isl (.ints .i64 gv) .none]]=>VC (True)∧K (.agg [.int .i64 c,.isl (.rows .i64 ls) .none,.int .i64 sum,.isl (.ints .i64 gv) .none])
 |_=>False
theorem P8:POK Tryz.prog 19 Nf:=by
 intro xs K h
 unfold Nf at h
 split at h
 ·exact⟨_,h.2,Te _ _ _ _⟩
 ·exact h.elim
def shB (ls:List (List Int)) (k n:Nat):Bool:=decide (ls.length≤n)&&ls.all fun l=>decide (l.length≤k)
theorem P9 {ls:List (List Int)} {k n:Nat} (h:shB ls k n=true):ls.length≤n∧∀l∈ls,l.length≤k:=by
 unfold shB at h
 rw[Bool.and_eq_true,decide_eq_true_eq,List.all_eq_true]at h
 exact⟨h.1,fun l hl=>of_decide_eq_true (h.2 l hl)⟩
theorem Ng (c:Int) (ls:List (List Int)) (k n:Nat) (hn:n≤1000000):aG Tryz.prog 50 [.agg [.int .i64 c,.isl (.rows .i64 ls) .none],.int .i64 (k:Int),.int .i64 (n:Int)] (.bp (shB ls k n)):=by
 by_cases h1:ls.length≤n
 case neg=>
  rw[show shB ls k n=false by unfold shB;rw[decide_eq_false h1];rfl]
  refine av (md:=1) (rf:=[]) mixed ak aD Tryz.func50 (by rfl) (by rfl) (by rfl) ?_
  repeat'((conv=>whnf);first|(intro hq;(try simp only[vw]at hq);try first|exact absurd hq (by decide)|exfalso;omega)|apply aI|with_reducible exact vM rfl|exact⟨⟩|apply nM|apply fM)
  all_goals((try apply vM);(try simp only[vq]at*);try omega)
  all_goals first|omega|exact gJ false|skip
 refine av (md:=1) (rf:=[]) mixed ak aD Tryz.func50 (by rfl) (by rfl) (by rfl) ?_
 repeat'((conv=>whnf);first|(intro hq;(try simp only[vw]at hq);try first|exact absurd hq (by decide)|exfalso;omega)|apply aI|with_reducible exact vM rfl|exact⟨⟩|apply nM|apply fM)
 all_goals((try apply vM);(try simp only[vq]at*);try omega)
 all_goals(try omega)
 conv=>whnf
 refine aM (X:=Nat) (fun i=>i≤ls.length∧∀j,j<i→(ls.getD j []).length≤k) (fun i=>[(7,.int .i64 i)]) (fun i=>[]) (fun i=>ls.length-i) 0 ⟨aK,mixed,ak,aD,aQ⟩ (by rfl) ⟨by omega,fun j hj=>by omega⟩ ?_ ?_
 ·repeat'((conv=>whnf);first|intro _|apply aI|with_reducible exact vM rfl|exact⟨⟩|apply nM|apply fM)
  all_goals((try apply vM);(try simp only[vq]at*);try omega)
 intro i ⟨hi,hok⟩
 by_cases hlt:i<ls.length
 ·repeat'((conv=>whnf);first|(intro hq;(try simp only[vw]at hq);try first|exact absurd hq (by decide)|exfalso;omega)|apply aI|with_reducible exact vM rfl|exact⟨⟩|apply nM|apply fM)
  all_goals((try apply vM);(try simp only[vq]at*);try omega)
  all_goals(try omega)
  ·have:shB ls k n=false:=by
    unfold shB
    rw[List.all_eq_false.2 ⟨ls.getD i [],kM hlt,by rw[decide_eq_false (by omega)];simp⟩,Bool.and_false]
   rw[this]
   exact gJ false
  ·refine⟨i+1,[],⟨⟨by omega,fun j hj=>?_⟩,by omega⟩,?_⟩
   ·by_cases e:j=i
    ·subst e;omega
    ·exact hok j (by omega)
   repeat'((conv=>whnf);first|intro _|apply aI|with_reducible exact vM rfl|exact⟨⟩|apply nM|apply fM)
   all_goals((try apply vM);(try simp only[vq]at*);try omega)
 have e:i=ls.length:=by omega
 subst e
 have:shB ls k n=true:=by
  unfold shB
  rw[decide_eq_true h1,Bool.true_and,List.all_eq_true]
  intro l hl
  obtain⟨j,hj,rfl⟩:=List.getElem_of_mem hl
  have:=hok j hj
  rw[List.getD_eq_getElem?_getD,List.getElem?_eq_getElem hj]at this
  exact decide_eq_true this
 rw[this]
 repeat'((conv=>whnf);first|(intro hq;(try simp only[vw]at hq);try first|exact absurd hq (by decide)|exfalso;omega)|apply aI|with_reducible exact vM rfl|exact⟨⟩|apply nM|apply fM)
 all_goals((try apply vM);(try simp only[vq]at*);try omega)
 all_goals first|omega|exact gJ true
def zH:PSp:=fun xs K=>match xs with
 | [.agg [.int .i64 c,.isl (.rows .i64 ls) .none],.int .i64 k,.int .i64 n]=>VC (0≤k∧0≤n∧n≤1000000)∧K (.bp (shB ls k.toNat n.toNat))
 |_=>False
theorem Gm:POK Tryz.prog 50 zH:=by
 intro xs K hk
 unfold zH at hk
 split at hk
 ·rename_i c ls k n
  obtain⟨⟨h1,h2,h3⟩,hk⟩:=hk
  obtain⟨k',rfl⟩:∃k':Nat,k=k':=⟨k.toNat,by omega⟩
  obtain⟨n',rfl⟩:∃n':Nat,n=n':=⟨n.toNat,by omega⟩
  exact⟨_,hk,Ng _ _ _ _ (by omega)⟩
 ·exact hk.elim
noncomputable def adq:CPT:=aA 50 (aB zH) noC
theorem JE:aY Tryz.prog adq:=aj (au Gm) aD
def pY (ls:List (List Int)) (gv:List Int):Bool:=shB ls 20 130&&decide ((gv.length:Int)≤260)
theorem Ih (c:Int) (ls:List (List Int)) (sum:Int) (gv:List Int):aG Tryz.prog 41 [pzV c ls sum gv] (.bp (pY ls gv)):=by
 unfold pY
 cases h:shB ls 20 130 with
 |true=>
  refine av (md:=1) (rf:=[]) mixed ak JE Tryz.func41 (by rfl) (by rfl) (by rfl) ?_
  repeat'((conv=>whnf);first|(intro hq;(try simp only[vw]at hq);try first|exact absurd hq (by decide)|exfalso;omega)|apply aI|with_reducible exact vM rfl|exact⟨⟩|apply nM|apply fM)
  all_goals((try apply vM);(try simp only[vq]at*);try omega)
  ·rw[Bool.true_and];exact Sup.of rfl
  ·exact absurd (h.symm.trans hq) (by decide)
 |false=>
  refine av (md:=1) (rf:=[]) mixed ak JE Tryz.func41 (by rfl) (by rfl) (by rfl) ?_
  repeat'((conv=>whnf);first|(intro hq;(try simp only[vw]at hq);try first|exact absurd hq (by decide)|exfalso;omega)|apply aI|with_reducible exact vM rfl|exact⟨⟩|apply nM|apply fM)
  all_goals((try apply vM);(try simp only[vq]at*);try omega)
  ·exact absurd (hq.symm.trans h) (by decide)
  ·exact gJ false
def Bo:PSp:=fun xs K=>match xs with
 | [.agg [.int .i64 c,.isl (.rows .i64 ls) .none,.int .i64 sum,.isl (.ints .i64 gv) .none]]=>VC (True)∧K (.bp (pY ls gv))
 |_=>False
theorem Qa:POK Tryz.prog 41 Bo:=by
 intro xs K h
 unfold Bo at h
 split at h
 ·exact⟨_,h.2,Ih _ _ _ _⟩
 ·exact h.elim
theorem JF {ls:List (List Int)} {gv:List Int} (h:pY ls gv=true):bT ls∧gv.length≤260:=by
 unfold pY at h
 rw[Bool.and_eq_true,decide_eq_true_eq]at h
 obtain⟨h1,h2⟩:=P9 h.1
 exact⟨⟨by omega,fun l hl=>by have:=h2 l hl;omega⟩,by omega⟩
def uY (c:Int) (ls:List (List Int)) (k n:Nat):Bool:=shB ls k n&&(decide (iJ c ls=0)&&decide (c≤k))
noncomputable def adr:CPT:=aA 50 (aB zH) (aA 120 (aB Dt) noC)
theorem Bp:aY Tryz.prog adr:=aj (au Gm) (aj (au Je) aD)
theorem JG {ls:List (List Int)} {k n:Nat} (h:shB ls k n=true) (hk:k≤5000) (hn:n≤1000000):bT ls:=by
 obtain⟨h1,h2⟩:=P9 h
 exact⟨by omega,fun l hl=>by have:=h2 l hl;omega⟩
theorem Tf (c:Int) (ls:List (List Int)) (k n:Nat) (hk:k≤5000) (hn:n≤1000000):aG Tryz.prog 52 [.agg [.int .i64 c,.isl (.rows .i64 ls) .none],.int .i64 (k:Int),.int .i64 (n:Int)] (.bp (uY c ls k n)):=by
 unfold uY
 cases h:shB ls k n with
 |false=>
  rw[Bool.false_and]
  refine av (md:=1) (rf:=[]) mixed ak Bp Tryz.func52 (by rfl) (by rfl) (by rfl) ?_
  repeat'((conv=>whnf);first|(intro hq;(try simp only[vw]at hq);try first|exact absurd hq (by decide)|exfalso;omega)|apply aI|with_reducible exact vM rfl|exact⟨⟩|apply nM|apply fM)
  all_goals((try apply vM);(try simp only[vq]at*);try omega)
  all_goals first|omega|exact gJ false|exact absurd (hq.symm.trans h) (by decide)|(exfalso;exact absurd (h.symm.trans (‹shB ls _ _=true›)) (by decide))|skip
 |true=>
  have hL:=JG h hk hn
  rw[Bool.true_and]
  by_cases h1:iJ c ls=0
  ·rw[decide_eq_true h1,Bool.true_and]
   refine av (md:=1) (rf:=[]) mixed ak Bp Tryz.func52 (by rfl) (by rfl) (by rfl) ?_
   repeat'((conv=>whnf);first|(intro hq;(try simp only[vw]at hq);try first|exact absurd hq (by decide)|exfalso;omega)|apply aI|with_reducible exact vM rfl|exact⟨⟩|apply nM|apply fM)
   all_goals((try apply vM);(try simp only[vq]at*);try omega)
   all_goals first|omega|exact hL|exact Sup.of rfl|exact absurd (h.symm.trans hq) (by decide)|(exfalso;exact hq h1)|skip
  ·rw[decide_eq_false h1,Bool.false_and]
   refine av (md:=1) (rf:=[]) mixed ak Bp Tryz.func52 (by rfl) (by rfl) (by rfl) ?_
   repeat'((conv=>whnf);first|(intro hq;(try simp only[vw]at hq);try first|exact absurd hq (by decide)|exfalso;omega)|apply aI|with_reducible exact vM rfl|exact⟨⟩|apply nM|apply fM)
   all_goals((try apply vM);(try simp only[vq]at*);try omega)
   all_goals first|omega|exact hL|exact gJ false|exact absurd (h.symm.trans hq) (by decide)|(exfalso;exact h1 hq)|skip
def Tg:PSp:=fun xs K=>match xs with
 | [.agg [.int .i64 c,.isl (.rows .i64 ls) .none],.int .i64 k,.int .i64 n]=>VC ((0≤k∧k≤5000)∧0≤n∧n≤1000000)∧K (.bp (uY c ls k.toNat n.toNat))
 |_=>False
theorem abw:POK Tryz.prog 52 Tg:=by
 intro xs K hk
 unfold Tg at hk
 split at hk
 ·rename_i c ls k n
  obtain⟨⟨h1,h2,h3⟩,hk⟩:=hk
  obtain⟨k',rfl⟩:∃k':Nat,k=k':=⟨k.toNat,by omega⟩
  obtain⟨n',rfl⟩:∃n':Nat,n=n':=⟨n.toNat,by omega⟩
  exact⟨_,hk,Tf _ _ _ _ (by omega) (by omega)⟩
 ·exact hk.elim
def Nh (c:Int) (ls:List (List Int)) (sum:Int) (gv:List Int) (k n:Nat):Bool:=uY c ls k n&&(decide ((gv.length:Int)≤k)&&decide (pzE c ls sum gv=0))
noncomputable def ads:CPT:=aA 18 (aB FJ) (aA 52 (aB Tg) noC)
theorem Bq:aY Tryz.prog ads:=aj (au FK) (aj (au abw) aD)
theorem Ti {c:Int} {ls:List (List Int)} {k n:Nat} (h:uY c ls k n=true) (hk:k≤5000) (hn:n≤1000000):bT ls:=by
 unfold uY at h
 rw[Bool.and_eq_true]at h
 exact JG h.1 hk hn
theorem Qb (c:Int) (ls:List (List Int)) (sum:Int) (gv:List Int) (k n:Nat) (hk:k≤5000) (hn:n≤1000000):aG Tryz.prog 29 [pzV c ls sum gv,.int .i64 (k:Int),.int .i64 (n:Int)] (.bp (Nh c ls sum gv k n)):=by
 unfold Nh
 cases h:uY c ls k n with
 |false=>
  rw[Bool.false_and]
  refine av (md:=1) (rf:=[]) mixed ak Bq Tryz.func29 (by rfl) (by rfl) (by rfl) ?_
  repeat'((conv=>whnf);first|(intro hq;(try simp only[vw]at hq);try first|exact absurd hq (by decide)|exfalso;omega)|apply aI|with_reducible exact vM rfl|exact⟨⟩|apply nM|apply fM)
  all_goals((try apply vM);(try simp only[vq]at*);try omega)
  all_goals first|omega|exact gJ false|exact absurd (hq.symm.trans h) (by decide)|(exfalso;exact absurd (h.symm.trans (‹uY c ls _ _=true›)) (by decide))|skip
 |true=>
  have hL:=Ti h hk hn
  rw[Bool.true_and]
  by_cases h1:(gv.length:Int)≤k
  ·rw[decide_eq_true h1,Bool.true_and]
   refine av (md:=1) (rf:=[]) mixed ak Bq Tryz.func29 (by rfl) (by rfl) (by rfl) ?_
   repeat'((conv=>whnf);first|(intro hq;(try simp only[vw]at hq);try first|exact absurd hq (by decide)|exfalso;omega)|apply aI|with_reducible exact vM rfl|exact⟨⟩|apply nM|apply fM)
   all_goals((try apply vM);(try simp only[vq]at*);try omega)
   all_goals first|omega|exact⟨hL,by omega⟩|exact Sup.of rfl|exact absurd (h.symm.trans hq) (by decide)|(exfalso;exact hq h1)|skip
  ·rw[decide_eq_false h1,Bool.false_and]
   refine av (md:=1) (rf:=[]) mixed ak Bq Tryz.func29 (by rfl) (by rfl) (by rfl) ?_
   repeat'((conv=>whnf);first|(intro hq;(try simp only[vw]at hq);try first|exact absurd hq (by decide)|exfalso;omega)|apply aI|with_reducible exact vM rfl|exact⟨⟩|apply nM|apply fM)
   all_goals((try apply vM);(try simp only[vq]at*);try omega)
   all_goals first|omega|exact⟨hL,by omega⟩|exact gJ false|exact absurd (h.symm.trans hq) (by decide)|(exfalso;exact h1 hq)|skip
def Ni:PSp:=fun xs K=>match xs with
 | [.agg [.int .i64 c,.isl (.rows .i64 ls) .none,.int .i64 sum,.isl (.ints .i64 gv) .none],.int .i64 k,.int .i64 n]=>VC ((0≤k∧k≤5000)∧0≤n∧n≤1000000)∧K (.bp (Nh c ls sum gv k.toNat n.toNat))
 |_=>False
theorem YG:POK Tryz.prog 29 Ni:=by
 intro xs K hk
 unfold Ni at hk
 split at hk
 ·rename_i c ls sum gv k n
  obtain⟨⟨h1,h2,h3⟩,hk⟩:=hk
  obtain⟨k',rfl⟩:∃k':Nat,k=k':=⟨k.toNat,by omega⟩
  obtain⟨n',rfl⟩:∃n':Nat,n=n':=⟨n.toNat,by omega⟩
  exact⟨_,hk,Qb _ _ _ _ _ _ (by omega) (by omega)⟩
 ·exact hk.elim
noncomputable def adt:CPT:=aA 18 (aB FJ) (aA 19 (aB Nf) (aA 29 (aB Ni) (aA 41 (aB Bo) noC)))
theorem Br:aY Tryz.prog adt:=aj (au FK) (aj (au P8) (aj (au YG) (aj (au Qa) aD)))
def Bt (c:Int) (ls:List (List Int)) (sum:Int) (gv:List Int):Bool:=!pY ls gv||(decide (pzE c ls sum gv=0)&&!Nh c ls sum gv 12 12)
theorem Nj (c:Int) (ls:List (List Int)) (sum:Int) (gv:List Int):aG Tryz.prog 16 [pzV c ls sum gv] (.bp (Bt c ls sum gv)):=by
 unfold Bt
 cases h:pY ls gv with
 |false=>
  rw[Bool.not_false,Bool.true_or]
  refine av (md:=1) (rf:=[]) mixed ak Br Tryz.func16 (by rfl) (by rfl) (by rfl) ?_
  repeat'((conv=>whnf);first|(intro hq;(try simp only[vw]at hq);try first|exact absurd hq (by decide)|exfalso;omega)|apply aI|with_reducible exact vM rfl|exact⟨⟩|apply nM|apply fM)
  all_goals((try apply vM);(try simp only[vq]at*);try omega)
  all_goals first|omega|exact gJ true|exact absurd (hq.symm.trans h) (by decide)|(exfalso;exact absurd ((‹pY ls gv=true›).symm.trans h) (by decide))|skip
 |true=>
  obtain⟨hL,hg⟩:=JF h
  rw[Bool.not_true,Bool.false_or]
  by_cases h1:pzE c ls sum gv=0
  ·rw[decide_eq_true h1,Bool.true_and]
   refine av (md:=1) (rf:=[]) mixed ak Br Tryz.func16 (by rfl) (by rfl) (by rfl) ?_
   repeat'((conv=>whnf);first|(intro hq;(try simp only[vw]at hq);try first|exact absurd hq (by decide)|exfalso;omega)|apply aI|with_reducible exact vM rfl|exact⟨⟩|apply nM|apply fM)
   all_goals((try apply vM);(try simp only[vq]at*);try omega)
   all_goals first|omega|exact⟨hL,by omega⟩|exact Sup.of rfl|exact absurd (h.symm.trans hq) (by decide)|(exfalso;exact hq h1)|skip
  ·rw[decide_eq_false h1,Bool.false_and]
   refine av (md:=1) (rf:=[]) mixed ak Br Tryz.func16 (by rfl) (by rfl) (by rfl) ?_
   repeat'((conv=>whnf);first|(intro hq;(try simp only[vw]at hq);try first|exact absurd hq (by decide)|exfalso;omega)|apply aI|with_reducible exact vM rfl|exact⟨⟩|apply nM|apply fM)
   all_goals((try apply vM);(try simp only[vq]at*);try omega)
   all_goals first|omega|exact⟨hL,by omega⟩|exact gJ false|exact absurd (h.symm.trans hq) (by decide)|(exfalso;exact h1 hq)|skip
def Gn:PSp:=fun xs K=>match xs with
 | [.agg [.int .i64 c,.isl (.rows .i64 ls) .none,.int .i64 sum,.isl (.ints .i64 gv) .none]]=>VC (True)∧K (.bp (Bt c ls sum gv))
 |_=>False
theorem Tj:POK Tryz.prog 16 Gn:=by
 intro xs K h
 unfold Gn at h
 split at h
 ·exact⟨_,h.2,Nj _ _ _ _⟩
 ·exact h.elim
end Go.Eng.YtcechbdgokjmgaaGreatDoor
namespace Go.Eng.YtcechbdgokjmgaaGreatDoor
open Go.Proofs Go.RowKit
set_option linter.unusedSimpArgs false
set_option linter.unusedVariables false
set_option maxHeartbeats 0
set_option maxRecDepth 100000
def sD (p:PSp) (u:PV):PSp:=fun xs K=>p xs (fun v=>VC (Sup v u))∧K u
theorem nU {g:FuncId} {p:PSp} (h:POK Tryz.prog g p) (u:PV):POK Tryz.prog g (sD p u):=by
 intro xs K hk
 obtain⟨v,hv,hp⟩:=h _ _ hk.1
 exact⟨u,hk.2,tV hp hv.get⟩
theorem qF {a b:Bool} (h:a=b):Sup (.bp a) (.bool b):=⟨fun hr=>by cases hr;subst h;exact .bool _ _⟩
theorem lg {a b:Int} (h:a=b):Sup (.int .i64 a) (.int .i64 b):=Sup.of (by rw[h])
end Go.Eng.YtcechbdgokjmgaaGreatDoor
namespace Go.Eng.YtcechbdgokjmgaaGreatDoor
open Go.Proofs
set_option linter.unusedSimpArgs false
set_option linter.unusedVariables false
set_option maxHeartbeats 0
set_option maxRecDepth 100000
structure adw (c:Int) (ls:List (List Int)) (sum:Int) (s:St) (o:List Int) (x:Int):Prop where
 bd:bM c ls sum s
 rng:∀y∈o,0≤y∧y<c
 len:o.length≤16
 x: -2000000000≤x∧x≤2000000000
structure adx (c:Int) (ls:List (List Int)) (sum:Int) (s:St) (o used:List Int) (x:Int):Prop where
 bd:bM c ls sum s
 rng:∀y∈o,0≤y∧y<c
 len:o.length+used.length≤30
 x: -2000000000+16*(o.length:Int)≤x∧x≤2000000000
structure ady (c:Int) (ls:List (List Int)) (sum:Int) (s:St) (k:Int):Prop where
 bd:bM c ls sum s
 k:0≤k∧k<ls.length
theorem Ii (c:Int) (ls:List (List Int)) (sum:Int) (gv:List Int) (h:gv.length≤9223372036854775807):aG Tryz.prog 38 [pzV c ls sum gv] (.int .i64 ((gv.filter fun x=>decide (x=0)).length:Nat)):=by
 have ha:∀i,i<gv.length→((gv.take (i+1)).filter fun x=>decide (x=0)).length=((gv.take i).filter fun x=>decide (x=0)).length+if gv.getD i 0=0 then 1 else 0:=fun i hi=>by
  rw[cZ hi,List.filter_append,List.length_append]
  congr 1
  by_cases e:gv.getD i 0=0
  ·rw[if_pos e];simp only[List.filter_cons,decide_eq_true e];rfl
  ·rw[if_neg e];simp only[List.filter_cons,decide_eq_false e];rfl
 have hb:∀i,i≤gv.length→((gv.take i).filter fun x=>decide (x=0)).length≤i:=fun i hi=>Nat.le_trans (List.length_filter_le _ _) (by rw[List.length_take];omega)
 refine av (md:=1) (rf:=[]) mixed ak aD Tryz.func38 (by rfl) (by rfl) (by rfl) ?_
 repeat'((conv=>whnf);first|intro _|apply aI|with_reducible exact vM rfl|exact⟨⟩|apply nM|apply fM)
 all_goals((try apply vM);(try simp only[vq]at*);try omega)
 conv=>whnf
 refine aM (X:=Nat) (fun i=>i≤gv.length) (fun i=>[(4,.int .i64 i),(3,.int .i64 (((gv.take i).filter fun x=>decide (x=0)).length:Nat))]) (fun i=>[]) (fun i=>gv.length-i) 0 ⟨aK,mixed,ak,aD,aQ⟩ (by rfl) (by omega) ?_ ?_
 ·repeat'((conv=>whnf);first|intro _|apply aI|with_reducible exact vM rfl|exact⟨⟩|apply nM|apply fM)
  all_goals((try apply vM);(try simp only[vq]at*);try omega)
 intro i hi
 by_cases hlt:i<gv.length
 ·have hx:=ha i hlt
  have hbi:=hb i (by omega)
  repeat'((conv=>whnf);first|(intro hq;(try simp only[vw]at hq);try first|exact absurd hq (by decide)|exfalso;omega)|apply aI|with_reducible exact vM rfl|exact⟨⟩|apply nM|apply fM)
  all_goals((try apply vM);(try simp only[vq]at*);try omega)
  all_goals(try omega)
  ·rw[if_pos hq]at hx
   refine⟨i+1,[],⟨by omega,by omega⟩,?_⟩
   rw[hx]
   repeat'((conv=>whnf);first|intro _|apply aI|with_reducible exact vM rfl|exact⟨⟩|apply nM|apply fM)
   all_goals((try apply vM);(try simp only[vq]at*);try omega)
  ·rw[if_neg hq,Nat.add_zero]at hx
   refine⟨i+1,[],⟨by omega,by omega⟩,?_⟩
   rw[hx]
   repeat'((conv=>whnf);first|intro _|apply aI|with_reducible exact vM rfl|exact⟨⟩|apply nM|apply fM)
   all_goals((try apply vM);(try simp only[vq]at*);try omega)
 ·have:i=gv.length:=by omega
  subst this
  rw[List.take_length]
  repeat'((conv=>whnf);first|(intro hq;(try simp only[vw]at hq);try first|exact absurd hq (by decide)|exfalso;omega)|apply aI|with_reducible exact vM rfl|exact⟨⟩|apply nM|apply fM)
  all_goals((try apply vM);(try simp only[vq]at*);try omega)
  all_goals first|omega|exact Sup.of rfl
end Go.Eng.YtcechbdgokjmgaaGreatDoor
namespace Go.Eng.YtcechbdgokjmgaaGreatDoor
set_option linter.unusedSimpArgs false
set_option linter.unusedVariables false
def sF (g:Int→Int):List Int→Int
 | []=>0
 |x::r=>g x+sF g r
theorem Bu (g:Int→Int):∀(l:List Int) (a:Int),l.foldl (fun a x=>a+g x) a=a+sF g l:=by
 intro l
 induction l with
 |nil=>intro a;simp[sF]
 |cons x r ih=>intro a;rw[List.foldl_cons,ih];simp only[sF];omega
theorem Dy {g h:Int→Int}:∀{l:List Int},(∀x∈l,g x≤h x)→sF g l≤sF h l:=by
 intro l
 induction l with
 |nil=>intro _;exact Int.le_refl _
 |cons x r ih=>
  intro hh
  have h1:=hh x (by simp)
  have h2:=ih fun y hy=>hh y (by simp[hy])
  simp only[sF];omega
theorem oN {g h:Int→Int} {l:List Int} (hh:∀x∈l,g x=h x):sF g l=sF h l:=by
 have h1:=Dy (g:=g) (h:=h) fun x hx=>by rw[hh x hx];exact Int.le_refl _
 have h2:=Dy (g:=h) (h:=g) fun x hx=>by rw[hh x hx];exact Int.le_refl _
 omega
theorem Qc (g h:Int→Int):∀(l:List Int),sF (fun x=>g x+h x) l=sF g l+sF h l:=by
 intro l
 induction l with
 |nil=>rfl
 |cons x r ih=>simp only[sF,ih];omega
theorem Qd (g:Int→Int) (p:Int→Bool):∀(l:List Int),sF g (l.filter p)=sF (fun x=>if p x then g x else 0) l:=by
 intro l
 induction l with
 |nil=>rfl
 |cons x r ih=>
  rw[List.filter_cons]
  cases hp:p x with
  |true=>rw[if_pos rfl];simp only[sF,ih,hp];rfl
  |false=>rw[if_neg (by simp)];simp only[sF,ih,hp];simp
theorem YH:∀(l:List Int),sF (fun _=>0) l=0:=by
 intro l
 induction l with
 |nil=>rfl
 |cons x r ih=>simp only[sF,ih];rfl
theorem abx {y a:Int}:∀{l:List Int},l.Pairwise (·< ·)→y∈l→sF (fun x=>if x=y then a else 0) l=a:=by
 intro l
 induction l with
 |nil=>intro _ h;simp at h
 |cons x r ih=>
  intro hp hy
  have hp':=List.pairwise_cons.1 hp
  simp only[sF]
  by_cases e:x=y
  ·subst e
   have:sF (fun z=>if z=x then a else 0) r=sF (fun _=>0) r:=oN fun z hz=>by
    have:=hp'.1 z hz
    rw[if_neg (by omega)]
   rw[if_pos rfl,this,YH];omega
  ·rw[if_neg e,ih hp'.2 (by rcases List.mem_cons.1 hy with h|h;exact absurd h.symm e;exact h)];omega
theorem Tk (s:St):∀(l:List Int) (a:Int),l.foldl (fun a x=>if s.dc x.toNat then a-hd0 (s.cd x.toNat)else a) a=a-sF (fun x=>if s.dc x.toNat then hd0 (s.cd x.toNat)else 0) l:=by
 intro l
 induction l with
 |nil=>intro a;simp[sF]
 |cons x r ih=>
  intro a
  rw[List.foldl_cons,ih]
  simp only[sF]
  split<;>omega
theorem aby (s:St) (sum:Int) (l:List Int):rst s sum l=sum-sF (fun x=>if s.dc x.toNat then hd0 (s.cd x.toNat)else 0) l:=Tk s l sum
theorem YI (s:St) (o:List Int):pR s o=sF (fun y=>hd0 (s.cd y.toNat)) o:=by
 unfold pR;rw[Bu (fun y=>hd0 (s.cd y.toNat))];omega
theorem YJ (s:St) (o:List Int):pU s o=sF (fun y=>ls0 (s.cd y.toNat)) o:=by
 unfold pU;rw[Bu (fun y=>ls0 (s.cd y.toNat))];omega
theorem Bv (N l:List Int):fA N l=sF (fun x=>N.getD x.toNat 0) l:=by
 unfold fA;rw[Bu (fun x=>N.getD x.toNat 0)];omega
theorem abz (s:St) (l:List Int) (but:Int) (g:Int→Int):sF g (opn s l but)=sF (fun x=>if !(s.dc x.toNat)&&decide (x≠but)then g x else 0) l:=by
 unfold opn;exact Qd g _ l
theorem xX {s:St} {l:List Int} {but z:Int}:z∈opn s l but↔z∈l∧s.dc z.toNat=false∧z≠but:=by
 unfold opn;rw[List.mem_filter];simp
theorem abA {s:St} {l:List Int} {but:Int} (h:l.Pairwise (·< ·)):(opn s l but).Pairwise (·< ·):=h.filter _
def ChF (s:St) (o used:List Int) (sum:Int) (h:Int→Int):Prop:=
 (∀y∈o,h y∈s.cd y.toNat∧h y∉used)∧(∀y∈o,∀z∈o,y≠z→h y≠h z)∧sF h o=sum
theorem YK (s:St):∀(o used:List Int) (sum:Int),o.Pairwise (·< ·)→(chs s o used sum=true↔∃h,ChF s o used sum h):=by
 intro o
 induction o with
 |nil=>
  intro used sum _
  simp only[chs,decide_eq_true_eq,ChF]
  constructor
  ·rintro rfl
   exact⟨fun _=>0,fun y hy=>by simp at hy,fun y hy=>by simp at hy,rfl⟩
  ·rintro⟨h,_,_,h3⟩
   exact h3.symm
 |cons y r ih=>
  intro used sum hp
  have hp':=List.pairwise_cons.1 hp
  simp only[chs,List.any_eq_true,List.mem_filter,Bool.not_eq_true',decide_eq_false_iff_not]
  constructor
  ·rintro⟨x,⟨hx,hu⟩,hc⟩
   obtain⟨h,h1,h2,h3⟩:=(ih _ _ hp'.2).1 hc
   have hne:∀z∈r,z≠y:=fun z hz=>by have:=hp'.1 z hz;omega
   refine⟨fun z=>if z=y then x else h z,fun z hz=>?_,fun z hz w hw hzw=>?_,?_⟩
   ·rcases List.mem_cons.1 hz with rfl|hz
    ·simp only[if_true];exact⟨hx,hu⟩
    ·simp only[if_neg (hne z hz)]
     exact⟨(h1 z hz).1,fun hm=>(h1 z hz).2 (by simp[hm])⟩
   ·rcases List.mem_cons.1 hz with rfl|hz2<;>rcases List.mem_cons.1 hw with rfl|hw2
    ·exact absurd rfl hzw
    ·simp only[if_true,if_neg (hne w hw2)]
     exact fun e=>(h1 w hw2).2 (by simp[←e])
    ·simp only[if_true,if_neg (hne z hz2)]
     exact fun e=>(h1 z hz2).2 (by simp[e])
    ·simp only[if_neg (hne z hz2),if_neg (hne w hw2)]
     exact h2 z hz2 w hw2 hzw
   ·simp only[sF,if_true]
    have:sF (fun z=>if z=y then x else h z) r=sF h r:=oN fun z hz=>by simp only[if_neg (hne z hz)]
    rw[this,h3];omega
  ·rintro⟨h,h1,h2,h3⟩
   refine⟨h y,h1 y (by simp),(ih _ _ hp'.2).2 ⟨h,fun z hz=>⟨(h1 z (by simp[hz])).1,fun hm=>?_⟩,fun z hz w hw=>h2 z (by simp[hz]) w (by simp[hw]),?_⟩⟩
   ·rcases List.mem_append.1 hm with hm|hm
    ·exact(h1 z (by simp[hz])).2 hm
    ·have:=hp'.1 z hz
     exact h2 z (by simp[hz]) y (by simp) (by omega) (List.mem_singleton.1 hm)
   ·simp only[sF]at h3;omega
structure p9 (c:Int) (ls:List (List Int)) (sum:Int) (f:List Int):Prop where
 len:(f.length:Int)=c
 nrm:kY f=true
 sum:∀i,i<ls.length→fA f (ls.getD i [])=sum
structure Alw (s:St) (f:List Int):Prop where
 len:s.cs.length=f.length
 mem:∀i,i<f.length→f.getD i 0∈s.cd i
theorem p9.rng {c:Int} {ls:List (List Int)} {sum:Int} {f:List Int} (h:p9 c ls sum f) {i:Nat} (hi:i<f.length):1≤f.getD i 0∧f.getD i 0≤c:=by
 have h1:=vU h.nrm (f.getD i 0) (eO hi)
 have:=h.len;omega
theorem p9.inj {c:Int} {ls:List (List Int)} {sum:Int} {f:List Int} (h:p9 c ls sum f) {i j:Nat} (hi:i<f.length) (hj:j<f.length) (e:f.getD i 0=f.getD j 0):i=j:=by
 have hn:=PN h.nrm
 rw[iX hi,iX hj]at e
 exact(List.getElem_inj hn).1 e
theorem p9.sur {c:Int} {ls:List (List Int)} {sum:Int} {f:List Int} (h:p9 c ls sum f) {x:Int} (hx:1≤x∧x≤c):∃i,i<f.length∧f.getD i 0=x:=by
 have hl:=h.len
 have h1:x∈dV f:=by
  rw[F4 h.nrm]
  exact List.mem_map.2 ⟨(x-1).toNat,List.mem_range.2 (by omega),by omega⟩
 have h2:x∈f:=(List.mergeSort_perm f _).mem_iff.1 h1
 obtain⟨i,hi,rfl⟩:=(dP _ x).1 h2
 exact⟨i,hi,rfl⟩
theorem Alw.dec {c:Int} {ls:List (List Int)} {sum:Int} {s:St} {f:List Int} (hB:bM c ls sum s) (hA:Alw s f) {i:Nat} (hi:i<f.length) (hd:s.dc i=true):s.cd i=[f.getD i 0]:=by
 have h1:=hB.dec i (by rw[hA.len];exact hi) hd
 obtain⟨z,hz⟩:=List.length_eq_one_iff.1 h1
 have:=hA.mem i hi
 rw[hz,List.mem_singleton]at this
 rw[hz,this]
theorem Tn {c:Int} {ls:List (List Int)} {sum:Int} {s:St} {f:List Int} (hB:bM c ls sum s) (hA:Alw s f) (hf:p9 c ls sum f) {k:Nat} (hk:k<ls.length):
 rst s sum (ls.getD k [])=sF (fun x=>if !(s.dc x.toNat)then f.getD x.toNat 0 else 0) (ls.getD k []):=by
 have h1:=hf.sum k hk
 rw[Bv]at h1
 rw[aby]
 have h2:sF (fun x=>f.getD x.toNat 0) (ls.getD k [])=sF (fun x=>(if s.dc x.toNat then hd0 (s.cd x.toNat)else 0)+(if !(s.dc x.toNat)then f.getD x.toNat 0 else 0)) (ls.getD k []):=oN fun x hx=>by
  have hr:=(hB.ln k hk).rng x hx
  have hl:=hf.len
  cases hd:s.dc x.toNat with
  |true=>
   rw[hA.dec hB (by omega) hd]
   simp[hd0]
  |false=>simp
 rw[Qc]at h2
 omega
theorem xY {c:Int} {ls:List (List Int)} {sum:Int} {s:St} {f:List Int} (hB:bM c ls sum s) (hA:Alw s f) (hf:p9 c ls sum f) {k:Nat} (hk:k<ls.length) {y:Int} (hy:y∈ls.getD k []) (hd:s.dc y.toNat=false):
 rst s sum (ls.getD k [])=f.getD y.toNat 0+sF (fun x=>f.getD x.toNat 0) (opn s (ls.getD k []) y):=by
 rw[Tn hB hA hf hk,abz]
 have h1:sF (fun x=>if !(s.dc x.toNat)then f.getD x.toNat 0 else 0) (ls.getD k [])=sF (fun x=>(if x=y then f.getD y.toNat 0 else 0)+(if !(s.dc x.toNat)&&decide (x≠y)then f.getD x.toNat 0 else 0)) (ls.getD k []):=oN fun x hx=>by
  by_cases e:x=y
  ·subst e;simp[hd]
  ·simp[e]
 rw[h1,Qc,abx (hB.ln k hk).pw hy]
structure adu (c:Int) (ls:List (List Int)) (g:Nat) (y x k:Int):Prop where
 gg:1≤g∧g≤5
 yy:0≤y∧y<c
 xx:1≤x∧x≤c
 kk:lnG g=true→(0≤k∧k<ls.length)∧y∈ls.getD k.toNat []
theorem abB {g:Nat} {s:St} {sum:Int} {l:List Int} {y x:Int}:okJ g s sum l y x=true↔s.dc y.toNat=false∧x∈s.cd y.toNat∧jst g s sum l y x=true:=by
 unfold okJ;simp
theorem sound {c:Int} {ls:List (List Int)} {sum:Int} {s:St} {f:List Int} (hB:bM c ls sum s) (hA:Alw s f) (hf:p9 c ls sum f) {g:Nat} {y x k:Int} (hL:adu c ls g y x k) (h:okJ g s sum (ls.getD k.toNat []) y x=true):
 g≤3↔f.getD y.toNat 0=x:=by
 obtain⟨hd,hx,hj⟩:=abB.1 h
 have hc:=hB.c1
 have hfl:=hf.len
 have hsl:=hB.cl
 have hyf:y.toNat<f.length:=by have:=hL.yy;omega
 have hfy:=hA.mem _ hyf
 have hg:=hL.gg
 obtain rfl|rfl|rfl|rfl|rfl:g=1∨g=2∨g=3∨g=4∨g=5:=by omega
 ·refine⟨fun _=>?_,fun _=>by omega⟩
  obtain⟨hk,hm⟩:=hL.kk rfl
  have:=xY hB hA hf (k:=k.toNat) (by omega) hm hd
  simp only[jst,z8,Bool.and_eq_true,decide_eq_true_eq]at hj
  rw[List.eq_nil_of_length_eq_zero hj.1]at this
  simp only[sF]at this
  omega
 ·refine⟨fun _=>?_,fun _=>by omega⟩
  simp only[jst,Aa,decide_eq_true_eq]at hj
  obtain⟨z,hz⟩:=List.length_eq_one_iff.1 hj
  rw[hz,List.mem_singleton]at hx hfy
  rw[hx,hfy]
 ·refine⟨fun _=>?_,fun _=>by omega⟩
  simp only[jst,rO,List.all_eq_true,List.mem_range,Bool.or_eq_true,decide_eq_true_eq,Bool.not_eq_true',decide_eq_false_iff_not]at hj
  obtain⟨i,hi,e⟩:=hf.sur hL.xx
  have h1:=hA.mem i hi
  rw[e]at h1
  rcases hj i (by rw[hA.len];exact hi)with h2|h2
  ·rw[←h2];simpa using e
  ·exact absurd h1 h2
 ·refine⟨fun h=>by omega,fun e=>?_⟩
  exfalso
  obtain⟨hk,hm⟩:=hL.kk rfl
  have h1:=xY hB hA hf (k:=k.toNat) (by omega) hm hd
  have hr:=fun z (hz:z∈opn s (ls.getD k.toNat []) y)=>(hB.ln k.toNat (by omega)).rng z (xX.1 hz).1
  have hz:=fun z (hz:z∈opn s (ls.getD k.toNat []) y)=>hA.mem z.toNat (by have:=hr z hz;omega)
  have hasc:=fun z (hz:z∈opn s (ls.getD k.toNat []) y)=>(hB.asc z.toNat (by have:=hr z hz;omega)).1.pw
  have h2:pR s (opn s (ls.getD k.toNat []) y)≤sF (fun x=>f.getD x.toNat 0) (opn s (ls.getD k.toNat []) y):=by
   rw[YI];exact Dy fun z hzz=>aaK (hasc z hzz) _ (hz z hzz)
  have h3:sF (fun x=>f.getD x.toNat 0) (opn s (ls.getD k.toNat []) y)≤pU s (opn s (ls.getD k.toNat []) y):=by
   rw[YJ];exact Dy fun z hzz=>uJ (hasc z hzz) _ (hz z hzz)
  simp only[jst,Ab,Bool.or_eq_true,List.any_eq_true,decide_eq_true_eq]at hj
  rcases hj with⟨z,hzz,e0⟩|hj
  ·have:=hz z hzz
   rw[e0]at this;simp at this
  ·omega
 ·refine⟨fun h=>by omega,fun e=>?_⟩
  exfalso
  obtain⟨hk,hm⟩:=hL.kk rfl
  have h1:=xY hB hA hf (k:=k.toNat) (by omega) hm hd
  have hr:=fun z (hz:z∈opn s (ls.getD k.toNat []) y)=>(hB.ln k.toNat (by omega)).rng z (xX.1 hz).1
  simp only[jst,Ac,Bool.and_eq_true,decide_eq_true_eq,Bool.not_eq_true']at hj
  have:chs s (opn s (ls.getD k.toNat []) y) [x] (rst s sum (ls.getD k.toNat [])-x)=true:=by
   refine(YK s _ _ _ (abA (hB.ln k.toNat (by omega)).pw)).2 ⟨fun z=>f.getD z.toNat 0,fun z hz=>⟨hA.mem _ (by have:=hr z hz;omega),fun hm=>?_⟩,fun z hz w hw hne e1=>?_,by omega⟩
   ·have h2:=hr z hz
    have:=hf.inj (i:=z.toNat) (j:=y.toNat) (by omega) hyf (by rw[e];exact List.mem_singleton.1 hm)
    exact(xX.1 hz).2.2 (by have:=hL.yy;omega)
   ·have h2:=hr z hz
    have h3:=hr w hw
    have:=hf.inj (i:=z.toNat) (j:=w.toNat) (by omega) (by omega) e1
    omega
  rw[this]at hj
  exact absurd hj.2 (by simp)
def okP (ls:List (List Int)) (sum:Int) (f:List Int):Bool:=ls.all fun l=>!decide (l.getD (l.length-1) 0<f.length)||decide (fA f l=sum)
def skp (gv f:List Int) (x:Int):Bool:=decide (x∈f)||(decide (0<gv.getD f.length 0)&&decide (gv.getD f.length 0≠x))||(decide (gv.getD f.length 0=0)&&decide (x∈gv))
def dK (c:Int) (ls:List (List Int)) (sum:Int) (gv:List Int):Nat→List Int→List (List Int)
 |0,f=>if okP ls sum f then [f]else []
 |k+1,f=>if okP ls sum f then(List.range c.toNat).flatMap fun x:Nat=>if skp gv f ((x:Int)+1)then []else dK c ls sum gv k (f++[(x:Int)+1])else []
def stP (c:Int) (gv F:List Int) (i:Nat):Prop:=(1≤F.getD i 0∧F.getD i 0≤c)∧F.getD i 0∉F.take i∧(0<gv.getD i 0→gv.getD i 0=F.getD i 0)∧(gv.getD i 0=0→F.getD i 0∉gv)
theorem take_one {F f:List Int} {x:Int} (h:F.take (f.length+1)=f++[x]):F.take f.length=f∧F.getD f.length 0=x∧f.length<F.length:=by
 have hl:=congrArg List.length h
 rw[List.length_take,List.length_append,List.length_singleton]at hl
 have h1:F.take f.length=f:=by
  have:=congrArg (List.take f.length) h
  rw[List.take_take,Nat.min_eq_left (by omega),List.take_left]at this
  exact this
 rw[cZ (show f.length<F.length by omega),h1]at h
 have:=List.append_cancel_left h
 exact⟨h1,by simpa using this,by omega⟩
theorem Tp {c:Int} {ls:List (List Int)} {sum:Int} {gv:List Int} (hgr:∀i,0≤gv.getD i 0):∀(k:Nat) (f F:List Int),((f.length+k:Nat):Int)=c→
 (F∈dK c ls sum gv k f↔((F.length:Int)=c∧F.take f.length=f)∧(∀i,f.length≤i→i<F.length→stP c gv F i)∧∀j,f.length≤j→j≤F.length→okP ls sum (F.take j)=true):=by
 intro k
 induction k with
 |zero=>
  intro f F hl
  unfold dK
  constructor
  ·intro h
   split at h
   ·rename_i ho
    rw[List.mem_singleton]at h
    subst h
    exact⟨⟨by omega,List.take_length⟩,fun i h1 h2=>by omega,fun j h1 h2=>by rw[List.take_of_length_le h1];exact ho⟩
   ·simp at h
  ·rintro⟨⟨h1,h2⟩,h3,h4⟩
   have h5:=h4 f.length (Nat.le_refl _) (by omega)
   rw[h2]at h5
   rw[if_pos h5,List.mem_singleton,←h2,List.take_of_length_le (by omega)]
 |succ k ih=>
  intro f F hl
  unfold dK
  constructor
  ·intro h
   split at h
   ·rename_i ho
    obtain⟨x,hx,h⟩:=List.mem_flatMap.1 h
    split at h
    ·simp at h
    ·rename_i hs
     have hx:=List.mem_range.1 hx
     obtain⟨⟨h1,h2⟩,h3,h4⟩:=(ih _ _ (by rw[List.length_append,List.length_singleton];omega)).1 h
     rw[List.length_append,List.length_singleton]at h2 h3 h4
     obtain⟨h5,h6,h7⟩:=take_one h2
     unfold skp at hs
     simp only[Bool.or_eq_true,Bool.and_eq_true,decide_eq_true_eq,not_or,not_and,Decidable.not_not]at hs
     refine⟨⟨h1,h5⟩,fun i i1 i2=>?_,fun j j1 j2=>?_⟩
     ·by_cases e:i=f.length
      ·subst e
       refine⟨by omega,by rw[h5,h6];exact hs.1.1,fun hp=>by rw[h6];exact hs.1.2 hp,fun hz=>by rw[h6];exact hs.2 hz⟩
      ·exact h3 i (by omega) i2
     ·by_cases e:j=f.length
      ·subst e;rw[h5];exact ho
      ·exact h4 j (by omega) j2
   ·simp at h
  ·rintro⟨⟨h1,h2⟩,h3,h4⟩
   have h5:=h4 f.length (Nat.le_refl _) (by omega)
   rw[h2]at h5
   rw[if_pos h5]
   obtain⟨s1,s2,s3,s4⟩:=h3 f.length (Nat.le_refl _) (by omega)
   have he:(((F.getD f.length 0-1).toNat:Nat):Int)+1=F.getD f.length 0:=by omega
   refine List.mem_flatMap.2 ⟨(F.getD f.length 0-1).toNat,List.mem_range.2 (by omega),?_⟩
   rw[he]
   have hs:skp gv f (F.getD f.length 0)=false:=by
    unfold skp
    rw[h2]at s2
    simp only[Bool.or_eq_false_iff,Bool.and_eq_false_iff,decide_eq_false_iff_not]
    refine⟨⟨s2,?_⟩,?_⟩
    ·by_cases e:0<gv.getD f.length 0
     ·right;exact fun hn=>hn (s3 e)
     ·left;exact e
    ·by_cases e:gv.getD f.length 0=0
     ·right;exact s4 e
     ·left;exact e
   rw[hs,if_neg (by simp)]
   refine(ih _ _ (by rw[List.length_append,List.length_singleton];omega)).2 ?_
   rw[List.length_append,List.length_singleton]
   refine⟨⟨h1,by rw[cZ (by omega),h2]⟩,fun i i1 i2=>h3 i (by omega) i2,fun j j1 j2=>h4 j (by omega) j2⟩
theorem abC {l:List Int} (hp:l.Pairwise (·< ·)) {a:Int} (ha:∀x∈l,a≤x):∀i,i<l.length→a+i≤l.getD i 0:=by
 intro i
 induction i with
 |zero=>intro hi;have:=ha _ (eO (d:=(0:Int)) hi);omega
 |succ i ih=>
  intro hi
  have h1:=ih (by omega)
  have h2:=List.pairwise_iff_getElem.1 hp i (i+1) (by omega) hi (by omega)
  rw[iX (show i<l.length by omega)]at h1
  rw[iX hi];omega
theorem abD {l:List Int} (hp:l.Pairwise (·< ·)) {b:Int} (hb:∀x∈l,x≤b):∀d i,i+d+1=l.length→l.getD i 0+d≤b:=by
 intro d
 induction d with
 |zero=>intro i hi;have:=hb _ (eO (l:=l) (d:=(0:Int)) (show i<l.length by omega));omega
 |succ d ih=>
  intro i hi
  have h1:=ih (i+1) (by omega)
  have h2:=List.pairwise_iff_getElem.1 hp i (i+1) (by omega) (by omega) (by omega)
  rw[iX (show i+1<l.length by omega)]at h1
  rw[iX (show i<l.length by omega)];omega
theorem abE {F:List Int} (hn:F.Nodup) (hr:∀x∈F,1≤x∧x≤F.length):kY F=true:=by
 have hp:(dV F).Perm F:=List.mergeSort_perm F _
 have hs:(dV F).Pairwise (·≤ ·):=by
  have:=List.pairwise_mergeSort (le:=fun x y:Int=>decide (x≤y)) (fun a b c h1 h2=>by simp at*;omega) (fun a b=>by simp;omega) F
  exact this.imp fun h=>by simpa using h
 have hs2:(dV F).Pairwise (·< ·):=by
  have hn2:(dV F).Pairwise (·≠ ·):=hp.nodup_iff.2 hn
  exact hs.imp₂ (fun a b h1 h2=>by omega) hn2
 have hlo:=abC hs2 (a:=1) fun x hx=>(hr x (hp.mem_iff.1 hx)).1
 have hhi:=abD hs2 (b:=F.length) fun x hx=>(hr x (hp.mem_iff.1 hx)).2
 refine Ce fun i hi=>?_
 have h1:=hlo i (by rw[jv];exact hi)
 have h2:=hhi (F.length-1-i) i (by rw[jv];omega)
 omega
structure adv (c:Int) (ls:List (List Int)) (sum:Int) (gv F:List Int):Prop where
 s:p9 c ls sum F
 g:∀i,i<gv.length→0<gv.getD i 0→gv.getD i 0=F.getD i 0
theorem pI {F l:List Int} {j:Nat} (h:∀x∈l,0≤x∧x<j):fA (F.take j) l=fA F l:=by
 rw[Bv,Bv]
 refine oN fun x hx=>?_
 have:=h x hx
 rw[List.getD_eq_getElem?_getD,List.getD_eq_getElem?_getD,List.getElem?_take_of_lt (by omega)]
theorem oO {F:List Int} {i:Nat} {x:Int} (hi:i≤F.length):x∈F.take i↔∃j,j<i∧F.getD j 0=x:=by
 constructor
 ·intro h
  obtain⟨j,hj,e⟩:=(dP _ _).1 h
  rw[List.length_take]at hj
  refine⟨j,by omega,?_⟩
  rw[←e,List.getD_eq_getElem?_getD,List.getD_eq_getElem?_getD,List.getElem?_take_of_lt (by omega)]
 ·rintro⟨j,hj,e⟩
  rw[←e];exact pW hj hi
theorem Tq {c:Int} {ls:List (List Int)} {sum:Int} {gv:List Int} (h:dz c ls sum gv) (F:List Int):F∈dK c ls sum gv gv.length []↔adv c ls sum gv F:=by
 have hgl:=h.gl
 have hgr:∀i,0≤gv.getD i 0:=fun i=>by
  by_cases e:i<gv.length
  ·exact(h.gr _ (eO e)).1
  ·rw[List.getD_eq_getElem?_getD,List.getElem?_eq_none (by omega)];exact Int.le_refl _
 rw[Tp hgr gv.length [] F (by simpa using hgl)]
 simp only[List.length_nil,List.take_zero,Nat.zero_le,true_implies]
 have hlast:∀k,k<ls.length→∀j:Nat,(ls.getD k []).getD ((ls.getD k []).length-1) 0<j→∀x∈ls.getD k [],0≤x∧x<j:=fun k hk j hj x hx=>by
  have hL:=h.ln k hk
  have h1:=uJ hL.pw x hx
  unfold ls0 at h1
  have:=hL.rng x hx
  omega
 constructor
 ·rintro⟨⟨h1,_⟩,h3,h4⟩
  have hnd:F.Nodup:=by
   rw[List.Nodup,List.pairwise_iff_getElem]
   intro i j hi hj hij e
   refine(h3 j hj).2.1 ((oO (by omega)).2 ⟨i,hij,?_⟩)
   rw[iX hi,iX hj];exact e
  refine⟨⟨h1,abE hnd fun x hx=>?_,fun k hk=>?_⟩,fun i hi hp=>(h3 i (by omega)).2.2.1 hp⟩
  ·obtain⟨i,hi,rfl⟩:=(dP _ _).1 hx
   have:=(h3 i hi).1
   omega
  ·have h5:=h4 F.length (Nat.le_refl _)
   rw[List.take_length]at h5
   unfold okP at h5
   have h6:=List.all_eq_true.1 h5 (ls.getD k []) (eO hk)
   have hL:=h.ln k hk
   have hm:=qx hL.ne
   have:=hL.rng _ hm
   unfold ls0 at this
   rw[Bool.or_eq_true,Bool.not_eq_true',decide_eq_false_iff_not,decide_eq_true_eq]at h6
   rcases h6 with h6|h6
   ·exact absurd (by omega) h6
   ·exact h6
 ·rintro⟨hS,hg⟩
  have hFl:=hS.len
  refine⟨⟨hFl,trivial⟩,fun i hi=>⟨hS.rng hi,fun hm=>?_,fun hp=>hg i (by omega) hp,fun hz hm=>?_⟩,fun j hj=>?_⟩
  ·obtain⟨j,hj,e⟩:=(oO (by omega)).1 hm
   have:=hS.inj (i:=j) (j:=i) (by omega) hi e
   omega
  ·obtain⟨j,hj,e⟩:=(dP _ _).1 hm
   have h1:=hS.rng hi
   have h2:=hg j hj (by omega)
   have:=hS.inj (i:=i) (j:=j) hi (by omega) (by omega)
   subst this
   omega
  ·unfold okP
   refine List.all_eq_true.2 fun l hl=>?_
   obtain⟨k,hk,rfl⟩:=List.getElem_of_mem hl
   have e:ls[k]=ls.getD k []:=by rw[List.getD_eq_getElem?_getD,List.getElem?_eq_getElem hk];rfl
   rw[e]
   rw[Bool.or_eq_true,Bool.not_eq_true',decide_eq_false_iff_not,decide_eq_true_eq,List.length_take,Nat.min_eq_left hj]
   by_cases hlt:(ls.getD k []).getD ((ls.getD k []).length-1) 0<j
   ·right
    rw[pI (hlast k hk j hlt)]
    exact hS.sum k hk
   ·exact .inl hlt
theorem Qe {α:Type} (A B:List α) (m:Nat):(A++B).take m=A.take m++B.take (m-A.length):=List.take_append
structure SrJ (c:Int) (ls:List (List Int)) (sum:Int) (gv:List Int) (f:Nat) (N U:List Int):Prop where
 fl:f≤gv.length
 nl:N.length=gv.length
 tl:∀j,gv.length-f≤j→j<gv.length→N.getD j 0=gv.getD j 0
 us:∀x:Int,1≤x→(x∈U↔x∈gv∨x∈N.take (gv.length-f))
 gd:∀i,i<gv.length-f→(0<gv.getD i 0→N.getD i 0=gv.getD i 0)∧(gv.getD i 0=0→N.getD i 0∉gv)
 pv:1≤gv.length-f→okP ls sum (N.take (gv.length-f-1))=true
theorem Qf {c:Int} {ls:List (List Int)} {sum:Int} {gv:List Int} (h:dz c ls sum gv) {f:Nat} {N U:List Int} (hJ:SrJ c ls sum gv f N U):jf ls sum N ((gv.length-f:Nat):Int)=okP ls sum (N.take (gv.length-f)):=by
 obtain⟨m,hm⟩:∃m,gv.length-f=m:=⟨_,rfl⟩
 have hnl:=hJ.nl
 have hpv:=hJ.pv
 rw[hm]at hpv⊢
 have hm2:m≤gv.length:=by omega
 unfold jf okP
 rw[List.length_take,Nat.min_eq_left (by omega)]
 unfold okP at hpv
 rw[List.length_take,Nat.min_eq_left (by omega)]at hpv
 rw[Bool.eq_iff_iff,List.all_eq_true,List.all_eq_true]
 have key:∀l∈ls,(∀j:Nat,l.getD (l.length-1) 0<j→∀x∈l,0≤x∧x<j):=fun l hl j hj x hx=>by
  obtain⟨k,hk,rfl⟩:=List.getElem_of_mem hl
  have e:ls[k]=ls.getD k []:=by rw[List.getD_eq_getElem?_getD,List.getElem?_eq_getElem hk];rfl
  rw[e]at hj hx
  have hL:=h.ln k hk
  have h1:=uJ hL.pw x hx
  unfold ls0 at h1
  have:=hL.rng x hx
  omega
 have last0:∀l∈ls,0≤l.getD (l.length-1) 0:=fun l hl=>by
  obtain⟨k,hk,rfl⟩:=List.getElem_of_mem hl
  have e:ls[k]=ls.getD k []:=by rw[List.getD_eq_getElem?_getD,List.getElem?_eq_getElem hk];rfl
  rw[e]
  have hL:=h.ln k hk
  have:=hL.rng _ (qx hL.ne)
  unfold ls0 at this
  omega
 constructor
 ·intro hf l hl
  rw[Bool.or_eq_true,Bool.not_eq_true',decide_eq_false_iff_not,decide_eq_true_eq]
  by_cases hlt:l.getD (l.length-1) 0<(m:Int)
  ·right
   rw[pI (key l hl m hlt)]
   by_cases e:l.getD (l.length-1) 0=(m:Int)-1
   ·have:=hf l hl
    unfold pX at this
    rw[decide_eq_true e,Bool.not_true,Bool.false_or,decide_eq_true_eq]at this
    exact this
   ·have h0:=last0 l hl
    have hlt2:l.getD (l.length-1) 0<((m-1:Nat):Int):=by omega
    have:=List.all_eq_true.1 (hpv (by omega)) l hl
    rw[Bool.or_eq_true,Bool.not_eq_true',decide_eq_false_iff_not,decide_eq_true_eq]at this
    rcases this with h1|h1
    ·exact absurd hlt2 h1
    ·rw[pI (key l hl _ hlt2)]at h1
     exact h1
  ·exact .inl hlt
 ·intro hf l hl
  unfold pX
  rw[Bool.or_eq_true,Bool.not_eq_true',decide_eq_false_iff_not,decide_eq_true_eq]
  by_cases e:l.getD (l.length-1) 0=(m:Int)-1
  ·right
   have:=hf l hl
   rw[Bool.or_eq_true,Bool.not_eq_true',decide_eq_false_iff_not,decide_eq_true_eq]at this
   rcases this with h1|h1
   ·exact absurd (by omega) h1
   ·rw[pI (key l hl m (by omega))]at h1
    exact h1
  ·exact .inl e
theorem Qg {α:Type} {g:Nat→List α} {a:Nat}:∀{m:Nat},a<m→(∀x,x<m→x≠a→g x=[])→(List.range m).flatMap g=g a:=by
 intro m
 induction m with
 |zero=>intro h;omega
 |succ m ih=>
  intro ha hn
  rw[List.range_succ,List.flatMap_append,List.flatMap_singleton]
  by_cases e:a=m
  ·subst e
   have:(List.range a).flatMap g=[]:=List.flatMap_eq_nil_iff.2 fun x hx=>hn x (by have:=List.mem_range.1 hx;omega) (by have:=List.mem_range.1 hx;omega)
   rw[this];rfl
  ·rw[ih (by omega) fun x hx hne=>hn x (by omega) hne,hn m (by omega) (Ne.symm e),List.append_nil]
theorem Tt {c:Int} {ls:List (List Int)} {sum:Int} {gv:List Int} (h:dz c ls sum gv) (lim:Nat):∀(f:Nat) (R:List (List Int)) (N U:List Int),SrJ c ls sum gv f N U→
 jF lim ls sum gv f R N U=R++(dK c ls sum gv f (N.take (gv.length-f))).take (lim-R.length):=by
 have hgl:=h.gl
 intro f
 induction f with
 |zero=>
  intro R N U hJ
  have hf:=Qf h hJ
  have hnl:=hJ.nl
  have hN:N.take (gv.length-0)=N:=List.take_of_length_le (by omega)
  rw[hN]at hf⊢
  rw[Nat.sub_zero]at hf
  unfold jF dK
  by_cases h1:(lim:Int)≤R.length
  ·rw[if_pos (.inl h1),show lim-R.length=0 by omega,List.take_zero,List.append_nil]
  ·by_cases h2:jf ls sum N gv.length=false
   ·rw[if_pos (.inr h2),←hf,h2];simp
   ·rw[if_neg (fun hh=>hh.elim h1 h2)]
    have:okP ls sum N=true:=by rw[←hf];simpa using h2
    rw[if_pos this,List.take_of_length_le (by rw[List.length_singleton];omega)]
 |succ f ih=>
  intro R N U hJ
  have hf:=Qf h hJ
  have hfl:=hJ.fl
  have hnl:=hJ.nl
  obtain⟨m,hm⟩:∃m,gv.length-(f+1)=m:=⟨_,rfl⟩
  have hm1:gv.length-f=m+1:=by omega
  have hpl:(N.take m).length=m:=by rw[List.length_take];omega
  unfold jF dK
  rw[hm]at hf⊢
  by_cases h1:(lim:Int)≤R.length
  ·rw[if_pos (.inl h1),show lim-R.length=0 by omega,List.take_zero,List.append_nil]
  ·by_cases h2:jf ls sum N (m:Nat)=false
   ·rw[if_pos (.inr h2),←hf,h2];simp
   ·have hok:okP ls sum (N.take m)=true:=by rw[←hf];simpa using h2
    rw[if_neg (fun hh=>hh.elim h1 h2),if_pos hok]
    have skv:∀x:Int,skp gv (N.take m) x=(decide (x∈N.take m)||(decide (0<gv.getD m 0)&&decide (gv.getD m 0≠x))||(decide (gv.getD m 0=0)&&decide (x∈gv))):=fun x=>by unfold skp;rw[hpl]
    have nxt:∀(N' U':List Int) (v:Int),N'.length=gv.length→N'.take m=N.take m→N'.getD m 0=v→(∀j,m+1≤j→j<gv.length→N'.getD j 0=N.getD j 0)→(∀x:Int,1≤x→(x∈U'↔x∈gv∨x∈N.take m∨x=v))→(0<gv.getD m 0→v=gv.getD m 0)→(gv.getD m 0=0→v∉gv)→SrJ c ls sum gv f N' U'∧N'.take (gv.length-f)=N.take m++[v]:=fun N' U' v a1 a2 a3 a4 a5 a6 a7=>by
     have ht:N'.take (m+1)=N.take m++[v]:=by rw[cZ (by omega),a2,a3]
     refine⟨⟨by omega,a1,fun j j1 j2=>?_,fun x hx=>?_,fun i hi=>?_,fun _=>?_⟩,by rw[hm1,ht]⟩
     ·rw[a4 j (by omega) j2];exact hJ.tl j (by omega) j2
     ·rw[hm1,ht,a5 x hx,List.mem_append,List.mem_singleton]
     ·rw[hm1]at hi
      by_cases e:i=m
      ·subst e;rw[a3];exact⟨a6,a7⟩
      ·have e1:N'.getD i 0=N.getD i 0:=by
        have:=congrArg (fun l:List Int=>l.getD i 0) a2
        simp only[List.getD_eq_getElem?_getD]at this⊢
        rw[List.getElem?_take_of_lt (by omega),List.getElem?_take_of_lt (by omega)]at this
        exact this
       rw[e1];exact hJ.gd i (by omega)
     ·rw[hm1,Nat.add_sub_cancel,a2];exact hok
    by_cases hp:0<gv.getD m 0
    ·rw[if_pos hp]
     have hv:=hJ.tl m (by omega) (by omega)
     have hvm:gv.getD m 0∈gv:=eO (by omega)
     have hvr:=h.gr _ hvm
     have hU:=hJ.us
     rw[hm]at hU
     obtain⟨j1,j2⟩:=nxt N U (gv.getD m 0) hnl rfl hv (fun _ _ _=>rfl) (fun x hx=>by
      rw[hU x hx]
      constructor
      ·rintro(q|q)
       ·exact .inl q
       ·exact .inr (.inl q)
      ·rintro(q|q|q)
       ·exact .inl q
       ·exact .inr q
       ·exact .inl (q▸hvm)) (fun _=>rfl) (fun e=>by omega)
     rw[ih R N U j1,j2]
     have hnin:gv.getD m 0∉N.take m:=fun hmm=>by
      obtain⟨j,hj,e⟩:=(oO (by omega)).1 hmm
      have hg:=hJ.gd j (by omega)
      by_cases e0:0<gv.getD j 0
      ·exact h.gd j m hj (by omega) hp ((hg.1 e0).symm.trans e)
      ·have:=(h.gr _ (eO (l:=gv) (d:=(0:Int)) (show j<gv.length by omega))).1
       exact hg.2 (by omega) (e▸hvm)
     have he:(((gv.getD m 0-1).toNat:Nat):Int)+1=gv.getD m 0:=by omega
     rw[Qg (a:=(gv.getD m 0-1).toNat) (by omega) fun x hx hne=>by
      rw[skv,if_pos]
      have:gv.getD m 0≠(x:Int)+1:=by omega
      simp only[Bool.or_eq_true,Bool.and_eq_true,decide_eq_true_eq]
      exact .inl (.inr ⟨hp,this⟩)]
     rw[he,skv,if_neg]
     simp only[Bool.or_eq_true,Bool.and_eq_true,decide_eq_true_eq]
     rintro((q|q)|q)
     ·exact hnin q
     ·exact q.2 rfl
     ·omega
    ·have hz:gv.getD m 0=0:=by
      have:=(h.gr _ (eO (l:=gv) (d:=(0:Int)) (show m<gv.length by omega))).1
      omega
     rw[if_neg hp]
     have hU:=hJ.us
     rw[hm]at hU
     have hcn:c.toNat=gv.length:=by omega
     rw[hcn]
     have step:∀q,q≤gv.length→(List.range q).foldl (fun R (x:Nat)=>if((x:Int)+1)∈U then R else jF lim ls sum gv f R (N.set m ((x:Int)+1)) (U++[(x:Int)+1])) R=R++((List.range q).flatMap fun x:Nat=>if skp gv (N.take m) ((x:Int)+1)then []else dK c ls sum gv f (N.take m++[(x:Int)+1])).take (lim-R.length):=by
      intro q
      induction q with
      |zero=>intro _;simp
      |succ q ihq=>
       intro hq
       rw[List.range_succ,List.foldl_append,List.flatMap_append,ihq (by omega),List.flatMap_singleton]
       simp only[List.foldl_cons,List.foldl_nil]
       obtain⟨A,hA⟩:∃A,((List.range q).flatMap fun x:Nat=>if skp gv (N.take m) ((x:Int)+1)then []else dK c ls sum gv f (N.take m++[(x:Int)+1]))=A:=⟨_,rfl⟩
       rw[hA]
       have hsk:skp gv (N.take m) ((q:Int)+1)=decide (((q:Int)+1)∈U):=by
        rw[skv,Bool.eq_iff_iff]
        simp only[Bool.or_eq_true,Bool.and_eq_true,decide_eq_true_eq]
        rw[hU _ (by omega)]
        constructor
        ·rintro((q1|⟨q1,_⟩)|⟨_,q1⟩)
         ·exact .inr q1
         ·exact absurd q1 hp
         ·exact .inl q1
        ·rintro(q1|q1)
         ·exact .inr ⟨hz,q1⟩
         ·exact .inl (.inl q1)
       by_cases hin:((q:Int)+1)∈U
       ·rw[if_pos hin,hsk,decide_eq_true hin,if_pos rfl,List.append_nil]
       ·rw[if_neg hin,hsk,decide_eq_false hin,if_neg (by simp)]
        have hgv:((q:Int)+1)∉gv:=fun e=>hin ((hU _ (by omega)).2 (.inl e))
        obtain⟨j1,j2⟩:=nxt (N.set m ((q:Int)+1)) (U++[(q:Int)+1]) ((q:Int)+1) (by rw[List.length_set];exact hnl) (by rw[List.take_set_of_le (Nat.le_refl _)]) (by simp[List.getD_eq_getElem?_getD,show m<N.length by omega]) (fun j hj _=>by simp[List.getD_eq_getElem?_getD,List.getElem?_set_ne (show m≠j by omega)]) (fun x hx=>by
         rw[List.mem_append,List.mem_singleton,hU x hx,or_assoc]) (fun e=>absurd e hp) (fun _=>hgv)
        rw[ih _ _ _ j1,j2,List.append_assoc,Qe,List.length_append,List.length_take]
        congr 2
        congr 1
        omega
     exact step gv.length (Nat.le_refl _)
theorem Qh {c:Int} {ls:List (List Int)} {sum:Int} {gv:List Int} (h:dz c ls sum gv) (lim:Nat):jF lim ls sum gv gv.length [] gv gv=(dK c ls sum gv gv.length []).take lim:=by
 rw[Tt h lim gv.length [] gv gv ⟨Nat.le_refl _,rfl,fun _ _ _=>rfl,fun x hx=>by simp,fun i hi=>by omega,fun hi=>by omega⟩]
 simp
end Go.Eng.YtcechbdgokjmgaaGreatDoor
namespace Go.Eng.YtcechbdgokjmgaaGreatDoor
open Go.Proofs
set_option linter.unusedSimpArgs false
set_option linter.unusedVariables false
set_option maxHeartbeats 0
set_option maxRecDepth 100000
theorem Ij (l f:List Int) (h:l.length≤1000) (hl:∀x∈l,0≤x∧x<f.length) (hf:∀x∈f,0≤x∧x≤16):aG Tryz.prog 119 [.isl (.ints .i64 l) .none,.isl (.ints .i64 f) .none] (.int .i64 (fA f l)):=by
 refine av (md:=1) (rf:=[]) mixed ak aD Tryz.func119 (by rfl) (by rfl) (by rfl) ?_
 repeat'((conv=>whnf);first|(intro hq;(try simp only[vw]at hq);try first|exact absurd hq (by decide)|exfalso;omega)|apply aI|with_reducible exact vM rfl|exact⟨⟩|apply nM|apply fM)
 all_goals((try apply vM);(try simp only[vq]at*);try omega)
 conv=>whnf
 refine aM (X:=Nat) (fun i=>i≤l.length) (fun i=>[(6,.int .i64 i),(5,.int .i64 (fA f (l.take i)))]) (fun i=>[]) (fun i=>l.length-i) 0 ⟨aK,mixed,ak,aD,aQ⟩ (by rfl) (by omega) ?_ ?_
 ·repeat'((conv=>whnf);first|intro _|apply aI|with_reducible exact vM rfl|exact⟨⟩|apply nM|apply fM)
  all_goals((try apply vM);(try simp only[vq]at*);try omega)
  all_goals rfl
 intro i hi
 have hbd:=nT hf (l.take i)
 rw[List.length_take]at hbd
 by_cases hlt:i<l.length
 ·have hx:=hl _ (eO (d:=(0:Int)) hlt)
  have hxl:(l.getD i 0).toNat<f.length:=by omega
  have hfx:=hf _ (eO (d:=(0:Int)) hxl)
  have hap:=xU f (l.take i) (l.getD i 0)
  rw[←cZ hlt]at hap
  repeat'((conv=>whnf);first|(intro hq;(try simp only[vw]at hq);try first|exact absurd hq (by decide)|exfalso;omega)|apply aI|with_reducible exact vM rfl|exact⟨⟩|apply nM|apply fM)
  all_goals((try apply vM);(try simp only[vq]at*);try omega)
  all_goals(try omega)
  refine⟨i+1,[],⟨by omega,by omega⟩,?_⟩
  rw[hap]
  repeat'((conv=>whnf);first|intro _|apply aI|with_reducible exact vM rfl|exact⟨⟩|apply nM|apply fM)
  all_goals((try apply vM);(try simp only[vq]at*);try omega)
 ·have:i=l.length:=by omega
  subst this
  rw[List.take_length]
  repeat'((conv=>whnf);first|(intro hq;(try simp only[vw]at hq);try first|exact absurd hq (by decide)|exfalso;omega)|apply aI|with_reducible exact vM rfl|exact⟨⟩|apply nM|apply fM)
  all_goals((try apply vM);(try simp only[vq]at*);try omega)
  all_goals(try first|omega|exact Sup.of rfl)
def Bw:PSp:=fun xs K=>match xs with
 | [.isl (.ints .i64 l) .none,.isl (.ints .i64 f) .none]=>VC (l.length≤1000∧(∀x∈l,0≤x∧x<f.length)∧∀x∈f,0≤x∧x≤16)∧K (.int .i64 (fA f l))
 |_=>False
theorem Qi:POK Tryz.prog 119 Bw:=by
 intro xs K h
 unfold Bw at h
 split at h
 ·exact⟨_,h.2,Ij _ _ h.1.get.1 h.1.get.2.1 h.1.get.2.2⟩
 ·exact h.elim
def okl (sum:Int) (f l:List Int):Bool:=!decide (l.getD (l.length-1) 0<f.length)||decide (fA f l=sum)
def nxS (c:Int) (ls:List (List Int)) (sum:Int) (gv:List Int) (k:Nat) (f:List Int) (i:Nat):List (List Int):=(List.range i).flatMap fun x:Nat=>if skp gv f ((x:Int)+1)then []else dK c ls sum gv k (f++[(x:Int)+1])
theorem Tv {c:Int} {ls:List (List Int)} {sum:Int} {gv:List Int} {k:Nat} {f:List Int} {i:Nat}:nxS c ls sum gv k f (i+1)=nxS c ls sum gv k f i++if skp gv f ((i:Int)+1)then []else dK c ls sum gv k (f++[(i:Int)+1]):=by
 unfold nxS;rw[List.range_succ,List.flatMap_append];simp
def Gp (c:Int) (ls:List (List Int)) (sum:Int) (gv:List Int) (k:Nat):PSp:=fun xs K=>match xs with
 | [.agg [.int .i64 c',.isl (.rows .i64 ls') .none,.int .i64 sum',.isl (.ints .i64 gv') .none],.isl (.ints .i64 f) .none,.int .i64 m]=>VC (c'=c∧ls'=ls∧sum'=sum∧gv'=gv∧((f.length:Int)+k=c)∧(∀x∈f,1≤x∧x≤c)∧(0≤m∧m≤256))∧K (.isl (.rows .i64 ((dK c ls sum gv k f).take m.toNat)) .none)
 |_=>False
theorem JH:Sup (bF [PV.nils]) (.isl (.rows .i64 []) .none):=by all_goals(refine Sup.via ?_;repeat'((conv=>whnf);first|intro _|apply aI|with_reducible exact vM rfl|exact⟨⟩|apply nM|apply fM);all_goals((try apply vM);(try simp only[vq]at*);try omega);all_goals(try(simp[CL.sub];done)))
def prS (c:Int) (ls:List (List Int)) (sum:Int) (gv:List Int):Nat→PSp
 |0=>fun _ _=>False
 |k+1=>Gp c ls sum gv k
theorem Tw {c:Int} {ls:List (List Int)} {sum:Int} {gv f:List Int} {i:Nat} (hi:i<ls.length) (h:okl sum f (ls.getD i [])=false) (k:Nat):dK c ls sum gv k f=[]:=by
 have h0:okP ls sum f=false:=List.all_eq_false.2 ⟨_,eO hi,by rw[show(!decide ((ls.getD i []).getD ((ls.getD i []).length-1) 0<f.length)||decide (fA f (ls.getD i [])=sum))=false from h];simp⟩
 cases k with
 |zero=>unfold dK;rw[h0];rfl
 |succ k=>unfold dK;rw[h0];rfl
theorem YL {ls:List (List Int)} {sum:Int} {f:List Int} (h:∀j,j<ls.length→okl sum f (ls.getD j [])=true):okP ls sum f=true:=List.all_eq_true.2 fun l hl=>by
 obtain⟨j,hj,rfl⟩:=List.getElem_of_mem hl
 have:=h j hj
 rw[List.getD_eq_getElem?_getD,List.getElem?_eq_getElem hj]at this
 exact this
theorem sk1 {gv f:List Int} {x:Int} (h:skp gv f x=false) (a:x∈f):False:=by unfold skp at h;rw[decide_eq_true a]at h;simp at h
theorem sk2 {gv f:List Int} {x:Int} (h:skp gv f x=false) (a:0<gv.getD f.length 0) (b:gv.getD f.length 0≠x):False:=by unfold skp at h;rw[decide_eq_true a,decide_eq_true b]at h;simp at h
theorem sk3 {gv f:List Int} {x:Int} (h:skp gv f x=false) (a:gv.getD f.length 0=0) (b:x∈gv):False:=by unfold skp at h;rw[decide_eq_true a,decide_eq_true b]at h;simp at h
theorem sk4 {gv f:List Int} {x:Int} (h:skp gv f x=true) (a:x∉f) (b:¬0<gv.getD f.length 0) (c:x∉gv):False:=by unfold skp at h;rw[decide_eq_false a,decide_eq_false b,decide_eq_false c]at h;simp at h
theorem sk5 {gv f:List Int} {x:Int} (h:skp gv f x=true) (a:x∉f) (b:¬gv.getD f.length 0≠x) (c:x∉gv):False:=by unfold skp at h;rw[decide_eq_false a,decide_eq_false b,decide_eq_false c]at h;simp at h
theorem sk6 {gv f:List Int} {x:Int} (h:skp gv f x=true) (a:x∉f) (b:¬0<gv.getD f.length 0) (c:¬gv.getD f.length 0=0):False:=by unfold skp at h;rw[decide_eq_false a,decide_eq_false b,decide_eq_false c]at h;simp at h
theorem sk7 {gv f:List Int} {x:Int} (h:skp gv f x=true) (a:x∉f) (b:¬gv.getD f.length 0≠x) (c:¬gv.getD f.length 0=0):False:=by unfold skp at h;rw[decide_eq_false a,decide_eq_false b,decide_eq_false c]at h;simp at h
theorem Gq (c:Int) (ls:List (List Int)) (sum:Int) (gv:List Int) (h:dz c ls sum gv) (k:Nat) (ih:POK Tryz.prog 104 (prS c ls sum gv k)):POK Tryz.prog 104 (Gp c ls sum gv k):=by
 have hc:=h.c1
 have hgl:=h.gl
 have hll:=h.ll
 intro xs K hk
 unfold Gp at hk
 split at hk
 case h_2=>exact hk.elim
 rename_i c ls sum gv f m
 obtain⟨⟨rfl,rfl,rfl,rfl,hfl,hfr,hm⟩,hk⟩:=hk
 refine⟨_,hk,?_⟩
 have hC:aY Tryz.prog (aA 95 (aB LZ) (aA 104 (aB (prS c ls sum gv k)) (aA 119 (aB Bw) noC))):=aj (au XZ) (aj (au ih) (aj (au Qi) aD))
 have hf16:∀x∈f,0≤x∧x≤16:=fun x hx=>by have:=hfr x hx;omega
 by_cases hm0:m≤0
 ·rw[show m.toNat=0 by omega,List.take_zero]
  refine av (md:=1) (rf:=[]) mixed ak hC Tryz.func104 (by rfl) (by rfl) (by rfl) ?_
  repeat'((conv=>whnf);first|(intro hq;(try simp only[vw]at hq);try first|exact absurd hq (by decide)|exfalso;omega)|apply aI|with_reducible exact vM rfl|exact⟨⟩|apply nM|apply fM)
  all_goals((try apply vM);(try simp only[vq]at*);try omega)
  all_goals first|omega|exact JH|skip
 refine av (md:=1) (rf:=[]) mixed ak hC Tryz.func104 (by rfl) (by rfl) (by rfl) ?_
 repeat'((conv=>whnf);first|(intro hq;(try simp only[vw]at hq);try first|exact absurd hq (by decide)|exfalso;omega)|apply aI|with_reducible exact vM rfl|exact⟨⟩|apply nM|apply fM)
 all_goals((try apply vM);(try simp only[vq]at*);try omega)
 all_goals(try omega)
 conv=>whnf
 refine aM (X:=Nat) (fun i=>i≤ls.length∧∀j,j<i→okl sum f (ls.getD j [])=true) (fun i=>[(7,.int .i64 i)]) (fun i=>[]) (fun i=>ls.length-i) 0 ⟨aK,mixed,ak,hC,aQ⟩ (by rfl) ⟨by omega,fun j hj=>by omega⟩ ?_ ?_
 ·repeat'((conv=>whnf);first|intro _|apply aI|with_reducible exact vM rfl|exact⟨⟩|apply nM|apply fM)
  all_goals((try apply vM);(try simp only[vq]at*);try omega)
 intro i ⟨hi,hok⟩
 by_cases hlt:i<ls.length
 ·have hL:=h.ln i hlt
  have hne:=hL.ne
  have hle:=hL.len
  have hlast:(ls.getD i []).getD ((ls.getD i []).length-1) 0∈ls.getD i []:=eO (by omega)
  have hlr:=hL.rng _ hlast
  have hsu:(ls.getD i []).getD ((ls.getD i []).length-1) 0<f.length→∀x∈ls.getD i [],0≤x∧x<f.length:=fun a x hx=>by
   have:=uJ hL.pw x hx
   unfold ls0 at this
   have:=hL.rng x hx
   omega
  have hbd:=nT hf16 (ls.getD i [])
  have nxt:okl sum f (ls.getD i [])=true→∀j,j<i+1→okl sum f (ls.getD j [])=true:=fun a j hj=>by
   by_cases e:j=i
   ·subst e;exact a
   ·exact hok j (by omega)
  have ek:(((ls.getD i []).length:Int)-1).toNat=(ls.getD i []).length-1:=by omega
  repeat'((conv=>whnf);first|(intro hq;(try simp only[vw]at hq);try first|exact absurd hq (by decide)|exfalso;omega)|apply aI|with_reducible exact vM rfl|exact⟨⟩|apply nM|apply fM)
  all_goals((try apply vM);(try simp only[vq]at*);try omega)
  all_goals(try omega)
  ·rw[ek]at hq;exact⟨by omega,hsu hq,hf16⟩
  ·rename_i hq2
   rw[ek]at hq2
   rw[Tw hlt (by unfold okl;rw[decide_eq_true hq2,decide_eq_false hq];rfl),List.take_nil]
   exact JH
  ·refine⟨i+1,[],⟨⟨by omega,nxt (by unfold okl;rw[decide_eq_true (Classical.not_not.1 hq),Bool.or_true])⟩,by omega⟩,?_⟩
   repeat'((conv=>whnf);first|intro _|apply aI|with_reducible exact vM rfl|exact⟨⟩|apply nM|apply fM)
   all_goals((try apply vM);(try simp only[vq]at*);try omega)
  ·rw[ek]at hq
   refine⟨i+1,[],⟨⟨by omega,nxt (by unfold okl;rw[decide_eq_false hq];rfl)⟩,by omega⟩,?_⟩
   repeat'((conv=>whnf);first|intro _|apply aI|with_reducible exact vM rfl|exact⟨⟩|apply nM|apply fM)
   all_goals((try apply vM);(try simp only[vq]at*);try omega)
 have e:i=ls.length:=by omega
 subst e
 have hP:=YL hok
 cases k with
 |zero=>
  have e1:dK c ls sum gv 0 f=[f]:=by unfold dK;rw[hP];rfl
  rw[e1,List.take_of_length_le (by simp;omega)]
  repeat'((conv=>whnf);first|(intro hq;(try simp only[vw]at hq);try first|exact absurd hq (by decide)|exfalso;omega)|apply aI|with_reducible exact vM rfl|exact⟨⟩|apply nM|apply fM)
  all_goals((try apply vM);(try simp only[vq]at*);try omega)
  all_goals(try(rw[List.nil_append];omega))
  simp only[List.nil_append]
  all_goals(refine Sup.via ?_;repeat'((conv=>whnf);first|intro _|apply aI|with_reducible exact vM rfl|exact⟨⟩|apply nM|apply fM);all_goals((try apply vM);(try simp only[vq]at*);try omega);all_goals(try(simp[CL.sub];done)))
 |succ k=>
  have e1:dK c ls sum gv (k+1) f=nxS c ls sum gv k f c.toNat:=by unfold dK;rw[hP];rfl
  rw[e1]
  repeat'((conv=>whnf);first|(intro hq;(try simp only[vw]at hq);try first|exact absurd hq (by decide)|exfalso;omega)|apply aI|with_reducible exact vM rfl|exact⟨⟩|apply nM|apply fM)
  all_goals((try apply vM);(try simp only[vq]at*);try omega)
  all_goals(try omega)
  conv=>whnf
  refine aM (X:=Nat) (fun i=>i≤c.toNat) (fun i=>[(11,.int .i64 ((i:Int)+1)),(10,.isl (.rows .i64 ((nxS c ls sum gv k f i).take m.toNat)) (.own 20))]) (fun i=>[(20,.tok 1 ((nxS c ls sum gv k f i).take m.toNat).length)]) (fun i=>c.toNat-i) 0 ⟨aK,mixed,ak,hC,aQ⟩ (by rfl) (by omega) ?_ ?_
  ·rw[show nxS c ls sum gv k f 0=[]from rfl,List.take_nil]
   repeat'((conv=>whnf);first|intro _|apply aI|with_reducible exact vM rfl|exact⟨⟩|apply nM|apply fM)
   all_goals((try apply vM);(try simp only[vq]at*);try omega)
   all_goals(try rfl)
  intro i hi
  by_cases hlt:i<c.toNat
  ·have hsu:=Tv (c:=c) (ls:=ls) (sum:=sum) (gv:=gv) (k:=k) (f:=f) (i:=i)
   have hA1:((nxS c ls sum gv k f i).take m.toNat).length=min m.toNat (nxS c ls sum gv k f i).length:=List.length_take ..
   have hap:skp gv f ((i:Int)+1)=false→(nxS c ls sum gv k f i).take m.toNat++(dK c ls sum gv k (f++[(i:Int)+1])).take (m-(((nxS c ls sum gv k f i).take m.toNat).length:Int)).toNat=(nxS c ls sum gv k f (i+1)).take m.toNat:=fun e=>by
    rw[hsu,e,if_neg (by simp),List.take_append,hA1]
    congr 2
    omega
   have hsk:skp gv f ((i:Int)+1)=true→(nxS c ls sum gv k f i).take m.toNat=(nxS c ls sum gv k f (i+1)).take m.toNat:=fun e=>by
    rw[hsu,e,if_pos rfl,List.append_nil]
   have hskp:skp gv f ((i:Int)+1)=(decide ((i:Int)+1∈f)||(decide (0<gv.getD f.length 0)&&decide (gv.getD f.length 0≠(i:Int)+1))||(decide (gv.getD f.length 0=0)&&decide ((i:Int)+1∈gv))):=rfl
   obtain⟨A,hA⟩:∃A,(nxS c ls sum gv k f i).take m.toNat=A:=⟨_,rfl⟩
   rw[hA]at hA1 hap hsk⊢
   have hfl5:f.length≤16:=by omega
   have hl1:([]++f).length≤1073741824:=by rw[List.nil_append];omega
   have hl2:([]++f++[(i:Int)+1]).length≤1073741824:=by rw[List.nil_append,List.length_append,List.length_singleton];omega
   have hcon:(([]++f++[(i:Int)+1]).length:Int)+k=c∧(∀x∈[]++f++[(i:Int)+1],1≤x∧x≤c)∧0≤m-(A.length:Int)∧m-(A.length:Int)≤256:=by
    rw[List.nil_append,List.length_append,List.length_singleton]
    refine⟨by omega,fun x hx=>?_,by omega,by omega⟩
    rcases List.mem_append.1 hx with hx|hx
    ·exact hfr x hx
    ·rw[List.mem_singleton.1 hx];omega
   have hbig:(A++List.take (m-(A.length:Int)).toNat (dK c ls sum gv k ([]++f++[(i:Int)+1]))).length≤1073741824:=by
    rw[List.length_append,List.length_take];omega
   repeat'((conv=>whnf);first|(intro hq;(try simp only[vw]at hq);try first|exact absurd hq (by decide)|exfalso;omega)|apply aI|with_reducible exact vM rfl|exact⟨⟩|apply nM|apply fM)
   all_goals((try apply vM);(try simp only[vq]at*);try omega)
   all_goals(try first|omega|exact .inl trivial|exact hl1|exact hl2|exact hcon|exact hbig)
   all_goals refine⟨i+1,[],⟨by omega,by omega⟩,?_⟩
   all_goals cases hs:skp gv f ((i:Int)+1)
   all_goals(try(exfalso;first|(refine sk1 hs ?_;assumption)|(refine sk2 hs ?_ ?_<;>assumption)|(refine sk3 hs ?_ ?_<;>assumption)|(refine sk4 hs ?_ ?_ ?_<;>assumption)|(refine sk5 hs ?_ ?_ ?_<;>assumption)|(refine sk6 hs ?_ ?_ ?_<;>assumption)|(refine sk7 hs ?_ ?_ ?_<;>assumption)))
   all_goals first|rw[←hsk hs]|rw[←hap hs,List.length_append]
   all_goals repeat'((conv=>whnf);first|intro _|apply aI|with_reducible exact vM rfl|exact⟨⟩|apply nM|apply fM)
   all_goals all_goals((try apply vM);(try simp only[vq]at*);try omega)
  ·have:i=c.toNat:=by omega
   subst this
   repeat'((conv=>whnf);first|(intro hq;(try simp only[vw]at hq);try first|exact absurd hq (by decide)|exfalso;omega)|apply aI|with_reducible exact vM rfl|exact⟨⟩|apply nM|apply fM)
   all_goals((try apply vM);(try simp only[vq]at*);try omega)
   all_goals(try first|omega|exact Sup.of rfl)
theorem YM (c:Int) (ls:List (List Int)) (sum:Int) (gv:List Int) (h:dz c ls sum gv):∀k,POK Tryz.prog 104 (Gp c ls sum gv k):=by
 intro k
 induction k with
 |zero=>exact Gq c ls sum gv h 0 fun xs K hk=>hk.elim
 |succ k ih=>exact Gq c ls sum gv h (k+1) ih
theorem Ik (c:Int) (ls:List (List Int)) (sum:Int) (gv:List Int) (h:dz c ls sum gv) (m:Int) (hm:0≤m∧m≤256):aG Tryz.prog 40 [pzV c ls sum gv,.int .i64 m] (.isl (.rows .i64 ((dK c ls sum gv gv.length []).take m.toNat)) .none):=by
 have hgl:=h.gl
 have hC:aY Tryz.prog (aA 104 (aB (Gp c ls sum gv gv.length)) noC):=aj (au (YM c ls sum gv h gv.length)) aD
 refine av (md:=1) (rf:=[]) mixed ak hC Tryz.func40 (by rfl) (by rfl) (by rfl) ?_
 repeat'((conv=>whnf);first|(intro hq;(try simp only[vw]at hq);try first|exact absurd hq (by decide)|exfalso;omega)|apply aI|with_reducible exact vM rfl|exact⟨⟩|apply nM|apply fM)
 all_goals((try apply vM);(try simp only[vq]at*);try omega)
 all_goals first|exact Sup.of rfl|exact⟨by simpa using hgl,fun x hx=>by simp at hx,hm⟩|skip
end Go.Eng.YtcechbdgokjmgaaGreatDoor
namespace Go.Eng.YtcechbdgokjmgaaGreatDoor
open Go.Proofs Go.RowKit
set_option linter.unusedSimpArgs false
set_option linter.unusedVariables false
set_option maxHeartbeats 0
set_option maxRecDepth 100000
def Tx:PSp:=fun xs K=>match xs with
 | [.agg [.int .i64 c,.isl (.rows .i64 ls) .none,.int .i64 sum,.isl (.ints .i64 gv) .none],.int .i64 m]=>VC (bT ls∧gv.length≤5000)∧K (.tup [.isl (.rows .i64 (fP c ls sum gv m).1) .none,.int .i64 (fP c ls sum gv m).2])
 |_=>False
theorem abF:POK Tryz.prog 39 Tx:=by
 intro xs K h
 unfold Tx at h
 split at h
 ·exact⟨_,h.2,qD _ _ _ _ _ h.1.get.1 h.1.get.2⟩
 ·exact h.elim
def Gs:PSp:=fun xs K=>match xs with
 | [.agg [.int .i64 c,.isl (.rows .i64 ls) .none,.int .i64 sum,.isl (.ints .i64 gv) .none],.int .i64 m]=>VC (dz c ls sum gv∧0≤m∧m≤256)∧K (.isl (.rows .i64 ((dK c ls sum gv gv.length []).take m.toNat)) .none)
 |_=>False
theorem Tz:POK Tryz.prog 40 Gs:=by
 intro xs K h
 unfold Gs at h
 split at h
 ·exact⟨_,h.2,Ik _ _ _ _ h.1.get.1 _ h.1.get.2⟩
 ·exact h.elim
def Nk:PSp:=fun xs K=>match xs with
 | [.agg [.int .i64 c,.isl (.rows .i64 ls) .none,.int .i64 sum,.isl (.ints .i64 gv) .none]]=>VC (gv.length≤9223372036854775807)∧K (.int .i64 (zeN gv:Nat))
 |_=>False
theorem YN:POK Tryz.prog 38 Nk:=by
 intro xs K h
 unfold Nk at h
 split at h
 ·exact⟨_,h.2,Ii _ _ _ _ h.1.get⟩
 ·exact h.elim
noncomputable def Bz (b1:Bool) (w n:Int) (l:List (List Int)) (e:Int):CPT:=aA 16 (aB (sD Gn (.bool b1))) (aA 17 (aB Gl) (aA 18 (aB (sD FJ (.int .i64 w))) (aA 19 (aB Nf) (aA 36 (aB (sD mK (.bool true))) (aA 38 (aB (sD Nk (.int .i64 n))) (aA 39 (aB (sD Tx (.tup [.isl (.rows .i64 l) .none,.int .i64 e]))) (aA 40 (aB (sD Gs (.isl (.rows .i64 l) .none))) noC)))))))
theorem qG (b1:Bool) (w n:Int) (l:List (List Int)) (e:Int):aY Tryz.prog (Bz b1 w n l e):=aj (au (nU Tj (.bool b1))) (aj (au Td) (aj (au (nU FK (.int .i64 w))) (aj (au P8) (aj (au (nU pV (.bool true))) (aj (au (nU YN (.int .i64 n))) (aj (au (nU abF (.tup [.isl (.rows .i64 l) .none,.int .i64 e]))) (aj (au (nU Tz (.isl (.rows .i64 l) .none))) aD)))))))
theorem CS (c:Int) (ls:List (List Int)) (sum:Int) (gv:List Int) (m:Int) (hgm:gv.length≤9223372036854775807):aG Tryz.prog 5 [pzV c ls sum gv,.int .i64 m] (.bp true):=by
 obtain⟨n,hn⟩:∃n:Int,((zeN gv:Nat):Int)=n:=⟨_,rfl⟩
 by_cases hg:Bt c ls sum gv=true
 ·have hC:=qG true 0 n [] 0
  refine cB (md:=1) (rf:=[]) mixed ak hC Tryz.func5 (by rfl) (by rfl) (by rfl) ?_
  unfold Bz
  repeat'((conv=>whnf);first|(intro hq;(try simp only[vw]at hq);try first|exact absurd hq (by decide)|exfalso;omega)|apply aI|with_reducible exact vM rfl|exact⟨⟩|apply nM|apply fM)
  all_goals((try apply vM);(try simp only[vq]at*);try omega)
  all_goals first|exact qF hg|exact dU _|exact lg hn|omega
 have hg:Bt c ls sum gv=false:=by simpa using hg
 have hsh:pY ls gv=true:=by unfold Bt at hg;cases h:pY ls gv<;>simp[h]at hg⊢
 obtain⟨hL,hgl⟩:=JF hsh
 obtain⟨w,he⟩:∃w,pzE c ls sum gv=w:=⟨_,rfl⟩
 by_cases hw:w=0
 case neg=>
  have h1:PV.tup [.isl (.rows .i64 (fP c ls sum gv m).1) .none,.int .i64 (fP c ls sum gv m).2]=.tup [.isl (.rows .i64 []) .none,.int .i64 w]:=by
   have:aJ [pzE c ls sum gv,jg m]=w:=by rw[he];simp[aJ,hw]
   unfold fP;rw[this,if_pos hw]
  have hC:=qG false w n [] w
  refine cB (md:=1) (rf:=[]) mixed ak hC Tryz.func5 (by rfl) (by rfl) (by rfl) ?_
  unfold Bz
  repeat'((conv=>whnf);first|(intro hq;(try simp only[vw]at hq);try first|exact absurd hq (by decide)|exfalso;omega)|apply aI|with_reducible exact vM rfl|exact⟨⟩|apply nM|apply fM)
  all_goals((try apply vM);(try simp only[vq]at*);try omega)
  all_goals(try first|exact qF hg|exact dU _|exact lg he|exact lg hn|exact⟨hL,by omega⟩|(rw[h1];exact dU _)|exact⟨hp,by omega,by omega⟩|omega)
 subst hw
 have hp:=dz.of he
 have hz:(zeN gv:Nat)=n.toNat:=by omega
 by_cases hm:m<0∨256<m
 ·have h1:PV.tup [.isl (.rows .i64 (fP c ls sum gv m).1) .none,.int .i64 (fP c ls sum gv m).2]=.tup [.isl (.rows .i64 []) .none,.int .i64 3]:=by
   have:aJ [pzE c ls sum gv,jg m]=3:=by rw[he];unfold jg;rw[if_pos hm];rfl
   unfold fP;rw[this,if_pos (by simp)]
  have hC:=qG false 0 n [] 3
  refine cB (md:=1) (rf:=[]) mixed ak hC Tryz.func5 (by rfl) (by rfl) (by rfl) ?_
  unfold Bz
  repeat'((conv=>whnf);first|(intro hq;(try simp only[vw]at hq);try first|exact absurd hq (by decide)|exfalso;omega)|apply aI|with_reducible exact vM rfl|exact⟨⟩|apply nM|apply fM)
  all_goals((try apply vM);(try simp only[vq]at*);try omega)
  all_goals(try first|exact qF hg|exact dU _|exact lg he|exact lg hn|exact⟨hL,by omega⟩|(rw[h1];exact dU _)|exact⟨hp,by omega,by omega⟩|omega)
 have hl0:aJ [pzE c ls sum gv,jg m]=0:=by rw[he];unfold jg;rw[if_neg hm];rfl
 by_cases h9:9<n
 ·have h1:PV.tup [.isl (.rows .i64 (fP c ls sum gv m).1) .none,.int .i64 (fP c ls sum gv m).2]=.tup [.isl (.rows .i64 []) .none,.int .i64 20]:=by
   unfold fP;rw[hl0,if_neg (by simp),if_pos (by omega)]
  have hC:=qG false 0 n [] 20
  refine cB (md:=1) (rf:=[]) mixed ak hC Tryz.func5 (by rfl) (by rfl) (by rfl) ?_
  unfold Bz
  repeat'((conv=>whnf);first|(intro hq;(try simp only[vw]at hq);try first|exact absurd hq (by decide)|exfalso;omega)|apply aI|with_reducible exact vM rfl|exact⟨⟩|apply nM|apply fM)
  all_goals((try apply vM);(try simp only[vq]at*);try omega)
  all_goals(try first|exact qF hg|exact dU _|exact lg he|exact lg hn|exact⟨hL,by omega⟩|(rw[h1];exact dU _)|exact⟨hp,by omega,by omega⟩|omega)
 obtain⟨R,hR⟩:∃R,(dK c ls sum gv gv.length []).take m.toNat=R:=⟨_,rfl⟩
 have h1:PV.tup [.isl (.rows .i64 (fP c ls sum gv m).1) .none,.int .i64 (fP c ls sum gv m).2]=.tup [.isl (.rows .i64 R) .none,.int .i64 0]:=by
  have:=Qh hp m.toNat
  rw[show((m.toNat:Nat):Int)=m by omega]at this
  unfold fP;rw[hl0,if_neg (by simp),if_neg (by omega),this,hR]
 have hRl:R.length≤256:=by rw[←hR,List.length_take];omega
 have hRi:∀i,i<R.length→(R.getD i []).length≤2000000:=fun i hi=>by
  have h2:R.getD i []∈dK c ls sum gv gv.length []:=by
   have:R.getD i []∈R:=eO hi
   rw[←hR]at this⊢
   exact List.mem_of_mem_take this
  have h3:=((Tq hp _).1 h2).s.len
  have:=hp.c1
  omega
 have hC:=qG false 0 n R 0
 refine cB (md:=1) (rf:=[]) mixed ak hC Tryz.func5 (by rfl) (by rfl) (by rfl) ?_
 unfold Bz
 repeat'((conv=>whnf);first|(intro hq;(try simp only[vw]at hq);try first|exact absurd hq (by decide)|exfalso;omega)|apply aI|with_reducible exact vM rfl|exact⟨⟩|apply nM|apply fM)
 all_goals((try apply vM);(try simp only[vq]at*);try omega)
 all_goals(try first|exact qF hg|exact dU _|exact lg he|exact lg hn|exact⟨hL,by omega⟩|(rw[h1];exact dU _)|exact⟨hp,by omega,by omega⟩|(rw[hR];exact dU _)|omega)
 conv=>whnf
 refine aM (X:=Nat) (fun i=>i≤R.length) (fun i=>[(10,.int .i64 i)]) (fun i=>[]) (fun i=>R.length-i) 0 ⟨aK,mixed,ak,hC,aQ⟩ (by rfl) (by omega) ?_ ?_
 ·repeat'((conv=>whnf);first|intro _|apply aI|with_reducible exact vM rfl|exact⟨⟩|apply nM|apply fM)
  all_goals((try apply vM);(try simp only[vq]at*);try omega)
 intro i hi
 by_cases hlt:i<R.length
 ·have hi2:=hRi i hlt
  repeat'((conv=>whnf);first|(intro hq;(try simp only[vw]at hq);try first|exact absurd hq (by decide)|exfalso;omega)|apply aI|with_reducible exact vM rfl|exact⟨⟩|apply nM|apply fM)
  all_goals((try apply vM);(try simp only[vq]at*);try omega)
  all_goals(try first|omega|(refine qF ?_;simp;done))
  refine⟨i+1,[],⟨by omega,by omega⟩,?_⟩
  repeat'((conv=>whnf);first|intro _|apply aI|with_reducible exact vM rfl|exact⟨⟩|apply nM|apply fM)
  all_goals((try apply vM);(try simp only[vq]at*);try omega)
 ·have:i=R.length:=by omega
  subst this
  repeat'((conv=>whnf);first|(intro hq;(try simp only[vw]at hq);try first|exact absurd hq (by decide)|exfalso;omega)|apply aI|with_reducible exact vM rfl|exact⟨⟩|apply nM|apply fM)
  all_goals((try apply vM);(try simp only[vq]at*);try omega)
  all_goals(try first|omega|exact dU _)
end Go.Eng.YtcechbdgokjmgaaGreatDoor
