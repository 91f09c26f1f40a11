/- Contracts of functions of the program: what each returns. Their conditions stand in them. -/
import Derived.Shelf.Strings.BuilderF
import Derived.Test.YtcechbdgokjmgaaGreatDoorHMakesb
open Array renaming length_toList→agS,getElem?_modify→agn
open Bool renaming and_eq_true→agE,or_eq_true→ahM,not_eq_true'→ajn,and_false→aix,true_and→ai2,false_and→aiD,not_eq_false'→ajF,or_true→ajG,not_false→agZ,not_true→ag0
open Classical renaming not_not→aha,not_forall→ajI,not_imp→ajJ,byContradiction→ajK
open Int renaming toNat_zero→ajx,le_refl→ajC,toNat→aiI
open List renaming any_eq_true→aiR,length_take→ag6,take_length→ail,foldl_append→aiF,length_set→agT,take→aiW,drop→aiX,length_map→aif,length_append→ahx,length_cons→agb,length_nil→af7,mem_append→agu,mem_singleton→ai0,getD_eq_getElem?_getD→agt,getElem?_eq_getElem→agy,mem_cons→ahG,append_nil→aib,map_cons→aie,map_nil→ajy,map_append→aik,mem_map→ai5,take_add_one→aij,splitAt→ajz,all_eq_true→ahP,replicate→agD,all_eq_false→ajA,getElem_of_mem→agx,ext_getElem→aja,foldl_cons→ajB,filter_cons→aji,pairwise_cons→ahH,mem_filter→aiw,mem_range→ah5,mergeSort_perm→aju,length_eq_one_iff→ajD,eq_nil_of_length_eq_zero→ajE,any_eq_false→aiS,getElem?_set→agR,range→agr,pairwise_iff_getElem→ajr,length_singleton→ajH,mem_append_left→agv,length_filter_le→ai1,nil_append→ajL,filter_append→ajh,filter_nil→ajj,getElem_set_ne→ajs
open Nat renaming not_lt_zero→ajw,min_eq_left→agY,le_refl→agh,beq→agA,eq_of_beq_eq_true→agF,le_trans→ah2,eq_zero_or_pos→ag2,mul_one→agP
namespace Go.Eng.YtcechbdgokjmgaaGreatDoor
open Go.Proofs
set_option linter.unusedSimpArgs false
set_option linter.unusedVariables false
set_option maxHeartbeats 0
set_option maxRecDepth 100000
def ET:LSp:=fun xs objs K=>match xs,objs with
 | [.agg [.int .i64 c,.isl (.rows .i64 ls) .none,.int .i64 sum,.isl (.ints .i64 gv) .none]],[]=>VC ((1≤gv.length∧gv.length≤1000000)∧ls.length≤5000∧∀i,i<ls.length→1≤(ls.getD i []).length∧(ls.getD i []).length≤5000)∧K [.agg [.int .i64 c,.isl (.rows .i64 ls) .none,.int .i64 sum,.rsl 0 0 gv.length]] [.cells (.ints .i64 gv) false]
 |_,_=>False
theorem Lx:LOK Tryz.prog 124 ET:=by
 intro xs objs K hk;unfold ET at hk;split at hk
 ·exact⟨_,_,hk.2,J2 _ _ _ _ hk.1.get.1 hk.1.get.2.1 hk.1.get.2.2⟩
 ·exact hk.elim
def Ib:PSp:=fun xs K=>match xs with
 | [.agg [.int .i64 c,.isl (.rows .i64 ls) .none],.isl (.ints .i64 f) .none]=>VC (bH ls∧f.length≤2000000∧tZ c ls f=0∧rH f ls)∧K (.tup [.bp (decide (kJ (gL f ls ls.length)<0)),.int .i64 0])
 |_=>False
theorem Vq:POK Tryz.prog 122 Ib:=by
 intro xs K hk;unfold Ib at hk;split at hk
 ·exact⟨_,hk.2,Ec _ _ _ hk.1.get.1 hk.1.get.2.1 hk.1.get.2.2.1 hk.1.get.2.2.2⟩
 ·exact hk.elim
def mkS (c:Int) (ls:List (List Int)) (sum:Int) (nv:List Int) (g:Nat) (gv:List Int) (y:Int):List Int:=
 if(sol c ls sum (gv.set y.toNat 0) g).2.2≠0 then(gv.set y.toNat 0).set y.toNat (nv.getD y.toNat 0)else gv.set y.toNat 0
noncomputable def afK:CPT:=aA 88 (aB jE) (aA 89 (aB gX) (aA 93 (aB Al) (aA 98 (aB nY) (aA 99 (jV wo) (aA 121 (aB wC) (aA 122 (aB Ib) (aA 123 (aB OQ) (aA 124 (eG [] ET) noC))))))))
theorem nE:aV Tryz.prog afK:=ak (au iX) (ak (au jZ) (ak (au GN) (ak (au q9) (ak (gW yR) (ak (au J5) (ak (au Vq) (ak (au aaB) (ak (dF [] Lx) aC))))))))
def mD (c:Int) (ls:List (List Int)) (nv:List Int) (g:Int):Int:=aL [fu c ls,fJ g,if(nv.length:Int)≠c then 2 else 0]
def Ic (ls:List (List Int)) (nv:List Int):Bool:=decide (kJ (gL nv ls ls.length)<0)
def iD (c:Int) (ls:List (List Int)) (nv ov:List Int) (g:Int):(Int × List (List Int) × Int × List Int) × Int:=
 if mD c ls nv g≠0 then((0,[],0,[]),mD c ls nv g)else if(gI nv).2≠0∨(gI nv).1=false then((0,[],0,[]),1)else if Ic ls nv=false then((0,[],0,[]),16)
 else if(ov.length:Int)≠c∨j5 5 ov≠0 then((0,[],0,[]),14)
 else((c,ls,fI nv (ls.getD 0 []) (ls.getD 0 []).length,ov.foldl (mkS c ls (fI nv (ls.getD 0 []) (ls.getD 0 []).length) nv g.toNat) nv),0)
abbrev pzT (p:Int × List (List Int) × Int × List Int):PV:=pzV p.1 p.2.1 p.2.2.1 p.2.2.2
theorem AA (e:Int):Sup (bG [PV.agg [.int .i64 0,.nils,.int .i64 0,.nils],.int .i64 e]) (.tup [pzT (0,[],0,[]),.int .i64 e]):=by all_goals(refine Sup.via ?_;repeat'((conv=>whnf);first|intro _|apply aI|with_reducible exact vM rfl|exact⟨⟩|apply nM|apply fM);all_goals((try apply vM);(try simp only[vq]at*);try omega);all_goals(try(simp[CL.sub];done)))
theorem Dx (c:Int) (ls:List (List Int)) (nv ov:List Int) (g:Int) (h:bH ls) (hn:nv.length≤5000) (ho:ov.length≤5000):
 aF Tryz.prog 53 [.agg [.int .i64 c,.isl (.rows .i64 ls) .none],.isl (.ints .i64 nv) .none,.isl (.ints .i64 ov) .none,.int .i64 g] (.tup [pzT (iD c ls nv ov g).1,.int .i64 (iD c ls nv ov g).2]):=by
 unfold iD;by_cases h1:mD c ls nv g=0
 case neg=>
  rw[if_pos h1];refine bR (md:=1) (rf:=[]) mixed aj nE Tryz.func53 (by rfl) (by rfl) (by rfl) ?_
  repeat'((conv=>whnf);first|(intro hq;(try simp only[vw]at hq);try first|exact absurd hq (by decide)|exfalso;omega)|apply aI|with_reducible exact vM rfl|exact⟨⟩|apply nM|apply fM)
  all_goals((try apply vM);(try simp only[vq]at*);try omega)
  all_goals first|exact h|exact AA _|(exfalso;exact ‹¬aL [_,_,_]≠0› h1)|skip
 rw[if_neg (by rw[h1];simp)]
 have hb:fu c ls=0:=by
  by_cases e:fu c ls=0
  ·exact e
  ·exact absurd ((kI [fu c ls,fJ g,if(nv.length:Int)≠c then 2 else 0] 0 (by simp) (fun i hi=>absurd hi (ajw i)) e).symm.trans h1) e
 by_cases h2:(gI nv).2≠0∨(gI nv).1=false
 ·rw[if_pos h2]
  refine bR (md:=1) (rf:=[]) mixed aj nE Tryz.func53 (by rfl) (by rfl) (by rfl) ?_
  repeat'((conv=>whnf);first|(intro hq;(try simp only[vw]at hq);try first|exact absurd hq (by decide)|exfalso;omega)|apply aI|with_reducible exact vM rfl|exact⟨⟩|apply nM|apply fM)
  all_goals((try apply vM);(try simp only[vq]at*);try omega)
  all_goals first|exact h|exact AA _|(exfalso;exact ‹aL [_,_,_]≠0› h1)|omega|(exfalso;rcases h2 with h2|h2<;>simp_all;done)|skip
 rw[if_neg h2];obtain⟨hlc,hnr,hi⟩:(nv.length:Int)=c∧iC nv=true∧gI nv=(true,0):=by
  have a1:(gI nv).2=0:=aha.1 fun e=>h2 (.inl e);have a2:(gI nv).1=true:=by
   cases e:(gI nv).1 with
   |true=>rfl
   |false=>exact absurd (.inr e) h2
  have a3:cfE nv=0:=by
   by_cases e:cfE nv=0
   ·exact e
   ·unfold gI at a1;rw[if_pos e]at a1;exact absurd a1 e
  refine⟨?_,?_,Prod.ext a2 a1⟩
  ·by_cases e:(nv.length:Int)=c
   ·exact e
   ·unfold mD at h1
    rw[if_pos e,hb]at h1;by_cases eg:fJ g=0
    ·rw[eg]at h1;simp[aL]at h1
    ·have:=kI [0,fJ g,2] 1 (by simp) (fun i hi=>by(have:i=0:=by omega);subst this;rfl) eg
     rw[this]at h1;exact absurd h1 eg
  ·unfold gI at a2;rw[if_neg (by rw[a3];simp)]at a2;exact a2
 have hp:=Ay hb;have hfil:bH ls∧nv.length≤2000000∧tZ c ls nv=0∧rH nv ls:=by
  have hr:=lS hnr;have hc:=hp.c1;have hN:∀x∈nv,0≤x∧x≤16:=fun x hx=>by have:=hr x hx;omega
  refine⟨h,by omega,?_,⟨hp.ll.1,by have:=hp.ll;omega⟩,fun i hi=>?_⟩
  ·have e1:jl c ls=0:=by
    by_cases e:jl c ls=0
    ·exact e
    ·unfold fu at hb
     exact absurd ((kI [jl c ls,if 16<c then 20 else 0,if ls.length=0 then 12 else 0] 0 (by simp) (fun i hi=>absurd hi (ajw i)) e).symm.trans hb) e
   have e2:oO nv=0:=by
    unfold oO;rw[if_neg];intro e;rw[aiR]at e;obtain⟨x,hx,e⟩:=e;have:=hN x hx;unfold qY at e;simp at e;omega
   unfold tZ;rw[e1,e2,if_neg (by omega)];rfl
  ·have hL:=hp.ln i hi
   refine⟨by have:=hL.len;omega,fun x hx=>by have:=hL.rng x hx;omega,fun k hk=>?_⟩
   have:=nC hN ((ls.getD i []).take k);have e:fI nv (ls.getD i []) k=dU nv ((ls.getD i []).take k):=rfl;rw[ag6,agY hk]at this;have:=hL.len;omega
 have hi1:(gI nv).1=true:=by rw[hi]
 have hi2:(gI nv).2=0:=by rw[hi]
 cases h3:Ic ls nv with
 |false=>
  have h3':¬kJ (gL nv ls ls.length)<0:=of_decide_eq_false h3;rw[if_pos rfl];refine bR (md:=1) (rf:=[]) mixed aj nE Tryz.func53 (by rfl) (by rfl) (by rfl) ?_
  repeat'((conv=>whnf);first|(intro hq;(try simp only[vw]at hq);try first|exact absurd hq (by decide)|exfalso;omega)|apply aI|with_reducible exact vM rfl|exact⟨⟩|apply nM|apply fM)
  all_goals((try apply vM);(try simp only[vq]at*);try omega)
  all_goals first|exact h|exact hfil|exact AA _|(exfalso;exact ‹aL [_,_,_]≠0› h1)|(exfalso;exact h3' (by assumption))|omega|(exfalso;simp_all;done)|skip
 |true=>
  have h3':kJ (gL nv ls ls.length)<0:=of_decide_eq_true h3;rw[if_neg (by simp)]
  by_cases h4:(ov.length:Int)≠c∨j5 5 ov≠0
  ·rw[if_pos h4]
   refine bR (md:=1) (rf:=[]) mixed aj nE Tryz.func53 (by rfl) (by rfl) (by rfl) ?_
   repeat'((conv=>whnf);first|(intro hq;(try simp only[vw]at hq);try first|exact absurd hq (by decide)|exfalso;omega)|apply aI|with_reducible exact vM rfl|exact⟨⟩|apply nM|apply fM)
   all_goals((try apply vM);(try simp only[vq]at*);try omega)
   all_goals first|exact h|exact hfil|exact AA _|(exfalso;exact ‹aL [_,_,_]≠0› h1)|(exfalso;exact ‹¬kJ _<0› h3')|omega|(exfalso;rcases h4 with h4|h4<;>contradiction)|(exfalso;simp_all;done)|skip
  rw[if_neg h4];have h5:(ov.length:Int)=c:=aha.1 fun e=>h4 (.inl e);have h6:j5 5 ov=0:=aha.1 fun e=>h4 (.inr e);have hll:=hp.ll;have hc:=hp.c1;have hcond:(1≤nv.length∧nv.length≤1000000)∧ls.length≤5000∧∀i,i<ls.length→1≤(ls.getD i []).length∧(ls.getD i []).length≤5000:=⟨by omega,by omega,fun i hi=>by have:=hp.ln i hi;have:=this.ne;have:=(hp.ln i hi).len;omega⟩
  refine bR (md:=1) (rf:=[]) mixed aj nE Tryz.func53 (by rfl) (by rfl) (by rfl) ?_
  repeat'((conv=>whnf);first|(intro hq;(try simp only[vw]at hq);try first|exact absurd hq (by decide)|exfalso;omega)|apply aI|with_reducible exact vM rfl|exact⟨⟩|apply nM|apply fM)
  all_goals((try apply vM);(try simp only[vq]at*);try omega)
  all_goals(try first|exact h|exact hfil|exact hcond|(exfalso;exact ‹aL [_,_,_]≠0› h1)|(exfalso;exact ‹¬kJ _<0› h3')|omega|(exfalso;exact ‹j5 5 ov≠0› h6)|(exfalso;simp_all;done))
  conv=>whnf
  refine aJ (X:=Nat) (fun k=>k≤(ls.getD 0 []).length) (fun k=>[(84,.int .i64 k)]) (fun k=>[(35,.cells (.pv [.int .i64 c,.isl (.rows .i64 ls) .none,.int .i64 (fI nv (ls.getD 0 []) k),(.rsl 31 0 nv.length)]) false)]) (fun k=>(ls.getD 0 []).length-k) 0 ⟨aG,mixed,aj,nE,aM⟩ (by rfl) (by omega) ?_ ?_
  ·repeat'((conv=>whnf);first|intro _|apply aI|with_reducible exact vM rfl|exact⟨⟩|apply nM|apply fM)
   all_goals((try apply vM);(try simp only[vq]at*);try omega)
  intro k hk;have hL:=hp.ln 0 (by omega)
  have hN:∀x∈nv,0≤x∧x≤16:=fun x hx=>by have:=lS hnr x hx;omega
  have hsb:=nC hN ((ls.getD 0 []).take k);rw[ag6,agY hk]at hsb;have esb:fI nv (ls.getD 0 []) k=dU nv ((ls.getD 0 []).take k):=rfl;have hLl:=hL.len;by_cases hlt:k<(ls.getD 0 []).length
  ·have hx:=hL.rng ((ls.getD 0 []).getD k 0) (fP hlt)
   have hv:=hN (nv.getD ((ls.getD 0 []).getD k 0).toNat 0) (fP (by omega))
   have hsx:=Ah nv (ls.getD 0 []) k hlt
   repeat'((conv=>whnf);first|(intro hq;(try simp only[vw]at hq);try first|exact absurd hq (by decide)|exfalso;omega)|apply aI|with_reducible exact vM rfl|exact⟨⟩|apply nM|apply fM)
   all_goals((try apply vM);(try simp only[vq]at*);try omega)
   all_goals(try simp only[ajx]at*)
   all_goals(try omega)
   refine⟨k+1,[],⟨by omega,by omega⟩,?_⟩
   rw[hsx]
   repeat'((conv=>whnf);first|intro _|apply aI|with_reducible exact vM rfl|exact⟨⟩|apply nM|apply fM)
   all_goals((try apply vM);(try simp only[vq]at*);try omega)
   all_goals skip
  have e:k=(ls.getD 0 []).length:=by omega
  subst e
  repeat'((conv=>whnf);first|(intro hq;(try simp only[vw]at hq);try first|exact absurd hq (by decide)|exfalso;omega)|apply aI|with_reducible exact vM rfl|exact⟨⟩|apply nM|apply fM)
  all_goals((try apply vM);(try simp only[vq]at*);try omega)
  all_goals(try simp only[ajx]at*)
  all_goals(try(exfalso;omega))
  conv=>whnf
  obtain⟨sm,hsm⟩:∃sm,fI nv (ls.getD 0 []) (ls.getD 0 []).length=sm:=⟨_,rfl⟩;rw[hsm];refine aJ (X:=Nat) (fun k=>k≤ov.length) (fun k=>[(99,.int .i64 k)]) (fun k=>[(31,.cells (.ints .i64 ((ov.take k).foldl (mkS c ls sm nv g.toNat) nv)) false)]) (fun k=>ov.length-k) 0 ⟨aG,mixed,aj,nE,aM⟩ (by rfl) (by omega) ?_ ?_
  ·repeat'((conv=>whnf);first|intro _|apply aI|with_reducible exact vM rfl|exact⟨⟩|apply nM|apply fM)
   all_goals((try apply vM);(try simp only[vq]at*);try omega)
  intro k hk;obtain⟨gk,hgk⟩:∃gk,(ov.take k).foldl (mkS c ls sm nv g.toNat) nv=gk:=⟨_,rfl⟩;have hsub:gJ gk nv:=by
   rw[←hgk];clear hgk;generalize ov.take k=l
   have:∀(l:List Int) (v:List Int),gJ v nv→gJ (l.foldl (mkS c ls sm nv g.toNat) v) nv:=by
    intro l;induction l with
    |nil=>exact fun v h=>h
    |cons y l ih=>
     intro v h;refine ih _ ?_;unfold mkS;split
     ·exact(h.set0 _).set1 _
     ·exact h.set0 _
   exact this l nv (gJ.refl nv)
  have hgl:=hsub.1;have hsmb: -999999999≤sm∧sm≤999999999:=by
   have:=nC hN (ls.getD 0 []);have e:fI nv (ls.getD 0 []) (ls.getD 0 []).length=dU nv ((ls.getD 0 []).take (ls.getD 0 []).length):=rfl;rw[ail]at e;omega
  have hg5:1≤g∧g≤5:=by
   unfold mD at h1;rw[hb]at h1;by_cases eg:fJ g=0
   ·unfold fJ at eg
    by_cases e:g<1∨5<g
    ·rw[if_pos e]at eg;cases eg
    ·omega
   ·have:=kI [0,fJ g,if(nv.length:Int)≠c then 2 else 0] 1 (by simp) (fun i hi=>by(have:i=0:=by omega);subst this;rfl) eg
    rw[this]at h1;exact absurd h1 eg
  by_cases hlk:k<ov.length
  ·have hy:0≤ov.getD k 0∧ov.getD k 0<ov.length:=by
    unfold j5 at h6;rw[if_neg (by omega)]at h6
    have:=iy h6 k hlk;unfold qA at this;by_cases e:ov.getD k 0<0∨ov.length≤ov.getD k 0∨ov.getD k 0∈ov.take k
    ·rw[if_pos e]at this;cases this
    ·omega
   have hnext:(ov.take (k+1)).foldl (mkS c ls sm nv g.toNat) nv=mkS c ls sm nv g.toNat gk (ov.getD k 0):=by
    rw[bX hlk,aiF,hgk];rfl
   have hpz:=Az hb hlc hnr hsmb (hsub.set0 (ov.getD k 0).toNat);have hsl:(gk.set (ov.getD k 0).toNat 0).length=nv.length:=by rw[agT];exact hgl
   have tk:aiW (nv.length-0) (aiX 0 (gk.set (ov.getD k 0).toNat 0))=gk.set (ov.getD k 0).toNat 0:=bP hsl;rw[hgk];cases ho:fO (sol c ls sm (gk.set (ov.getD k 0).toNat 0) g.toNat)with
   |none=>
    have he:(sol c ls sm (gk.set (ov.getD k 0).toNat 0) g.toNat).2.2≠0:=by
     unfold fO at ho;by_cases e:(sol c ls sm (gk.set (ov.getD k 0).toNat 0) g.toNat).2.2=21
     ·rw[e];decide
     ·rw[if_neg e]at ho;cases ho
    have hst:mkS c ls sm nv g.toNat gk (ov.getD k 0)=(gk.set (ov.getD k 0).toNat 0).set (ov.getD k 0).toNat (nv.getD (ov.getD k 0).toNat 0):=by unfold mkS;rw[if_pos he]
    repeat'((conv=>whnf);first|refine Exists.intro (none) ?_|(intro hq;(try simp only[vw]at hq);try first|exact absurd hq (by decide)|exfalso;omega)|apply aI|with_reducible exact vM rfl|exact⟨⟩|apply nM|apply fM)
    all_goals((try apply vM);(try simp only[vq]at*);try omega)
    all_goals(try first|omega|exact⟨by rw[tk];exact hpz,by omega,by rw[tk];exact ho⟩)
    refine⟨k+1,[],⟨by omega,by omega⟩,?_⟩
    rw[hnext,hst]
    repeat'((conv=>whnf);first|intro _|apply aI|with_reducible exact vM rfl|exact⟨⟩|apply nM|apply fM)
    all_goals((try apply vM);(try simp only[vq]at*);try omega)
   |some r=>
    have hr:sol c ls sm (gk.set (ov.getD k 0).toNat 0) g.toNat=r:=by
     unfold fO at ho;by_cases e:(sol c ls sm (gk.set (ov.getD k 0).toNat 0) g.toNat).2.2=21
     ·rw[if_pos e]at ho;cases ho
     ·rw[if_neg e]at ho;exact Option.some.inj ho
    have hs1:r.2.2≠0→mkS c ls sm nv g.toNat gk (ov.getD k 0)=(gk.set (ov.getD k 0).toNat 0).set (ov.getD k 0).toNat (nv.getD (ov.getD k 0).toNat 0):=fun e=>by unfold mkS;rw[hr,if_pos e]
    have hs0:¬r.2.2≠0→mkS c ls sm nv g.toNat gk (ov.getD k 0)=gk.set (ov.getD k 0).toNat 0:=fun e=>by unfold mkS;rw[hr,if_neg e]
    repeat'((conv=>whnf);first|refine Exists.intro (some r) ?_|(intro hq;(try simp only[vw]at hq);try first|exact absurd hq (by decide)|exfalso;omega)|apply aI|with_reducible exact vM rfl|exact⟨⟩|apply nM|apply fM)
    all_goals((try apply vM);(try simp only[vq]at*);try omega)
    all_goals(try first|omega|exact⟨by rw[tk];exact hpz,by omega,by rw[tk];exact ho⟩)
    ·refine⟨k+1,[],⟨by omega,by omega⟩,?_⟩
     rw[hnext,hs1 (by assumption)]
     repeat'((conv=>whnf);first|intro _|apply aI|with_reducible exact vM rfl|exact⟨⟩|apply nM|apply fM)
     all_goals((try apply vM);(try simp only[vq]at*);try omega)
    ·refine⟨k+1,[],⟨by omega,by omega⟩,?_⟩
     rw[hnext,hs0 (by assumption)]
     repeat'((conv=>whnf);first|intro _|apply aI|with_reducible exact vM rfl|exact⟨⟩|apply nM|apply fM)
     all_goals((try apply vM);(try simp only[vq]at*);try omega)
  have e:k=ov.length:=by omega
  subst e;rw[ail]at hgk⊢;rw[hgk];have s2:(CL.ints .i64 gk).sub 0 nv.length=.ints .i64 gk:=congrArg (CL.ints .i64) (bP hgl)
  repeat'((conv=>whnf);first|(intro hq;(try simp only[vw]at hq);try first|exact absurd hq (by decide)|exfalso;omega)|apply aI|with_reducible exact vM rfl|exact⟨⟩|apply nM|apply fM)
  all_goals((try apply vM);(try simp only[vq]at*);try omega)
  rw[s2];exact Sup.of rfl
end Go.Eng.YtcechbdgokjmgaaGreatDoor
namespace Go.Eng.YtcechbdgokjmgaaGreatDoor
open Go.Proofs Go.RowKit
set_option linter.unusedSimpArgs false
set_option linter.unusedVariables false
set_option maxHeartbeats 0
set_option maxRecDepth 100000
theorem LA {s w:ByteArray} {l:List Int} (h:cO s w=some l):l.length≤s.size:=by
 unfold cO at h;split at h
 ·obtain rfl:=Option.some.inj h
  unfold numsL;rw[aif,List.length_drop];have:=yO 32 s;omega
 ·cases h
structure Vr (r:Rd) (n:Nat):Prop where
 ln:r.line=n
 ll:r.L.length≤n
 rw:∀x∈r.L,x.length≤5000
 gl:r.gv.length≤5000
theorem aaQ {r:Rd} {n:Nat} {s:ByteArray} (h:Vr r n) (hs:s.size≤4096):Vr (nxt r s).2 (n+1):=by
 have h1:=h.ln;have h2:=h.ll;have h3:=h.rw;have h4:=h.gl;unfold nxt
 repeat' split
 all_goals refine⟨by simp only;omega,?_,?_,?_⟩
 all_goals simp only
 all_goals first|exact h3|exact h4|omega|(rw[ahx,agb,af7];omega)|(simp;done)|skip
 ·intro x hx
  rcases agu.1 hx with hx|hx
  ·exact h3 _ hx
  ·obtain rfl:=ai0.1 hx
   have:=LA ‹cO s EP=some _›;omega
 ·have:=LA ‹cO s vW=some _›
  omega
noncomputable def rdG:Rd→List ByteArray→Rd × Bool
 |r,[]=>(r,true)
 |r,x::t=>if(nxt r x).1=true then rdG (nxt r x).2 t else((nxt r x).2,false)
def rd0:Rd:=⟨0,[],0,[],0,false⟩
abbrev kNl:ByteArray:=⟨#[10]⟩
def wD (s:ByteArray):Int:=aL [if 4096<(s.size:Int)then 25 else 0,if Gw s kNl=false then 27 else 0]
noncomputable def iO (s:ByteArray):Rd × Bool:=rdG rd0 (dJ 10 (jI s kNl))
noncomputable def O5 (s:ByteArray):(Int × List (List Int) × Int × List Int) × Int × Int:=
 if wD s≠0 then((0,[],0,[]),0,wD s)
 else if(iO s).2=false then((0,[],0,[]),(iO s).1.line,24)
 else if(iO s).1.done=false then((0,[],0,[]),(iO s).1.line+1,24)
 else if pzE (iO s).1.c (iO s).1.L (iO s).1.sum (iO s).1.gv≠0 then((0,[],0,[]),0,pzE (iO s).1.c (iO s).1.L (iO s).1.sum (iO s).1.gv)
 else(((iO s).1.c,(iO s).1.L,(iO s).1.sum,(iO s).1.gv),0,0)
noncomputable def aew:CPT:=aA 22 (aB l9) (aA 88 (aB jE) (aA 89 (aB gX) (aA 112 (aB Uq) (aA 113 (aB Ae) (aA 114 (aB Us) (aA 115 (eG [] U3) noC))))))
theorem yU:aV Tryz.prog aew:=ak (au lC) (ak (au iX) (ak (au jZ) (ak (au ade) (ak (au Gv) (ak (au adf) (ak (dF [] adx) aC))))))
def adH (r:(Int × List (List Int) × Int × List Int) × Int × Int):PV:=.tup [pzT r.1,.int .i64 r.2.1,.int .i64 r.2.2]
theorem AB (a b:Int):Sup (bG [PV.agg [.int .i64 0,.nils,.int .i64 0,.nils],.int .i64 a,.int .i64 b]) (adH ((0,[],0,[]),a,b)):=by all_goals(refine Sup.via ?_;repeat'((conv=>whnf);first|intro _|apply aI|with_reducible exact vM rfl|exact⟨⟩|apply nM|apply fM);all_goals((try apply vM);(try simp only[vq]at*);try omega);all_goals(try(simp[CL.sub];done)))
theorem Sq (s:ByteArray) (hs:s.size≤1000000):aF Tryz.prog 44 [.str s] (adH (O5 s)):=by
 have hx:aL [if decide (4096<(s.size:Int))=true then 25 else 0,if(!Gw s ⟨#[10]⟩)=true then 27 else 0]=wD s:=by unfold wD;simp
 have htr:(jI s kNl).size≤s.size:=by
  have e3:(jI s kNl).size=(Go.Lib.trimSuffix s.data.toList kNl.data.toList).length:=by
   show(List.toArray _).size=_;rw[List.size_toArray]
  have e1:s.size=s.data.toList.length:=by rw[agS];rfl
  rw[e3,e1];unfold Go.Lib.trimSuffix;split
  ·rw[ag6];omega
  ·omega
 unfold O5;by_cases he:wD s=0
 case neg=>
  rw[if_pos he];have he2:=he;unfold wD at he2;refine bR (md:=1) (rf:=[]) mixed aj yU Tryz.func44 (by rfl) (by rfl) (by rfl) ?_
  repeat'((conv=>whnf);first|refine Exists.intro (10) ?_|(intro hq;(try simp only[vw]at hq);try first|exact absurd hq (by decide)|exfalso;omega)|apply aI|with_reducible exact vM rfl|exact⟨⟩|apply nM|apply fM)
  all_goals try refine VC.mk ?_
  all_goals first|omega|(exfalso;exact hq he2)|(exfalso;exact ‹¬aL [_,_]≠0› he2)|(rw[←hx];exact AB _ _)|(simp;done)|skip
 rw[if_neg (by rw[he];simp)]
 have he2:=he;unfold wD at he2;have h4:s.size≤4096:=by
  by_cases e:4096<(s.size:Int)
  ·rw[if_pos e]at he2;cases h:Gw s kNl<;>simp[aL,h]at he2
  ·omega
 refine bR (md:=1) (rf:=[]) mixed aj yU Tryz.func44 (by rfl) (by rfl) (by rfl) ?_
 repeat'((conv=>whnf);first|refine Exists.intro (10) ?_|(intro hq;(try simp only[vw]at hq);try first|exact absurd hq (by decide)|exfalso;omega)|apply aI|with_reducible exact vM rfl|exact⟨⟩|apply nM|apply fM)
 all_goals try refine VC.mk ?_
 all_goals(try first|omega|(exfalso;exact hq he2)|(simp;done)|(refine And.intro rfl ?_;show(jI s kNl).size<_;omega))
 conv=>whnf
 have hG:iO s=rdG rd0 (dJ 10 (jI s kNl)):=rfl;have hln:=yO 10 (jI s kNl);have hsz:∀j,j<(dJ 10 (jI s kNl)).length→((dJ 10 (jI s kNl)).getD j .empty).size≤4096:=fun j hj=>by
  have:=Dp (vV hj);omega
 generalize dJ 10 (jI s kNl)=W at hG hln hsz⊢
 refine aJ (X:=Nat × Rd) (fun x=>x.1≤W.length∧Vr x.2 x.1∧iO s=rdG x.2 (W.drop x.1)) (fun x=>[(28,.int .i64 x.1)]) (fun x=>[(18,.cells (.pv [.int .i64 x.2.c,.isl (.rows .i64 x.2.L) (.own 22),.int .i64 x.2.sum,.isl (.ints .i64 x.2.gv) .none,.int .i64 x.2.line,.bp x.2.done]) false),(22,.tok 1 x.2.L.length)]) (fun x=>W.length-x.1) (0,rd0) ⟨aG,mixed,aj,yU,aM⟩ (by rfl) ⟨by omega,⟨rfl,agh 0,fun x hx=>absurd hx (by simp[rd0]),by simp[rd0]⟩,hG⟩ ?_ ?_
 ·repeat'((conv=>whnf);first|intro _|apply aI|with_reducible exact vM rfl|exact⟨⟩|apply nM|apply fM)
  all_goals((try apply vM);(try simp only[vq]at*);try omega)
  all_goals skip
 rintro⟨i,r⟩ ⟨hi,hr,hT⟩
 simp only at hi hr hT;by_cases hlt:i<W.length
 ·have hsi:=hsz i hlt
  have hd:W.drop i=W.getD i .empty::W.drop (i+1):=by rw[agt,agy hlt];simp
  have hr1:=hr.ln;have hr2:=hr.ll;have hok:=aaQ hr hsi;rw[hd]at hT;unfold rdG at hT
  repeat'((conv=>whnf);first|refine Exists.intro (10) ?_|(intro hq;(try simp only[vw]at hq);try first|exact absurd hq (by decide)|exfalso;omega)|apply aI|with_reducible exact vM rfl|exact⟨⟩|apply nM|apply fM)
  all_goals((try apply vM);(try simp only[vq]at*);try omega)
  ·have hq:(nxt r (W.getD i .empty)).1=false:=hq
   rw[if_neg (by rw[hq];simp)]at hT
   rw[hT];exact AB _ _
  have hq:(nxt r (W.getD i .empty)).1=true:=hq;rw[if_pos hq]at hT;refine⟨(i+1,(nxt r (W.getD i .empty)).2),[],⟨⟨by simp only;omega,hok,hT⟩,by simp only;omega⟩,?_⟩
  repeat'((conv=>whnf);first|refine Exists.intro (10) ?_|(intro hq;(try simp only[vw]at hq);try first|exact absurd hq (by decide)|exfalso;omega)|apply aI|with_reducible exact vM rfl|exact⟨⟩|apply nM|apply fM)
  all_goals((try apply vM);(try simp only[vq]at*);try omega)
  all_goals skip
 have e:i=W.length:=by omega
 subst e;have hT2:iO s=(r,true):=by rw[hT,List.drop_length];rfl
 have hr1:=hr.ln;have hr2:=hr.ll;have hLN:bH r.L:=⟨by omega,hr.rw⟩
 have hgl:=hr.gl;rw[hT2]
 repeat'((conv=>whnf);first|refine Exists.intro (10) ?_|(intro hq;(try simp only[vw]at hq);try first|exact absurd hq (by decide)|exfalso;omega)|apply aI|with_reducible exact vM rfl|exact⟨⟩|apply nM|apply fM)
 all_goals((try apply vM);(try simp only[vq]at*);try omega)
 all_goals(try omega)
 ·rw[if_neg (by simp),if_pos hq]
  exact AB _ _
 ·exact⟨hLN,hgl⟩
 ·rename_i hd
  rw[if_neg (by simp),if_neg (by simp only[hd];simp),if_pos hq]
  exact AB _ _
 ·rename_i hd
  rw[if_neg (by simp),if_neg (by simp only[hd];simp),if_neg hq]
  exact Sup.of rfl
end Go.Eng.YtcechbdgokjmgaaGreatDoor
namespace Go.Eng.YtcechbdgokjmgaaGreatDoor
open Go.Proofs
set_option linter.unusedSimpArgs false
set_option linter.unusedVariables false
set_option maxHeartbeats 0
set_option maxRecDepth 100000
abbrev mE:ByteArray:=⟨#[99,101,108,108]⟩
abbrev sIs:ByteArray:=⟨#[105,115]⟩
abbrev Ie:ByteArray:=⟨#[110,111,116]⟩
abbrev sBy:ByteArray:=⟨#[98,121]⟩
abbrev Cc:ByteArray:=⟨#[111,110,32,108,105,110,101]⟩
def exW (g:Int) (r:ByteArray) (y x k:Int):List ByteArray:=
 [mE,itB y,sIs]++(if g≤3 then []else [Ie])++[itB x,sBy,r]++(if 0≤k then [Cc,itB k]else [])
def O6 (c:Int) (ls:List (List Int)) (sum:Int) (gv:List Int) (r:ByteArray) (y x k:Int):ByteArray × Int:=
 if pzE c ls sum gv≠0 then(ug,pzE c ls sum gv)else if dz c ls r y x k≠0 then(ug,dz c ls r y x k)else(joB (exW (aQ r) r y x k) kBl,0)
noncomputable def afL:CPT:=aA 22 (aB l9) (aA 101 (aB pz) (aA 107 (aB Ab) (aA 126 (aB U5) (aA 129 (aB EH) (aA 130 (aB qp) noC)))))
theorem gT:aV Tryz.prog afL:=ak (au lC) (ak (au qP) (ak (au Gt) (ak (au ady) (ak (au KG) (ak (au qw) aC)))))
theorem wE {g:Int} {r:ByteArray} {y x k:Int} (hy:ow y) (hx:ow x) (hk:ow k) (hr:r.size≤6):Uj (exW g r y x k) 1000000:=by
 have h1:=pY hy;have h2:=pY hx;have h3:=pY hk;refine⟨?_,fun w hw=>?_⟩
 ·unfold exW;split<;>split<;>simp
 ·unfold exW at hw
  simp only[agu,ahG,List.not_mem_nil,or_false]at hw;rcases hw with((((rfl|rfl|rfl)|hw)|(rfl|rfl|rfl))|hw)
  ·decide
  ·omega
  ·decide
  ·split at hw
   ·simp at hw
   ·simp at hw;subst hw;decide
  ·omega
  ·decide
  ·omega
  ·split at hw
   ·simp at hw
    rcases hw with rfl|rfl
    ·decide
    ·omega
   ·simp at hw
theorem Ig (c:Int) (ls:List (List Int)) (sum:Int) (gv:List Int) (h:bH ls) (hg:gv.length≤5000) (r:ByteArray) (y x k:Int):
 aF Tryz.prog 63 [pzV c ls sum gv,ddV r y x k] (.tup [.str (O6 c ls sum gv r y x k).1,.int .i64 (O6 c ls sum gv r y x k).2]):=by
 unfold O6;by_cases he:pzE c ls sum gv=0
 case neg=>
  rw[if_pos he];refine av (md:=1) (rf:=[]) mixed aj gT Tryz.func63 (by rfl) (by rfl) (by rfl) ?_
  repeat'((conv=>whnf);first|(intro hq;(try simp only[vw]at hq);try first|exact absurd hq (by decide)|exfalso;omega)|apply aI|with_reducible exact vM rfl|exact⟨⟩|apply nM|apply fM)
  all_goals((try apply vM);(try simp only[vq]at*);try omega)
  all_goals first|exact⟨h,hg⟩|exact h|exact Sup.of rfl|(exfalso;exact he (by assumption))|(exfalso;contradiction)|skip
 rw[if_neg (by rw[he];simp)]
 by_cases hd:dz c ls r y x k=0
 case neg=>
  rw[if_pos hd];refine av (md:=1) (rf:=[]) mixed aj gT Tryz.func63 (by rfl) (by rfl) (by rfl) ?_
  repeat'((conv=>whnf);first|(intro hq;(try simp only[vw]at hq);try first|exact absurd hq (by decide)|exfalso;omega)|apply aI|with_reducible exact vM rfl|exact⟨⟩|apply nM|apply fM)
  all_goals((try apply vM);(try simp only[vq]at*);try omega)
  all_goals first|exact⟨h,hg⟩|exact h|exact Sup.of rfl|(exfalso;exact hd (by assumption))|(exfalso;contradiction)|skip
 rw[if_neg (by rw[hd];simp)]
 have hp:=cZ.of he;have hc:=hp.c1;have hll:=hp.ll;have ho:=lD.of hd;have hy:=ho.y;have hx:=ho.x;have hte:=Aa;have hk:k= -1∨(0≤k∧k<128):=by
  unfold dz at hd;by_cases h1:aQ r=0
  ·rw[if_pos h1]at hd;cases hd
  rw[if_neg h1]at hd;by_cases h2:y<0∨c≤y
  ·rw[if_pos h2]at hd;cases hd
  rw[if_neg h2]at hd;by_cases h3:x<1∨c<x
  ·rw[if_pos h3]at hd;cases hd
  rw[if_neg h3]at hd;by_cases h4:aQ r=2∨aQ r=3
  ·rw[if_pos h4]at hd
   by_cases h5:k= -1
   ·exact .inl h5
   ·rw[if_pos h5]at hd;cases hd
  ·rw[if_neg h4]at hd
   by_cases h5:k<0∨ls.length≤k∨y∉ls.getD k.toNat []
   ·rw[if_pos h5]at hd;cases hd
   ·have h6:¬k<0:=fun e=>h5 (.inl e)
    have h7:¬(ls.length:Int)≤k:=fun e=>h5 (.inr (.inl e));omega
 have b1:ow y:=⟨by omega,by omega⟩
 have b2:ow x:=⟨by omega,by omega⟩
 have b3:ow k:=⟨by omega,by omega⟩
 obtain⟨rfl,hg'⟩|⟨rfl,hg'⟩|⟨rfl,hg'⟩|⟨rfl,hg'⟩|⟨rfl,hg'⟩|hg':=nA r
 ·rw[hg']
  have hw:=wE (g:=1) (r:=bM) (k:=k) b1 b2 b3 (by decide)
  rcases hk with hk0|hk0
  ·have e:exW 1 bM y x k=([mE,itB y,sIs]++[itB x,sBy,bM]):=by unfold exW;rw[if_pos (show(1:Int)≤3 by decide),if_neg (show¬(0:Int)≤k by omega),aib];(try rfl)
   rw[e]at hw⊢;refine av (md:=1) (rf:=[]) mixed aj gT Tryz.func63 (by rfl) (by rfl) (by rfl) ?_
   repeat'((conv=>whnf);first|refine Exists.intro (1) ?_|(intro hq;(try simp only[vw]at hq);try first|exact absurd hq (by decide)|exfalso;omega)|apply aI|with_reducible exact vM rfl|exact⟨⟩|apply nM|apply fM)
   all_goals((try apply vM);(try simp only[vq]at*);try omega)
   all_goals first|exact⟨h,hg⟩|exact h|exact hg'|exact hd|exact he|exact b1|exact b2|exact b3|(rw[hte];decide)|exact hw|(simp;done)|(exfalso;contradiction)|(exfalso;omega)|exact Sup.of rfl|skip
  ·have e:exW 1 bM y x k=([mE,itB y,sIs]++[itB x,sBy,bM])++[Cc,itB k]:=by unfold exW;rw[if_pos (show(1:Int)≤3 by decide),if_pos (show(0:Int)≤k by omega)];(try rfl)
   rw[e]at hw⊢;refine av (md:=1) (rf:=[]) mixed aj gT Tryz.func63 (by rfl) (by rfl) (by rfl) ?_
   repeat'((conv=>whnf);first|refine Exists.intro (1) ?_|(intro hq;(try simp only[vw]at hq);try first|exact absurd hq (by decide)|exfalso;omega)|apply aI|with_reducible exact vM rfl|exact⟨⟩|apply nM|apply fM)
   all_goals((try apply vM);(try simp only[vq]at*);try omega)
   all_goals first|exact⟨h,hg⟩|exact h|exact hg'|exact hd|exact he|exact b1|exact b2|exact b3|(rw[hte];decide)|exact hw|(simp;done)|(exfalso;contradiction)|(exfalso;omega)|exact Sup.of rfl|skip
 ·rw[hg']
  have hw:=wE (g:=2) (r:=bV) (k:=k) b1 b2 b3 (by decide)
  rcases hk with hk0|hk0
  ·have e:exW 2 bV y x k=([mE,itB y,sIs]++[itB x,sBy,bV]):=by unfold exW;rw[if_pos (show(2:Int)≤3 by decide),if_neg (show¬(0:Int)≤k by omega),aib];(try rfl)
   rw[e]at hw⊢;refine av (md:=1) (rf:=[]) mixed aj gT Tryz.func63 (by rfl) (by rfl) (by rfl) ?_
   repeat'((conv=>whnf);first|refine Exists.intro (2) ?_|(intro hq;(try simp only[vw]at hq);try first|exact absurd hq (by decide)|exfalso;omega)|apply aI|with_reducible exact vM rfl|exact⟨⟩|apply nM|apply fM)
   all_goals((try apply vM);(try simp only[vq]at*);try omega)
   all_goals first|exact⟨h,hg⟩|exact h|exact hg'|exact hd|exact he|exact b1|exact b2|exact b3|(rw[hte];decide)|exact hw|(simp;done)|(exfalso;contradiction)|(exfalso;omega)|exact Sup.of rfl|skip
  ·have e:exW 2 bV y x k=([mE,itB y,sIs]++[itB x,sBy,bV])++[Cc,itB k]:=by unfold exW;rw[if_pos (show(2:Int)≤3 by decide),if_pos (show(0:Int)≤k by omega)];(try rfl)
   rw[e]at hw⊢;refine av (md:=1) (rf:=[]) mixed aj gT Tryz.func63 (by rfl) (by rfl) (by rfl) ?_
   repeat'((conv=>whnf);first|refine Exists.intro (2) ?_|(intro hq;(try simp only[vw]at hq);try first|exact absurd hq (by decide)|exfalso;omega)|apply aI|with_reducible exact vM rfl|exact⟨⟩|apply nM|apply fM)
   all_goals((try apply vM);(try simp only[vq]at*);try omega)
   all_goals first|exact⟨h,hg⟩|exact h|exact hg'|exact hd|exact he|exact b1|exact b2|exact b3|(rw[hte];decide)|exact hw|(simp;done)|(exfalso;contradiction)|(exfalso;omega)|exact Sup.of rfl|skip
 ·rw[hg']
  have hw:=wE (g:=3) (r:=bW) (k:=k) b1 b2 b3 (by decide)
  rcases hk with hk0|hk0
  ·have e:exW 3 bW y x k=([mE,itB y,sIs]++[itB x,sBy,bW]):=by unfold exW;rw[if_pos (show(3:Int)≤3 by decide),if_neg (show¬(0:Int)≤k by omega),aib];(try rfl)
   rw[e]at hw⊢;refine av (md:=1) (rf:=[]) mixed aj gT Tryz.func63 (by rfl) (by rfl) (by rfl) ?_
   repeat'((conv=>whnf);first|refine Exists.intro (3) ?_|(intro hq;(try simp only[vw]at hq);try first|exact absurd hq (by decide)|exfalso;omega)|apply aI|with_reducible exact vM rfl|exact⟨⟩|apply nM|apply fM)
   all_goals((try apply vM);(try simp only[vq]at*);try omega)
   all_goals first|exact⟨h,hg⟩|exact h|exact hg'|exact hd|exact he|exact b1|exact b2|exact b3|(rw[hte];decide)|exact hw|(simp;done)|(exfalso;contradiction)|(exfalso;omega)|exact Sup.of rfl|skip
  ·have e:exW 3 bW y x k=([mE,itB y,sIs]++[itB x,sBy,bW])++[Cc,itB k]:=by unfold exW;rw[if_pos (show(3:Int)≤3 by decide),if_pos (show(0:Int)≤k by omega)];(try rfl)
   rw[e]at hw⊢;refine av (md:=1) (rf:=[]) mixed aj gT Tryz.func63 (by rfl) (by rfl) (by rfl) ?_
   repeat'((conv=>whnf);first|refine Exists.intro (3) ?_|(intro hq;(try simp only[vw]at hq);try first|exact absurd hq (by decide)|exfalso;omega)|apply aI|with_reducible exact vM rfl|exact⟨⟩|apply nM|apply fM)
   all_goals((try apply vM);(try simp only[vq]at*);try omega)
   all_goals first|exact⟨h,hg⟩|exact h|exact hg'|exact hd|exact he|exact b1|exact b2|exact b3|(rw[hte];decide)|exact hw|(simp;done)|(exfalso;contradiction)|(exfalso;omega)|exact Sup.of rfl|skip
 ·rw[hg']
  have hw:=wE (g:=4) (r:=bT) (k:=k) b1 b2 b3 (by decide)
  rcases hk with hk0|hk0
  ·have e:exW 4 bT y x k=([mE,itB y,sIs]++[Ie]++[itB x,sBy,bT]):=by unfold exW;rw[if_neg (show¬(4:Int)≤3 by decide),if_neg (show¬(0:Int)≤k by omega),aib];(try rfl)
   rw[e]at hw⊢;refine av (md:=1) (rf:=[]) mixed aj gT Tryz.func63 (by rfl) (by rfl) (by rfl) ?_
   repeat'((conv=>whnf);first|refine Exists.intro (4) ?_|(intro hq;(try simp only[vw]at hq);try first|exact absurd hq (by decide)|exfalso;omega)|apply aI|with_reducible exact vM rfl|exact⟨⟩|apply nM|apply fM)
   all_goals((try apply vM);(try simp only[vq]at*);try omega)
   all_goals first|exact⟨h,hg⟩|exact h|exact hg'|exact hd|exact he|exact b1|exact b2|exact b3|(rw[hte];decide)|exact hw|(simp;done)|(exfalso;contradiction)|(exfalso;omega)|exact Sup.of rfl|skip
  ·have e:exW 4 bT y x k=([mE,itB y,sIs]++[Ie]++[itB x,sBy,bT])++[Cc,itB k]:=by unfold exW;rw[if_neg (show¬(4:Int)≤3 by decide),if_pos (show(0:Int)≤k by omega)];(try rfl)
   rw[e]at hw⊢;refine av (md:=1) (rf:=[]) mixed aj gT Tryz.func63 (by rfl) (by rfl) (by rfl) ?_
   repeat'((conv=>whnf);first|refine Exists.intro (4) ?_|(intro hq;(try simp only[vw]at hq);try first|exact absurd hq (by decide)|exfalso;omega)|apply aI|with_reducible exact vM rfl|exact⟨⟩|apply nM|apply fM)
   all_goals((try apply vM);(try simp only[vq]at*);try omega)
   all_goals first|exact⟨h,hg⟩|exact h|exact hg'|exact hd|exact he|exact b1|exact b2|exact b3|(rw[hte];decide)|exact hw|(simp;done)|(exfalso;contradiction)|(exfalso;omega)|exact Sup.of rfl|skip
 ·rw[hg']
  have hw:=wE (g:=5) (r:=bU) (k:=k) b1 b2 b3 (by decide)
  rcases hk with hk0|hk0
  ·have e:exW 5 bU y x k=([mE,itB y,sIs]++[Ie]++[itB x,sBy,bU]):=by unfold exW;rw[if_neg (show¬(5:Int)≤3 by decide),if_neg (show¬(0:Int)≤k by omega),aib];(try rfl)
   rw[e]at hw⊢;refine av (md:=1) (rf:=[]) mixed aj gT Tryz.func63 (by rfl) (by rfl) (by rfl) ?_
   repeat'((conv=>whnf);first|refine Exists.intro (5) ?_|(intro hq;(try simp only[vw]at hq);try first|exact absurd hq (by decide)|exfalso;omega)|apply aI|with_reducible exact vM rfl|exact⟨⟩|apply nM|apply fM)
   all_goals((try apply vM);(try simp only[vq]at*);try omega)
   all_goals first|exact⟨h,hg⟩|exact h|exact hg'|exact hd|exact he|exact b1|exact b2|exact b3|(rw[hte];decide)|exact hw|(simp;done)|(exfalso;contradiction)|(exfalso;omega)|exact Sup.of rfl|skip
  ·have e:exW 5 bU y x k=([mE,itB y,sIs]++[Ie]++[itB x,sBy,bU])++[Cc,itB k]:=by unfold exW;rw[if_neg (show¬(5:Int)≤3 by decide),if_pos (show(0:Int)≤k by omega)];(try rfl)
   rw[e]at hw⊢;refine av (md:=1) (rf:=[]) mixed aj gT Tryz.func63 (by rfl) (by rfl) (by rfl) ?_
   repeat'((conv=>whnf);first|refine Exists.intro (5) ?_|(intro hq;(try simp only[vw]at hq);try first|exact absurd hq (by decide)|exfalso;omega)|apply aI|with_reducible exact vM rfl|exact⟨⟩|apply nM|apply fM)
   all_goals((try apply vM);(try simp only[vq]at*);try omega)
   all_goals first|exact⟨h,hg⟩|exact h|exact hg'|exact hd|exact he|exact b1|exact b2|exact b3|(rw[hte];decide)|exact hw|(simp;done)|(exfalso;contradiction)|(exfalso;omega)|exact Sup.of rfl|skip
 have:=ho.g;omega
end Go.Eng.YtcechbdgokjmgaaGreatDoor
namespace Go.Eng
open Go.Proofs Go.Shelf Go.RowKit
set_option linter.unusedSimpArgs false
set_option linter.unusedVariables false
theorem xD {P:Program} {w:World} {ops:Array Oper} {rest:List Oper} {o:Oper} {a:Act} {Q:Exit→Act→World→Prop} (hgd:o.guard=none) (sl x:Operand) (t u:TypeId)
 (ho:o.op=.call {callee:=.builtin .append,args:= #[sl,x],argTypes:= #[t,u]})
 (e:TypeId) (i:TypeInfo) (ht:P.underlying t=some (.slice e)) (hu:P.underlying u=some .string) (hi:P.info? e=some i) (hz:i.zero=some (.int .u8 0)) (hsize:i.size=1) (hby:i.bytes=1)
 (v:Value) (n:Nat) (xs:List Value) (hs:a.eval sl=v) (hown:w.ownsRowF 0 e 1 v n xs) (s:ByteArray) (hx:a.eval x=.string s) (h63:n+s.size≤maxLen) (hbytes:n+s.size≤140737488355328)
 (h:∀v' w',w'.ownsRowF 0 e 1 v' (n+s.size) (xs++Lib.strCells s)→w.grownBy w' v.ownBlock→(∀b,b<w.heap.size→bsz w' b=bsz w b)→(∀g,v'.ownBlock=some g→v.ownBlock=some g∨w.heap.size≤g)→wpList P ops Q rest (a.put o.dst v') w'):
 wpList P ops Q (o::rest) a w:=by
 refine wpList_plain hgd fun K hK=>?_;obtain⟨v',w',hr,h2,h3,h4,h5⟩:=Nz (P:=P) w t u o.type e i ht hu hi hz hsize hby v n xs hown s h63 hbytes;unfold Oper.wp execOp;simp only[ho,resolve,invoke,builtin,Sem.run_bind,Sem.run_pure,Result.andThen_ok,List.map_toArray,aie,ajy,hs,hx,hr];exact hK _ _ (h v' w' h2 h3 h4 h5)
theorem xR (w:World) (a:Addr) (x:Value) (b:Nat):bsz (w.setCell a x) b=bsz w b:=by
 unfold bsz World.setCell;rw[agn];by_cases e:a.block=b
 ·rw[if_pos e]
  cases w.heap[b]? with
  |none=>rfl
  |some o=>
   cases o with
   |cells c t f=>simp only[Option.map_some];split<;>simp
   |_=>rfl
 ·rw[if_neg e]
theorem Ih (a b:ByteArray):Lib.strCells a++Lib.strCells b=Lib.strCells (a++b):=by
 unfold Lib.strCells;rw[←aik];congr 1
theorem Sr {P:Program} {ρ:Ren} (L:Lays.n240 P ρ) (X:Builder.X72 P ρ) (b:Nat) (p v:Value) (w:World) (hbk:w.heap[b]? =some (.cells #[p,v] (ρ.t 72) (0,0))) (hp:p=.pointer none∨p=.pointer (some ⟨b,0,none⟩)):
 Calls P (ρ.f 240) #[.pointer (some ⟨b,0,none⟩)] w fun e w'=>e=.returned (.tuple #[])∧w'.heap[b]? =some (.cells #[.pointer (some ⟨b,0,none⟩),v] (ρ.t 72) (0,0))∧w'.os=w.os∧w'.tape=w.tape∧w'.output=w.output∧w'.heap.size=w.heap.size∧
  (∀b',b'≠b→w'.heap[b']? =w.heap[b']?)∧∀b',bsz w' b'=bsz w b':=by
 rcases hp with rfl|rfl
 ·refine(Any.Builder_copyCheck_fresh L X b w (by rw[Lib.cell_of_heap hbk];rfl) (by simp[World.shape?,hbk]) (Lib.frozen_of_heap hbk 0)).mono ?_
  rintro e w' ⟨rfl,rfl⟩
  exact⟨rfl,by simp[World.setCell,agn,hbk],rfl,rfl,rfl,by simp[World.setCell],fun b' hb'=>Below.heap_setCell _ _ _ _ hb',fun b'=>xR _ _ _ _⟩
 ·refine(Any.Builder_copyCheck_used L X b w (by rw[Lib.cell_of_heap hbk];rfl)).mono ?_
  rintro e w' ⟨rfl,rfl⟩
  exact⟨rfl,hbk,rfl,rfl,rfl,rfl,fun _ _=>rfl,fun _=>rfl⟩
set_option maxHeartbeats 4000000 in
set_option maxRecDepth 100000 in
theorem Sv {P:Program} {ρ:Ren} (L:Lays.n166 P ρ) (X:Builder.Extra P ρ) (b:Nat) (p v:Value) (bs s:ByteArray) (w:World) (hbk:w.heap[b]? =some (.cells #[p,v] (ρ.t 72) (0,0))) (hp:p=.pointer none∨p=.pointer (some ⟨b,0,none⟩))
 (hne:v.ownBlock≠some b) (hown:w.ownsRowF 0 (ρ.t 5) 1 v bs.size (Lib.strCells bs)) (hlen:bs.size+s.size≤140737488355328):
 Calls P (ρ.f 166) #[.pointer (some ⟨b,0,none⟩),.string s] w fun ex w'=>∃val v',ex=.returned val∧vJ (ρ.t 72) (ρ.t 5) b v w w' (bs++s) v'∧val=.tuple #[.int .i64 s.size,.nilIface]:=by
 obtain⟨i0,hi,hz0,hz1,hz2⟩:=info_parts X.infoByte;have mixed:=L.mixed;have t72:=L.t72;have a72:=L.a72;have z72:=L.z72;have v72:=L.v72;have u72:=run_underlying L.t72;have t70:=L.t70;have a70:=L.a70;have z70:=L.z70;have v70:=L.v70;have u70:=run_underlying L.t70;have t37:=L.t37;have a37:=L.a37;have z37:=L.z37;have v37:=L.v37;have u37:=run_underlying L.t37;have t3:=L.t3;have a3:=L.a3;have z3:=L.z3;have v3:=L.v3;have u3:=run_underlying L.t3;have t9:=L.t9;have a9:=L.a9;have z9:=L.z9;have v9:=L.v9;have u9:=run_underlying L.t9;have t4:=L.t4;have a4:=L.a4;have z4:=L.z4;have v4:=L.v4;have u4:=run_underlying L.t4;have t164:=L.t164;have a164:=L.a164;have z164:=L.z164;have v164:=L.v164;have u164:=run_underlying L.t164;have t5:=X.t5;have a5:=X.a5;have z5:=X.z5;have v5:=X.v5;have u5:=run_underlying X.t5;have e240:∀args w,(callFunc (ρ.f 240) args).run P w=.ok (.enter (ρ.f 240) args) w:=enters_of L.f240 (by kernel_rfl) rfl
 go_enter L.f166,Body.n166_ntmps ρ
 go_wp2_with (go_at_fn (ρ.f 240);refine(Sr {L with} X.toX72 b p v _ hbk hp).mono ?_)
 rintro e w1 ⟨rfl,hb1,o1,tp1,ou1,sz1,oth1,bz1⟩
 have hown1:w1.ownsRowF 0 (ρ.t 5) 1 v bs.size (Lib.strCells bs):=mQ hown fun g hg=>oth1 g (fun e=>hne (by rw[hg,e]))
 have c0:w1.cell? ⟨b,0,none⟩=some (.pointer (some ⟨b,0,none⟩)):=by rw[Lib.cell_of_heap hb1];rfl
 have c1:w1.cell? ⟨b,1,none⟩=some v:=by rw[Lib.cell_of_heap hb1];rfl
 go_wp2_with (at_builtin;refine xD rfl _ _ (ρ.t 37) (ρ.t 9) rfl (ρ.t 5) i0 L.t37 L.t9 hi hz0 hz1 hz2 _ _ _ rfl hown1 s rfl ?c3 ?c4 ?_)
 case c3=>unfold maxLen;omega
 case c4=>omega
 intro v' w2 hown' hgrow hbz hnew;have hlt:b<w1.heap.size:=lt_of_heap hb1;have hb2:w2.heap[b]? =some (.cells #[.pointer (some ⟨b,0,none⟩),v] (ρ.t 72) (0,0)):=by
  rw[hgrow.block b hlt (fun e=>hne e.symm)];exact hb1
 have d0:w2.cell? ⟨b,0,none⟩=some (.pointer (some ⟨b,0,none⟩)):=by rw[Lib.cell_of_heap hb2];rfl
 have d1:w2.cell? ⟨b,1,none⟩=some v:=by rw[Lib.cell_of_heap hb2];rfl
 have f1:w2.frozen? ⟨b,1,none⟩=false:=Lib.frozen_of_heap hb2 1;have hvb:v'.ownBlock≠some b:=fun e=>by
  rcases hnew b e with h|h
  ·exact hne h
  ·omega
 obtain⟨ao,n',cap,rfl⟩:∃ao n' cap,v'=.slice ao n' cap:=by
  rcases hown'.2 with⟨hv,_⟩|⟨g,cap,cur,fz,hv,_⟩
  ·exact⟨_,_,_,hv⟩
  ·exact⟨_,_,_,hv⟩
 go_wp2
 go_ret2
 refine⟨_,.slice ao n' cap,rfl,⟨⟨_,?_,.inr rfl⟩,hvb,?_,?_,?_,?_,?_,?_,?_,?_⟩,rfl⟩
 ·simp[World.setCell,agn,hb2]
 ·rw[←Ih,ByteArray.size_append]
  exact mQ hown' fun g hg=>Below.heap_setCell _ _ _ _ (fun e=>hvb (by rw[hg,e]))
 ·intro g hg
  rcases hnew g hg with h|h
  ·exact .inl h
  ·exact .inr (by omega)
 ·exact hgrow.os.trans o1
 ·exact hgrow.tape.trans tp1
 ·exact hgrow.output.trans ou1
 ·have:=hgrow.size;simp[World.setCell];omega
 ·intro b' h1 h2 h3
  rw[Below.heap_setCell _ _ _ _ h2,hgrow.block b' (by omega) (fun e=>h3 e.symm)]
  exact oth1 b' h2
 ·intro b' h1
  rw[xR,hbz b' (by omega)]
set_option maxHeartbeats 4000000 in
set_option maxRecDepth 100000 in
theorem O7 {P:Program} {ρ:Ren} (L:Lays.n169 P ρ) (X:Builder.Extra P ρ) (b:Nat) (p v:Value) (s:ByteArray) (w:World) (hbk:w.heap[b]? =some (.cells #[p,v] (ρ.t 72) (0,0))) (hp:p=.pointer none∨p=.pointer (some ⟨b,0,none⟩))
 (hne:v.ownBlock≠some b) (hown:w.ownsRowF 0 (ρ.t 5) 1 v s.size (Lib.strCells s)) (h0:0<s.size):
 Calls P (ρ.f 169) #[.pointer (some ⟨b,0,none⟩)] w fun ex w'=>∃val v',ex=.returned val∧vJ (ρ.t 72) (ρ.t 5) b v w w' s v'∧val=.string s:=by
 obtain⟨g,cap,cur,fz,rfl,hbg,hg,hfz,hnc,hcm,hcs,htake⟩:∃g cap cur fz,v=.slice (some ⟨g,0,none⟩) s.size cap∧0≤g∧w.heap[g]? =some (.cells cur (ρ.t 5) fz)∧fz.2≤s.size*1∧s.size≤cap∧cap≤maxLen∧cur.size=cap*1∧cur.toList.take (s.size*1)=Lib.strCells s:=by
  rcases hown.2 with⟨_,hz⟩|⟨g,cap,cur,fz,hv,r⟩
  ·omega
  ·exact⟨g,cap,cur,fz,hv,r⟩
 have hgb:g≠b:=fun e=>hne (by simp[Value.ownBlock,e])
 have hls:s.data.toList.length=s.size:=by rw[agS];rfl
 have c1:w.drew.cell? ⟨b,1,none⟩=some (.slice (some ⟨g,0,none⟩) s.size cap):=by
  have:w.drew.heap[b]? =some (.cells #[p,.slice (some ⟨g,0,none⟩) s.size cap] (ρ.t 72) (0,0)):=hbk;rw[Lib.cell_of_heap this];rfl
 have hSD:(Builtin.unsafeSliceData_ #[(ρ.t 37)] (ρ.t 127) #[.slice (some ⟨g,0,none⟩) s.size cap]).run P w.drew=.ok (.pointer (some ⟨g,0,none⟩)) w.drew:=
  Lib.run_unsafeSliceData_row _ _ _ _ _ _ (by omega)
 have hUS:(Builtin.unsafeString_ #[(ρ.t 127),(ρ.t 3)] (ρ.t 9) #[.pointer (some ⟨g,0,none⟩),.int .i64 s.size]).run P w.drew=.ok (.string s) (w.drew.freeze ⟨g,0,none⟩ s.size):=by
  have:=Lib.run_unsafeString_row (P:=P) w.drew (ρ.t 127) (ρ.t 3) (ρ.t 9) (ρ.t 5) L.t127 X.cellsByte g cur.size (by have hg':w.drew.heap[g]? =some (.cells cur (ρ.t 5) fz):=hg;simp[World.shape?,hg']) s.data.toList (by intro e;rw[e]at hls;exact absurd hls (by rw[af7];omega)) (by omega) (by unfold maxLen at hcm;omega) (by
   intro j x hx;exact hown.cells (g:=g) rfl j (.int .u8 x.toNat) (by simp[Lib.strCells,hx]))
  rw[hls]at this;exact this
 have hfin:vJ (ρ.t 72) (ρ.t 5) b (.slice (some ⟨g,0,none⟩) s.size cap) w (w.drew.freeze ⟨g,0,none⟩ s.size) s (.slice (some ⟨g,0,none⟩) s.size cap):=by
  have hgn:(w.drew.freeze ⟨g,0,none⟩ s.size).heap[g]? =some (.cells cur (ρ.t 5) (if fz.1==fz.2 then(0,0+s.size)else(min fz.1 0,max fz.2 (0+s.size)))):=by
   unfold World.freeze;rw[if_neg (by omega)]
   have hg':w.drew.heap[g]? =some (.cells cur (ρ.t 5) fz):=hg;simp[agn,hg']
  have hoth:∀b',b'≠g→(w.drew.freeze ⟨g,0,none⟩ s.size).heap[b']? =w.heap[b']? :=fun b' hb'=>by
   unfold World.freeze;rw[if_neg (by omega)]
   simp only[agn];rw[if_neg (fun e=>hb' e.symm)];rfl
  refine⟨⟨p,(hoth b (fun e=>hgb e.symm)).trans hbk,hp⟩,hne,⟨hown.1,.inr ⟨g,cap,cur,_,rfl,hbg,hgn,?_,hnc,hcm,hcs,htake⟩⟩,fun g' hg'=>.inl hg',?_,?_,?_,?_,fun b' _ _ h3=>hoth b' (fun e=>h3 (by simp[Value.ownBlock,e])),fun b' _=>?_⟩
  ·split
   ·simp
   ·simp;omega
  ·unfold World.freeze;split<;>rfl
  ·unfold World.freeze;split<;>rfl
  ·unfold World.freeze;split<;>rfl
  ·unfold World.freeze
   split
   ·exact agh _
   ·exact Nat.le_of_eq (Array.size_modify ..).symm
  ·by_cases e:b'=g
   ·subst e;unfold bsz;rw[hgn,hg]
   ·exact eT (hoth b' e)
 have mixed:=L.mixed;have t72:=L.t72;have a72:=L.a72;have z72:=L.z72;have v72:=L.v72;have u72:=run_underlying L.t72;have t70:=L.t70;have a70:=L.a70;have z70:=L.z70;have v70:=L.v70;have u70:=run_underlying L.t70;have t37:=L.t37;have a37:=L.a37;have z37:=L.z37;have v37:=L.v37;have u37:=run_underlying L.t37;have t127:=L.t127;have a127:=L.a127;have z127:=L.z127;have v127:=L.v127;have u127:=run_underlying L.t127;have t3:=L.t3;have a3:=L.a3;have z3:=L.z3;have v3:=L.v3;have u3:=run_underlying L.t3;have t9:=L.t9;have a9:=L.a9;have z9:=L.z9;have v9:=L.v9;have u9:=run_underlying L.t9;have t5:=X.t5;have a5:=X.a5;have z5:=X.z5;have v5:=X.v5;have u5:=run_underlying X.t5
 go_enter L.f169,Body.n169_ntmps ρ
 go_wp2
 go_region_o
 all_goals(go_wp2;go_ret;exact⟨_,_,rfl,hfin,rfl⟩)
end Go.Eng
namespace Go.Eng.YtcechbdgokjmgaaGreatDoor
open Go.Proofs Go.RowKit
set_option linter.unusedSimpArgs false
set_option linter.unusedVariables false
set_option maxHeartbeats 0
set_option maxRecDepth 100000
def O8:CT:=fun args n H K=>match args with
 | [p,x]=>match p with
  |.rp k off=>match x with
   |.str s=>cB H k fun o=>match o with
    |.bld t e acc=>ifK (agA off 0&&agA t 163&&agA e 5) (VC (acc.size+s.size≤140737488355328)∧K (.tup [.int .i64 s.size,.nili]) [(k,.bld t e (acc++s))] [k] [])
    |_=>False
   |_=>False
  |_=>False
 |_=>False
def Pb:CT:=fun args n H K=>match args with
 | [p]=>match p with
  |.rp k off=>cB H k fun o=>match o with
   |.bld t e acc=>ifK (agA off 0&&agA t 163&&agA e 5) (K (.int .i64 acc.size) [(k,.bld t e acc)] [k] [])
   |_=>False
  |_=>False
 |_=>False
def Pd:CT:=fun args n H K=>match args with
 | [p]=>match p with
  |.rp k off=>cB H k fun o=>match o with
   |.bld t e acc=>ifK (agA off 0&&agA t 163&&agA e 5) (VC (0<acc.size)∧K (.str acc) [(k,.bld t e acc)] [k] [])
   |_=>False
  |_=>False
 |_=>False
theorem Ce {S:Imm} {w:World} {ι:Ix} {k b:Nat} {v:Value} (h:Rep S w ι (.rp k 0) v) (hb:ι.o k=some b):v=.pointer (some ⟨b,0,none⟩):=by
 cases h with
 |rp _ _ _ b' hk=>rw[hb]at hk;cases hk;rfl
theorem Vs {S:Imm} {w:World} {ι:Ix} {s:ByteArray} {v:Value} (h:Rep S w ι (.str s) v):v=.string s:=by cases h;rfl
theorem Vt:COK Tryz.prog 106 O8:=by
 intro args n H K hk;unfold O8 at hk;split at hk
 ·split at hk
  ·rename_i k off
   split at hk
   ·rename_i s
    rw[bA]at hk;obtain⟨o,hob,hk⟩:=hk;split at hk
    ·rename_i t e acc
     simp only[aN,agE]at hk;obtain⟨⟨⟨h1,h2⟩,h3⟩,⟨hsz⟩,hk⟩:=hk;have h1:=agF h1;have h2:=agF h2;have h3:=agF h3;subst h1;subst h2;subst h3;refine⟨_,_,_,[],hk,yB (enters' Tryz.func106 (by rfl) (by rfl)) hob fun S w ι vs b p v hr ho h0 hp hne hown=>?_⟩
     obtain⟨v1,v2,rfl,r1,r2⟩:=Gf hr;obtain rfl:=Ce r1 ho;obtain rfl:=Vs r2;refine(Sv (P:=Tryz.prog) (ρ:=Tryz.lays156_ren) {Tryz.lays156 with} Tryz.Builder_Extra_156 b p v acc s w h0 hp hne hown hsz).mono ?_
     rintro ex w' ⟨val,v',rfl,B,rfl⟩
     exact⟨_,v',rfl,B,fun S' ι'=>.tup _ _ _ rfl fun i hi=>by
      match i,hi with
      |0,_=>exact .int _ _ _
      |1,_=>exact .nili _⟩
    ·exact hk.elim
   ·exact hk.elim
  ·exact hk.elim
 ·exact hk.elim
theorem Vu:COK Tryz.prog 110 Pd:=by
 intro args n H K hk;unfold Pd at hk;split at hk
 ·split at hk
  ·rename_i k off
   rw[bA]at hk;obtain⟨o,hob,hk⟩:=hk;split at hk
   ·rename_i t e acc
    simp only[aN,agE]at hk;obtain⟨⟨⟨h1,h2⟩,h3⟩,⟨hsz⟩,hk⟩:=hk;have h1:=agF h1;have h2:=agF h2;have h3:=agF h3;subst h1;subst h2;subst h3;refine⟨_,_,_,[],hk,yB (enters' Tryz.func110 (by rfl) (by rfl)) hob fun S w ι vs b p v hr ho h0 hp hne hown=>?_⟩
    obtain⟨v1,rfl,r1⟩:=yC hr;obtain rfl:=Ce r1 ho;refine(O7 (P:=Tryz.prog) (ρ:=Tryz.lays156_ren) {Tryz.lays156 with} Tryz.Builder_Extra_156 b p v acc w h0 hp hne hown hsz).mono ?_
    rintro ex w' ⟨val,v',rfl,B,rfl⟩
    exact⟨_,v',rfl,B,fun S' ι'=>.str _ _⟩
   ·exact hk.elim
  ·exact hk.elim
 ·exact hk.elim
set_option maxRecDepth 100000 in
theorem aaR (b:Nat) (p v:Value) (s:ByteArray) (w:World) (hbk:w.heap[b]? =some (.cells #[p,v] 163 (0,0))) (hown:w.ownsRowF 0 5 1 v s.size (Lib.strCells s)):
 Calls Tryz.prog 109 #[.pointer (some ⟨b,0,none⟩)] w fun ex w'=>ex=.returned (.int .i64 s.size)∧w'=w:=by
 obtain⟨ao,cap,rfl⟩:∃ao cap,v=.slice ao s.size cap:=by
  rcases hown.2 with⟨hv,h0⟩|⟨g,cap,cur,fz,hv,_⟩
  ·exact⟨none,0,by rw[hv,h0]⟩
  ·exact⟨_,_,hv⟩
 have c1:w.cell? ⟨b,1,none⟩=some (.slice ao s.size cap):=by rw[Lib.cell_of_heap hbk];rfl
 have mixed:=Tryz.lays156.mixed;have t72:=Tryz.underlying163;have u72:=run_underlying Tryz.underlying163
 go_enter Tryz.func109,Tryz.ntmps109
 go_wp2
 go_ret
 exact⟨rfl,rfl⟩
theorem Vv:COK Tryz.prog 109 Pb:=by
 intro args n H K hk;unfold Pb at hk;split at hk
 ·split at hk
  ·rename_i k off
   rw[bA]at hk;obtain⟨o,hob,hk⟩:=hk;split at hk
   ·rename_i t e acc
    simp only[aN,agE]at hk;obtain⟨⟨⟨h1,h2⟩,h3⟩,hk⟩:=hk;have h1:=agF h1;have h2:=agF h2;have h3:=agF h3;subst h1;subst h2;subst h3;refine⟨_,_,_,[],hk,yB (enters' Tryz.func109 (by rfl) (by rfl)) hob fun S w ι vs b p v hr ho h0 hp hne hown=>?_⟩
    obtain⟨v1,rfl,r1⟩:=yC hr;obtain rfl:=Ce r1 ho;refine(aaR b p v acc w h0 hown).mono ?_
    rintro ex w' ⟨rfl,rfl⟩
    exact⟨_,v,rfl,⟨⟨p,h0,hp⟩,hne,hown,fun g hg=>.inl hg,rfl,rfl,rfl,agh _,fun _ _ _ _=>rfl,fun _ _=>rfl⟩,fun S' ι'=>.int _ _ _⟩
   ·exact hk.elim
  ·exact hk.elim
 ·exact hk.elim
def sNl:ByteArray:=⟨#[10]⟩
def lnB (w:ByteArray) (l:List Int):ByteArray:=joB ([w]++l.map itB) kBl++sNl
theorem nG {w:ByteArray} {l:List Int} (hw:w.size≤10) (h:∀x∈l,ow x):(lnB w l).size≤22*(l.length+1)+1:=by
 have:=Gs (xs:=[w]++l.map itB) (b:=21) fun x hx=>by
  rcases agu.1 hx with hx|hx
  ·simp at hx;subst hx;omega
  ·obtain⟨n,hn,rfl⟩:=ai5.1 hx
   exact pY (h n hn)
 unfold lnB;rw[ByteArray.size_append];have e:sNl.size=1:=rfl;simp only[ahx,agb,af7,aif]at this;omega
noncomputable def afM:CPT:=aA 106 O8 (aA 107 (aB Ab) (aA 108 (aB Gu) noC))
theorem aaS:aV Tryz.prog afM:=ak Vt (ak (au Gt) (ak (au Ul) aC))
structure Cg (acc w:ByteArray) (l:List Int):Prop where
 sa:acc.size≤1000000000
 sw:w.size≤10
 sl:1≤l.length∧l.length≤100000
 sn:∀x∈l,ow x
theorem Vw (acc w:ByteArray) (l:List Int) (h:Cg acc w l):jM Tryz.prog 105 [.str w,.isl (.ints .i64 l) .none,.rp 0 0] [.bld 163 5 acc] [] [.bld 163 5 (acc++lnB w l)]:=by
 obtain⟨h1,h2,h3,h4⟩:=h;have hs:=nG h2 h4;have hT:Uk l:=⟨by omega,fun i hi=>h4 _ (bK hi)⟩
 have hW:Uj ([w]++l.map itB) 1000000:=⟨by simp;omega,fun x hx=>by
  rcases agu.1 hx with hx|hx
  ·simp at hx;subst hx;omega
  ·obtain⟨n,hn,rfl⟩:=ai5.1 hx
   have:=pY (h4 n hn);omega⟩
 have e1:(joB ([w]++l.map itB) kBl).size+1=(lnB w l).size:=by
  unfold lnB;rw[ByteArray.size_append];rfl
 unfold lnB sNl;unfold lnB sNl at hs e1;refine bL (md:=1) (rf:=[]) mixed aj aaS 1 [] Tryz.func105 (by rfl) (by rfl) (by rfl) ?_
 repeat'((conv=>whnf);first|intro _|apply aI|with_reducible exact vM rfl|exact⟨⟩|apply nM|apply fM)
 all_goals((try apply vM);(try simp only[vq]at*);try omega)
 all_goals first|exact hT|exact hW|(simp only[ahx,aif,agb,af7];omega)|(rw[ByteArray.size_append]at*;omega)|skip
def Vx:LSp:=fun xs objs K=>match xs,objs with
 | [.str w,.isl (.ints .i64 l) .none,.rp 0 0],[.bld 163 5 acc]=>VC (Cg acc w l)∧K [] [.bld 163 5 (acc++lnB w l)]
 |_,_=>False
theorem adI:LOK Tryz.prog 105 Vx:=by
 intro xs objs K hk;unfold Vx at hk;split at hk
 ·exact⟨_,_,hk.2,Vw _ _ _ hk.1.get⟩
 ·exact hk.elim
abbrev rV:ByteArray:=⟨#[99,101,108,108,115]⟩
abbrev Pe:ByteArray:=⟨#[115,117,109]⟩
abbrev EU:ByteArray:=⟨#[108,105,110,101]⟩
abbrev wF:ByteArray:=⟨#[103,105,118,101,110]⟩
def prA (c:Int) (ls:List (List Int)) (sum:Int) (k:Nat):ByteArray:=(ls.take k).foldl (fun a l=>a++lnB EU l) (.empty++lnB rV [c]++lnB Pe [sum])
def wG (c:Int) (ls:List (List Int)) (sum:Int) (gv:List Int):ByteArray:=prA c ls sum ls.length++lnB wF gv
def Pf (c:Int) (ls:List (List Int)) (sum:Int) (gv:List Int):ByteArray × Int:=
 if pzE c ls sum gv≠0 then(ug,pzE c ls sum gv)else if 4096<(wG c ls sum gv).size then(ug,25)else(wG c ls sum gv,0)
theorem Ii (c:Int) (ls:List (List Int)) (sum:Int) (k:Nat) (h:k<ls.length):prA c ls sum (k+1)=prA c ls sum k++lnB EU (ls.getD k []):=by
 unfold prA;rw[aij,agy h,aiF,agt,agy h];rfl
noncomputable def afN:CPT:=aA 22 (aB l9) (aA 105 (eG [] Vx) (aA 109 Pb (aA 110 Pd noC)))
theorem Ch:aV Tryz.prog afN:=ak (au lC) (ak (dF [] adI) (ak Vv (ak Vu aC)))
theorem Vy {c:Int} {ls:List (List Int)} {sum:Int} {gv:List Int} (hp:cZ c ls sum gv):∀k,k≤ls.length→(prA c ls sum k).size≤5000+1000*k:=by
 intro k;induction k with
 |zero=>
  intro _;have h1:=nG (w:=rV) (l:=[c]) (by decide) (fun x hx=>by simp at hx;subst hx;have:=hp.c1;exact⟨by omega,by omega⟩)
  have h2:=nG (w:=Pe) (l:=[sum]) (by decide) (fun x hx=>by simp at hx;subst hx;have:=hp.sm;exact⟨by omega,by omega⟩)
  show(ByteArray.empty++lnB rV [c]++lnB Pe [sum]).size≤_;rw[ByteArray.size_append,ByteArray.size_append];simp at h1 h2⊢;omega
 |succ k ih=>
  intro hk;have hL:=hp.ln k (by omega)
  have h1:=nG (w:=EU) (l:=ls.getD k []) (by decide) (fun x hx=>by have:=hL.rng x hx;have:=hp.c1;exact⟨by omega,by omega⟩)
  rw[Ii _ _ _ _ (by omega),ByteArray.size_append]
  have:=ih (by omega)
  have:=hL.len;omega
theorem Pg (c:Int) (ls:List (List Int)) (sum:Int) (gv:List Int) (h:bH ls) (hg:gv.length≤5000):
 aF Tryz.prog 42 [pzV c ls sum gv] (.tup [.str (Pf c ls sum gv).1,.int .i64 (Pf c ls sum gv).2]):=by
 unfold Pf;by_cases he:pzE c ls sum gv=0
 case neg=>
  rw[if_pos he];refine av (md:=1) (rf:=[2163]) mixed aj Ch Tryz.func42 (by rfl) (by rfl) (by rfl) ?_
  repeat'((conv=>whnf);first|(intro hq;(try simp only[vw]at hq);try first|exact absurd hq (by decide)|exfalso;omega)|apply aI|with_reducible exact vM rfl|exact⟨⟩|apply nM|apply fM)
  all_goals((try apply vM);(try simp only[vq]at*);try omega)
  all_goals first|exact⟨h,hg⟩|exact Sup.of rfl|(exfalso;exact he (by assumption))|(exfalso;contradiction)|skip
 rw[if_neg (by rw[he];simp)]
 have hp:=cZ.of he;have hc:=hp.c1;have hs:=hp.sm;have hgl:=hp.gl;have hll:=hp.ll;have hA:=Vy hp;have k1:Cg .empty rV [c]:=⟨by decide,by decide,by simp,fun x hx=>by simp at hx;subst hx;exact⟨by omega,by omega⟩⟩
 have k2:Cg (.empty++lnB rV [c]) Pe [sum]:=⟨by
  have h1:=nG (w:=rV) (l:=[c]) (by decide) (fun x hx=>by simp at hx;subst hx;exact⟨by omega,by omega⟩)
  rw[ByteArray.size_append];simp at h1⊢;omega,by decide,by simp,fun x hx=>by simp at hx;subst hx;exact⟨by omega,by omega⟩⟩
 have k3:∀k,k<ls.length→Cg (prA c ls sum k) EU (ls.getD k []):=fun k hk=>⟨by have:=hA k (by omega);omega,by decide,by have:=(hp.ln k hk).ne;have:=(hp.ln k hk).len;omega,fun x hx=>by have:=(hp.ln k hk).rng x hx;exact⟨by omega,by omega⟩⟩
 have k4:Cg (prA c ls sum ls.length) wF gv:=⟨by have:=hA ls.length (agh _);omega,by decide,by omega,fun x hx=>by have:=hp.gr x hx;exact⟨by omega,by omega⟩⟩
 have hT:0<(wG c ls sum gv).size∧(wG c ls sum gv).size≤1000000:=by
  have h1:=hA ls.length (agh _);have h2:=nG (w:=wF) (l:=gv) (by decide) k4.sn
  have h3:0<(lnB wF gv).size:=by unfold lnB;rw[ByteArray.size_append];exact Nat.lt_of_lt_of_le (by decide:0<sNl.size) (Nat.le_add_left _ _)
  unfold wG;rw[ByteArray.size_append];omega
 have fin:∀r:ByteArray × Int,r=(if 4096<(wG c ls sum gv).size then(ug,(25:Int))else(wG c ls sum gv,0))→aF Tryz.prog 42 [pzV c ls sum gv] (.tup [.str r.1,.int .i64 r.2]):=by
  intro r hr;refine av (md:=1) (rf:=[2163]) mixed aj Ch Tryz.func42 (by rfl) (by rfl) (by rfl) ?_
  repeat'((conv=>whnf);first|(intro hq;(try simp only[vw]at hq);try first|exact absurd hq (by decide)|exfalso;omega)|apply aI|with_reducible exact vM rfl|exact⟨⟩|apply nM|apply fM)
  all_goals((try apply vM);(try simp only[vq]at*);try omega)
  all_goals(try first|exact⟨h,hg⟩|exact k1|exact k2|(exfalso;contradiction))
  all_goals(try exact(rfl:ND.zero.cells= #[Value.pointer none,Value.slice none 0 0]))
  conv=>whnf
  refine aJ (X:=Nat) (fun k=>k≤ls.length) (fun k=>[(30,.int .i64 k)]) (fun k=>[(5,.bld 163 5 (prA c ls sum k))]) (fun k=>ls.length-k) 0 ⟨aG,mixed,aj,Ch,aM⟩ (by rfl) (by omega) ?_ ?_
  ·repeat'((conv=>whnf);first|intro _|apply aI|with_reducible exact vM rfl|exact⟨⟩|apply nM|apply fM)
   all_goals((try apply vM);(try simp only[vq]at*);try omega)
  intro k hk;by_cases hlt:k<ls.length
  ·have hs:=Ii c ls sum k hlt
   repeat'((conv=>whnf);first|(intro hq;(try simp only[vw]at hq);try first|exact absurd hq (by decide)|exfalso;omega)|apply aI|with_reducible exact vM rfl|exact⟨⟩|apply nM|apply fM)
   all_goals((try apply vM);(try simp only[vq]at*);try omega)
   all_goals(try first|exact k3 k hlt|omega)
   refine⟨k+1,[],⟨by omega,by omega⟩,?_⟩
   repeat'((conv=>whnf);first|intro _|apply aI|with_reducible exact vM rfl|exact⟨⟩|apply nM|apply fM)
   all_goals((try apply vM);(try simp only[vq]at*);try omega)
   all_goals(try(rw[hs]))
  have e:k=ls.length:=by omega
  subst e;have e2:prA c ls sum ls.length++lnB wF gv=wG c ls sum gv:=rfl
  repeat'((conv=>whnf);first|(intro hq;(try simp only[vw]at hq);try first|exact absurd hq (by decide)|exfalso;omega)|apply aI|with_reducible exact vM rfl|exact⟨⟩|apply nM|apply fM)
  all_goals((try apply vM);(try simp only[vq]at*);try omega)
  all_goals(try first|exact k4|omega)
  all_goals(try rw[e2]at*)
  ·rw[hr,if_pos (by omega)];exact Sup.of rfl
  ·exact hT.1
  ·rw[hr,if_neg (by omega)];exact Sup.of rfl
 exact fin _ rfl
def L9:List (List Int):=[[0,1,2],[3,4,5],[6,7,8],[0,3,6],[1,4,7],[2,5,8],[0,4,8],[2,4,6]]
def G9:List Int:=[2,7,0,0,5,0,0,0,0]
def G9b:List Int:=[2,7,5,0,0,0,0,0,0]
def N9:List Int:=[2,7,6,9,5,1,4,3,8]
def O9:List Int:=[8,7,6,5,4,3,2,1,0]
theorem adJ:pzE 9 L9 15 G9=0:=by decide+kernel
theorem aex:(sol 9 L9 15 G9 1).1.length=6∧(sol 9 L9 15 G9 1).2.1.cs.getD 3 []=[9]∧(sol 9 L9 15 G9 1).2.1.cs.length=9∧(sol 9 L9 15 G9 1).2.2=0:=by decide+kernel
theorem adK:ES 9 L9 15 G9 5=([N9],0):=by decide+kernel
theorem aey:HV 9 L9 15 G9=[6,0,0,0,0]:=by decide+kernel
theorem Ph:(lG 9 L9 15 G9).1=1∧(lG 9 L9 15 G9).2.2=0:=by decide+kernel
instance aeT:DecidableEq Dd:=fun a b=>match a,b with
 |⟨g,y,x,k⟩,⟨g',y',x',k'⟩=>decidable_of_iff (g=g'∧y=y'∧x=x'∧k=k') ⟨fun h=>by obtain⟨rfl,rfl,rfl,rfl⟩:=h;rfl,fun h=>by cases h;exact⟨rfl,rfl,rfl,rfl⟩⟩
theorem adL:uj 9 L9 15 G9=(some ⟨1,2,6,0⟩,0):=by decide+kernel
abbrev Vz:ByteArray:=⟨#[99,101,108,108,32,50,32,105,115,32,54,32,98,121,32,108,97,115,116,32,111,110,32,108,105,110,101,32,48]⟩
theorem aez:O6 9 L9 15 G9 ⟨#[108,97,115,116]⟩ 2 6 0=(Vz,0):=by decide+kernel
theorem aeA:d9 N9=[1,2,3,4,5,6,7,8,9]:=by
 unfold d9;simp[N9,List.mergeSort,List.MergeSort.Internal.splitInTwo,ajz,ajz.go,List.merge]
theorem afO:gI N9=(true,0):=by
 have h:iC N9=true:=by unfold iC;rw[aeA];decide
 unfold gI;rw[if_neg (by decide),h]
theorem Pj:mD 9 L9 N9 1=0∧Ic L9 N9=true∧j5 5 O9=0:=by decide+kernel
theorem X7:O9.foldl (mkS 9 L9 15 N9 1) N9=[2,7,0,9,0,0,0,0,0]∧fI N9 (L9.getD 0 []) (L9.getD 0 []).length=15:=by decide+kernel
theorem aeB:iD 9 L9 N9 O9 1=((9,L9,15,[2,7,0,9,0,0,0,0,0]),0):=by
 unfold iD;rw[if_neg (by rw[Pj.1];simp),if_neg (by rw[afO];simp),if_neg (by rw[Pj.2.1];simp),if_neg (by rw[Pj.2.2];decide),X7.2]
 rw[show(1:Int).toNat=1 from rfl,X7.1]
abbrev kQ:ByteArray:=⟨#[99,101,108,108,115,32,57,10,115,117,109,32,49,53,10,108,105,110,101,32,48,32,49,32,50,10,108,105,110,101,32,51,32,52,32,53,10,108,105,110,101,32,54,32,55,32,56,10,108,105,110,101,32,48,32,51,32,54,10,108,105,110,101,32,49,32,52,32,55,10,108,105,110,101,32,50,32,53,32,56,10,108,105,110,101,32,48,32,52,32,56,10,108,105,110,101,32,50,32,52,32,54,10,103,105,118,101,110,32,50,32,55,32,48,32,48,32,53,32,48,32,48,32,48,32,48,10]⟩
theorem aeC:Pf 9 L9 15 G9=(kQ,0):=by decide+kernel
def Pk (z:ByteArray):Bool:=decide (0<z.size)&&decide (z.size≤9)&&(decide (z.size=1)||!decide (((z.data.getD 0 0).toNat:Int)=48))&&(dI z).all dgI
theorem yV (z:ByteArray):BL z↔Pk z=true:=by
 unfold BL Pk;simp only[agE,ahM,decide_eq_true_eq,ajn,decide_eq_false_iff_not];constructor
 ·rintro⟨⟨h1,h2,h3⟩,h4⟩;exact⟨⟨⟨h1,h2⟩,h3⟩,h4⟩
 ·rintro⟨⟨⟨h1,h2⟩,h3⟩,h4⟩;exact⟨⟨h1,h2,h3⟩,h4⟩
def Pm (s:ByteArray) (sg:Bool):Bool:=preB s kMi&&(!sg||decide (kN s kMi=kZe))
theorem Ij (s:ByteArray) (sg:Bool):OG s sg↔Pm s sg=true:=by
 unfold OG Pm;simp
def Ci (s:ByteArray) (sg:Bool):Option Int:=if(Pk (kN s kMi)&&!Pm s sg)=true then Go.Lib.atoi s.data.toList else none
theorem Cj (s:ByteArray) (sg:Bool):fK s sg=Ci s sg:=by
 unfold fK Ci;by_cases h:Pk (kN s kMi)=true<;>by_cases h2:Pm s sg=true
 ·rw[if_neg (fun e=>e.2 ((Ij _ _).2 h2)),if_neg (by simp[h,h2])]
 ·rw[if_pos ⟨(yV _).2 h,fun e=>h2 ((Ij _ _).1 e)⟩,if_pos (by simp[h,h2])]
 ·rw[if_neg (fun e=>h ((yV _).1 e.1)),if_neg (by simp[h,h2])]
 ·rw[if_neg (fun e=>h ((yV _).1 e.1)),if_neg (by simp[h,h2])]
def Ik (s w:ByteArray):Option (List Int):=
 if(decide ((dJ 32 s).getD 0 .empty=w)&&((dJ 32 s).drop 1).all fun x=>(Ci x (decide (w=jm))).isSome)=true then some (((dJ 32 s).drop 1).map fun x=>(Ci x (decide (w=jm))).getD 0)else none
theorem LB (sg:Bool) (ws:List ByteArray):okW sg ws↔(ws.all fun x=>(Ci x sg).isSome)=true:=by
 unfold okW;rw[ahP];constructor
 ·intro h x hx
  obtain⟨j,hj,rfl⟩:=List.mem_iff_getElem.1 hx;have:=h j hj;rw[agt,agy hj,Cj]at this;exact this
 ·intro h j hj
  rw[Cj];exact h _ (vV hj)
theorem aaT (s w:ByteArray):cO s w=Ik s w:=by
 unfold cO Ik numsL;simp only[Cj];by_cases h:(dJ 32 s).getD 0 .empty=w<;>by_cases h2:(((dJ 32 s).drop 1).all fun x=>(Ci x (decide (w=jm))).isSome)=true
 ·rw[if_pos ⟨h,(LB _ _).2 h2⟩,if_pos (by rw[h2];simp only[h];simp)]
 ·rw[if_neg (fun e=>h2 ((LB _ _).1 e.2)),if_neg (fun e=>h2 (by rw[agE]at e;exact e.2))]
 ·rw[if_neg (fun e=>h e.1),if_neg (fun e=>h (by rw[agE,decide_eq_true_eq]at e;exact e.1))]
 ·rw[if_neg (fun e=>h e.1),if_neg (fun e=>h (by rw[agE,decide_eq_true_eq]at e;exact e.1))]
def Il (r:Rd) (s:ByteArray):Bool × Rd:=
 if r.line+1≤2 then
  match Ik s (if r.line=0 then G6 else jm)with
  |none=>(false,{r with line:=r.line+1})
  |some l=>if l.length≠1 then(false,{r with line:=r.line+1})else if r.line=0 then(true,{r with line:=r.line+1,c:=l.getD 0 0})else(true,{r with line:=r.line+1,sum:=l.getD 0 0})
 else if r.done=true then(false,{r with line:=r.line+1})
 else match Ik s EP with
  |some l=>(true,{r with line:=r.line+1,L:=r.L++[l]})
  |none=>match Ik s vW with
   |some l=>(true,{r with line:=r.line+1,gv:=l,done:=true})
   |none=>(false,{r with line:=r.line+1,gv:=[],done:=false})
theorem aaU (r:Rd) (s:ByteArray):nxt r s=Il r s:=by
 unfold nxt Il;simp only[aaT];rfl
def rdC:Rd→List ByteArray→Rd × Bool
 |r,[]=>(r,true)
 |r,x::t=>if(Il r x).1=true then rdC (Il r x).2 t else((Il r x).2,false)
theorem adM:∀(l:List ByteArray) (r:Rd),rdG r l=rdC r l:=by
 intro l;induction l with
 |nil=>intro r;rfl
 |cons x t ih=>
  intro r;unfold rdG rdC;rw[aaU,ih]
theorem afP:((rdC rd0 (dJ 10 (jI kQ kNl))).1.c,(rdC rd0 (dJ 10 (jI kQ kNl))).1.L,(rdC rd0 (dJ 10 (jI kQ kNl))).1.sum,(rdC rd0 (dJ 10 (jI kQ kNl))).1.gv,(rdC rd0 (dJ 10 (jI kQ kNl))).1.done,(rdC rd0 (dJ 10 (jI kQ kNl))).2)=(9,L9,15,G9,true,true):=by decide+kernel
theorem aeD:wD kQ=0:=by decide+kernel
theorem adN:O5 kQ=((9,L9,15,G9),0,0):=by
 have h:=afP;have hG:iO kQ=rdC rd0 (dJ 10 (jI kQ kNl)):=adM _ _;rw[←hG]at h;simp only[Prod.mk.injEq]at h;obtain⟨h1,h2,h3,h4,h5,h6⟩:=h;unfold O5;rw[if_neg (by rw[aeD];simp),if_neg (by rw[h6];simp),if_neg (by rw[h5];simp),h1,h2,h3,h4,if_neg (by rw[adJ];simp)]
theorem adO (l:List Dd):Sup (.isl (dlC l) .none) (.isl (.recs 4 (l.map ddC)) .none):=⟨fun{S w ι v} hr=>by
 have hn:(CL.recs 4 (l.map ddC)).ncell=(dlC l).ncell:=by simp[CL.ncell]
 have hc:(CL.recs 4 (l.map ddC)).cnt=(dlC l).cnt:=by simp[CL.cnt]
 have hg:∀j,j<(dlC l).ncell→(CL.recs 4 (l.map ddC)).get j=(dlC l).get j:=fun j hj=>by
  simp only[CL.ncell]at hj;have:j / 4<l.length:=by omega
  simp only[CL.get];rw[agt,List.getElem?_map,agt,agy this];rfl
 cases hr with
 |islnil _ _ _ h=>exact .islnil _ _ _ (by rw[hc];exact h)
 |isl _ _ _ b off cap h1 h2 h3 h4 h5=>
  rw[←hc];exact .isl _ _ _ _ _ _ (by rw[hc];exact h1) (fun j hj=>h2 j (by rw[←hn];exact hj)) (fun j hj=>by rw[hg j (by rw[←hn];exact hj)];exact h3 j (by rw[←hn];exact hj)) (fun h=>by cases h) (fun k h=>by cases h)⟩
theorem J6:aF Tryz.prog 84 [] (.agg [.int .i64 9,.isl (.rows .i64 L9) .none]):=by
 refine bR (md:=1) (rf:=[]) mixed aj aC Tryz.func84 (by rfl) (by rfl) (by rfl) ?_
 repeat'((conv=>whnf);first|(intro hq;(try simp only[vw]at hq);try first|exact absurd hq (by decide)|exfalso;omega)|apply aI|with_reducible exact vM rfl|exact⟨⟩|apply nM|apply fM)
 all_goals((try apply vM);(try simp only[vq]at*);try omega)
 unfold L9;all_goals(refine Sup.via ?_;repeat'((conv=>whnf);first|intro _|apply aI|with_reducible exact vM rfl|exact⟨⟩|apply nM|apply fM);all_goals((try apply vM);(try simp only[vq]at*);try omega);all_goals(try(simp[CL.sub];done)))
theorem VA:aF Tryz.prog 85 [] (.isl (.ints .i64 N9) .none):=by
 refine av (md:=1) (rf:=[]) mixed aj aC Tryz.func85 (by rfl) (by rfl) (by rfl) ?_
 repeat'((conv=>whnf);first|(intro hq;(try simp only[vw]at hq);try first|exact absurd hq (by decide)|exfalso;omega)|apply aI|with_reducible exact vM rfl|exact⟨⟩|apply nM|apply fM)
 all_goals((try apply vM);(try simp only[vq]at*);try omega)
 unfold N9;all_goals(refine Sup.via ?_;repeat'((conv=>whnf);first|intro _|apply aI|with_reducible exact vM rfl|exact⟨⟩|apply nM|apply fM);all_goals((try apply vM);(try simp only[vq]at*);try omega);all_goals(try(simp[CL.sub];done)))
def Ck:PSp:=fun xs K=>match xs with
 | []=>VC (True)∧K (.agg [.int .i64 9,.isl (.rows .i64 L9) .none])
 |_=>False
theorem Sw:POK Tryz.prog 84 Ck:=by
 intro xs K h;unfold Ck at h;split at h
 ·exact⟨_,h.2,J6⟩
 ·exact h.elim
def VB:PSp:=fun xs K=>match xs with
 | []=>VC (True)∧K (.isl (.ints .i64 N9) .none)
 |_=>False
theorem adP:POK Tryz.prog 85 VB:=by
 intro xs K h;unfold VB at h;split at h
 ·exact⟨_,h.2,VA⟩
 ·exact h.elim
theorem nN:bH L9:=⟨by decide,by decide⟩
def C9:List (List Int):=[[2],[7],[1,3,4,6,8,9],[1,3,4,6,8,9],[5],[1,3,4,6,8,9],[1,3,4,6,8,9],[1,3,4,6,8,9],[1,3,4,6,8,9]]
def D9:List Bool:=[true,true,false,false,true,false,false,false,false]
def T9:List (List PV):=[(6,2,0),(3,7,4),(8,8,6),(4,6,2),(9,3,3),(1,5,1)].map fun d:Int × Int × Int=>[.str bM,.int .i64 d.2.1,.int .i64 d.1,.int .i64 d.2.2]
theorem aeE:wu 9 L9 15 G9=⟨C9,D9⟩:=by
 have h1:(wu 9 L9 15 G9).cs=C9:=by decide+kernel
 have h2:(wu 9 L9 15 G9).ds=D9:=by decide+kernel
 rw[←h1,←h2]
theorem afQ:aF Tryz.prog 20 [pzV 9 L9 15 G9] (.tup [.agg [.isl (.rows .i64 C9) .none,.isl (.bools D9) .none],.int .i64 0]):=by
 have h:=OU 9 L9 15 G9 nN (by decide)
 rw[aeE,adJ]at h;exact h
theorem aeF:aF Tryz.prog 21 [pzV 9 L9 15 G9] (.tup [ddV bM 2 6 0,.int .i64 0]):=by
 have h:=RY 9 L9 15 G9 nN (by decide)
 rw[adL]at h;exact h
theorem aeG:aF Tryz.prog 63 [pzV 9 L9 15 G9,ddV bM 2 6 0] (.tup [.str Vz,.int .i64 0]):=by
 have h:=Ig 9 L9 15 G9 nN (by decide) bM 2 6 0
 rw[aez]at h;exact h
theorem aeH:(sol 9 L9 15 G9 1).1.map ddC=T9:=by
 have h:(sol 9 L9 15 G9 1).1=[⟨1,2,6,0⟩,⟨1,7,3,4⟩,⟨1,8,8,6⟩,⟨1,6,4,2⟩,⟨1,3,9,3⟩,⟨1,5,1,1⟩]:=by decide+kernel
 rw[h];rfl
def S9:List (List Int):=[[2],[7],[6],[9],[5],[1],[4],[3],[8]]
theorem adQ:aF Tryz.prog 30 [pzV 9 L9 15 G9,.int .i64 1] (.tup [.isl (.recs 4 T9) .none,.agg [.isl (.rows .i64 S9) .none,.isl (.bools (agD 9 true)) .none],.int .i64 0]):=by
 have h:=Av 9 L9 15 G9 1 nN (by decide)
 have h1:uo 9 L9 15 G9 1=sol 9 L9 15 G9 1:=by
  have e:aL [pzE 9 L9 15 G9,fJ 1]=0∧(sol 9 L9 15 G9 (1:Int).toNat).2.2≠21:=by decide+kernel
  unfold uo;rw[if_neg (by rw[e.1];simp),if_neg e.2]
  rfl
 rw[h1]at h;have h2:(sol 9 L9 15 G9 1).2.2=0:=aex.2.2.2;have h3:(sol 9 L9 15 G9 1).2.1.cs=S9:=by decide+kernel
 have h4:(sol 9 L9 15 G9 1).2.1.ds=agD 9 true:=by decide+kernel
 rw[←aeH];refine gV h (xA rfl fun i hi=>?_)
 match i,hi with
 |0,_=>exact adO _
 |1,_=>
  show Sup (stV _) _;rw[show stV (sol 9 L9 15 G9 1).2.1=.agg [.isl (.rows .i64 (sol 9 L9 15 G9 1).2.1.cs) .none,.isl (.bools (sol 9 L9 15 G9 1).2.1.ds) .none]from rfl,h3];rw[h4];exact bO _
 |2,_=>show Sup (.int .i64 _) _;rw[h2];exact bO _
theorem adR:aF Tryz.prog 31 [pzV 9 L9 15 G9] (.tup [.int .i64 1,.int .i64 0]):=by
 have h:=OV 9 L9 15 G9 nN (by decide)
 rw[Ph.1,Ph.2]at h;exact h
theorem adS:aF Tryz.prog 32 [pzV 9 L9 15 G9] (.tup [.isl (.ints .i64 [6,0,0,0,0]) .none,.int .i64 0]):=by
 have h:=OW 9 L9 15 G9 nN (by decide)
 rw[aey,Ph.2]at h;exact h
theorem aeI:aF Tryz.prog 53 [.agg [.int .i64 9,.isl (.rows .i64 L9) .none],.isl (.ints .i64 N9) .none,.isl (.ints .i64 O9) .none,.int .i64 1] (.tup [pzV 9 L9 15 [2,7,0,9,0,0,0,0,0],.int .i64 0]):=by
 have h:=Dx 9 L9 N9 O9 1 nN (by decide) (by decide)
 rw[aeB]at h;exact h
theorem aeJ:aF Tryz.prog 39 [pzV 9 L9 15 G9,.int .i64 5] (.tup [.isl (.rows .i64 [N9]) .none,.int .i64 0]):=by
 have h:=BX 9 L9 15 G9 5 nN (by decide)
 rw[adK]at h;exact h
theorem adT:aF Tryz.prog 42 [pzV 9 L9 15 G9] (.tup [.str kQ,.int .i64 0]):=by
 have h:=Pg 9 L9 15 G9 nN (by decide)
 rw[aeC]at h;exact h
theorem aeK:aF Tryz.prog 44 [.str kQ] (.tup [pzV 9 L9 15 G9,.int .i64 0,.int .i64 0]):=by
 have h:=Sq kQ (by decide+kernel)
 rw[adN]at h;exact h
theorem adU:aF Tryz.prog 30 [pzV 9 L9 15 G9b,.int .i64 5] (.tup [.any,.agg [.isl (.rows .i64 []) .none,.isl (.bools []) .none],.int .i64 21]):=by
 have h:=Av 9 L9 15 G9b 5 nN (by decide)
 have h1:uo 9 L9 15 G9b 5=([],noS,21):=by
  have e:aL [pzE 9 L9 15 G9b,fJ 5]=0∧(sol 9 L9 15 G9b (5:Int).toNat).2.2=21:=by decide+kernel
  unfold uo;rw[if_neg (by rw[e.1];simp),if_pos e.2]
 rw[h1]at h;refine gV h (xA rfl fun i hi=>?_)
 match i,hi with
 |0,_=>exact⟨fun _=>.any _ _⟩
 |1,_=>exact bO _
 |2,_=>exact bO _
def Pn:PSp:=fun xs K=>match xs with
 | [.agg [.int .i64 c,.isl (.rows .i64 ls) .none,.int .i64 s,.isl (.ints .i64 gv) .none]]=>VC (c=9∧ls=L9∧s=15∧gv=G9)∧K (.tup [.agg [.isl (.rows .i64 C9) .none,.isl (.bools D9) .none],.int .i64 0])
 |_=>False
theorem aaV:POK Tryz.prog 20 Pn:=by
 intro xs K h;unfold Pn at h;split at h
 ·exact⟨_,h.2,(by obtain⟨rfl,rfl,rfl,rfl⟩:=h.1.get;exact afQ)⟩
 ·exact h.elim
def Im:PSp:=fun xs K=>match xs with
 | [.agg [.int .i64 c,.isl (.rows .i64 ls) .none,.int .i64 s,.isl (.ints .i64 gv) .none]]=>VC (c=9∧ls=L9∧s=15∧gv=G9)∧K (.tup [ddV bM 2 6 0,.int .i64 0])
 |_=>False
theorem VD:POK Tryz.prog 21 Im:=by
 intro xs K h;unfold Im at h;split at h
 ·exact⟨_,h.2,(by obtain⟨rfl,rfl,rfl,rfl⟩:=h.1.get;exact aeF)⟩
 ·exact h.elim
def Io:PSp:=fun xs K=>match xs with
 | [.agg [.int .i64 c,.isl (.rows .i64 ls) .none,.int .i64 s,.isl (.ints .i64 gv) .none],.agg [.str r,.int .i64 y,.int .i64 x,.int .i64 k]]=>VC ((c=9∧ls=L9∧s=15∧gv=G9)∧r=bM∧y=2∧x=6∧k=0)∧K (.tup [.str Vz,.int .i64 0])
 |_=>False
theorem VE:POK Tryz.prog 63 Io:=by
 intro xs K h;unfold Io at h;split at h
 ·exact⟨_,h.2,(by obtain⟨⟨rfl,rfl,rfl,rfl⟩,rfl,rfl,rfl,rfl⟩:=h.1.get;exact aeG)⟩
 ·exact h.elim
def Cm:PSp:=fun xs K=>match xs with
 | [.agg [.int .i64 c,.isl (.rows .i64 ls) .none,.int .i64 s,.isl (.ints .i64 gv) .none],.int .i64 g]=>match decide (g=1)with
  |true=>VC (g=1∧c=9∧ls=L9∧s=15∧gv=G9)∧K (.tup [.isl (.recs 4 T9) .none,.agg [.isl (.rows .i64 S9) .none,.isl (.bools (agD 9 true)) .none],.int .i64 0])
  |false=>VC (g=5∧c=9∧ls=L9∧s=15∧gv=G9b)∧K (.tup [.any,.agg [.isl (.rows .i64 []) .none,.isl (.bools []) .none],.int .i64 21])
 |_=>False
theorem Sy:POK Tryz.prog 30 Cm:=by
 intro xs K hk;unfold Cm at hk;split at hk
 ·split at hk
  ·obtain⟨⟨rfl,rfl,rfl,rfl,rfl⟩,hk⟩:=hk;exact⟨_,hk,adQ⟩
  ·obtain⟨⟨rfl,rfl,rfl,rfl,rfl⟩,hk⟩:=hk;exact⟨_,hk,adU⟩
 ·exact hk.elim
def Cn:PSp:=fun xs K=>match xs with
 | [.agg [.int .i64 c,.isl (.rows .i64 ls) .none,.int .i64 s,.isl (.ints .i64 gv) .none]]=>VC (c=9∧ls=L9∧s=15∧gv=G9)∧K (.tup [.int .i64 1,.int .i64 0])
 |_=>False
theorem Sz:POK Tryz.prog 31 Cn:=by
 intro xs K h;unfold Cn at h;split at h
 ·exact⟨_,h.2,(by obtain⟨rfl,rfl,rfl,rfl⟩:=h.1.get;exact adR)⟩
 ·exact h.elim
def Co:PSp:=fun xs K=>match xs with
 | [.agg [.int .i64 c,.isl (.rows .i64 ls) .none,.int .i64 s,.isl (.ints .i64 gv) .none]]=>VC (c=9∧ls=L9∧s=15∧gv=G9)∧K (.tup [.isl (.ints .i64 [6,0,0,0,0]) .none,.int .i64 0])
 |_=>False
theorem SA:POK Tryz.prog 32 Co:=by
 intro xs K h;unfold Co at h;split at h
 ·exact⟨_,h.2,(by obtain⟨rfl,rfl,rfl,rfl⟩:=h.1.get;exact adS)⟩
 ·exact h.elim
def Ip:PSp:=fun xs K=>match xs with
 | [.agg [.int .i64 c,.isl (.rows .i64 ls) .none],.isl (.ints .i64 nv) .none,.isl (.ints .i64 ov) .none,.int .i64 g]=>VC (c=9∧ls=L9∧nv=N9∧ov=O9∧g=1)∧K (.tup [pzV 9 L9 15 [2,7,0,9,0,0,0,0,0],.int .i64 0])
 |_=>False
theorem VF:POK Tryz.prog 53 Ip:=by
 intro xs K h;unfold Ip at h;split at h
 ·exact⟨_,h.2,(by obtain⟨rfl,rfl,rfl,rfl,rfl⟩:=h.1.get;exact aeI)⟩
 ·exact h.elim
def Iq:PSp:=fun xs K=>match xs with
 | [.agg [.int .i64 c,.isl (.rows .i64 ls) .none,.int .i64 s,.isl (.ints .i64 gv) .none],.int .i64 lim]=>VC ((c=9∧ls=L9∧s=15∧gv=G9)∧lim=5)∧K (.tup [.isl (.rows .i64 [N9]) .none,.int .i64 0])
 |_=>False
theorem VG:POK Tryz.prog 39 Iq:=by
 intro xs K h;unfold Iq at h;split at h
 ·exact⟨_,h.2,(by obtain⟨⟨rfl,rfl,rfl,rfl⟩,rfl⟩:=h.1.get;exact aeJ)⟩
 ·exact h.elim
def Cq:PSp:=fun xs K=>match xs with
 | [.agg [.int .i64 c,.isl (.rows .i64 ls) .none,.int .i64 s,.isl (.ints .i64 gv) .none]]=>VC (c=9∧ls=L9∧s=15∧gv=G9)∧K (.tup [.str kQ,.int .i64 0])
 |_=>False
theorem SB:POK Tryz.prog 42 Cq:=by
 intro xs K h;unfold Cq at h;split at h
 ·exact⟨_,h.2,(by obtain⟨rfl,rfl,rfl,rfl⟩:=h.1.get;exact adT)⟩
 ·exact h.elim
def Ir:PSp:=fun xs K=>match xs with
 | [.str s]=>VC (s=kQ)∧K (.tup [pzV 9 L9 15 G9,.int .i64 0,.int .i64 0])
 |_=>False
theorem VH:POK Tryz.prog 44 Ir:=by
 intro xs K h;unfold Ir at h;split at h
 ·exact⟨_,h.2,(by obtain rfl:=h.1.get;exact aeK)⟩
 ·exact h.elim
noncomputable def aeL:CPT:=aA 20 (kT Pn) (aA 21 (kT Im) (aA 30 (kT Cm) (aA 31 (kT Cn) (aA 32 (kT Co) (aA 36 (aB nX) (aA 39 (kT Iq) (aA 42 (kT Cq) (aA 44 (aB Ir) (aA 53 (aB Ip) (aA 63 (kT Io) (aA 84 (aB Ck) (aA 85 (aB VB) noC))))))))))))
theorem VI:aV Tryz.prog aeL:=ak (iV aaV) (ak (iV VD) (ak (iV Sy) (ak (iV Sz) (ak (iV SA) (ak (au qZ) (ak (iV VG) (ak (iV SB) (ak (au VH) (ak (au VF) (ak (iV VE) (ak (au Sw) (ak (au adP) aC))))))))))))
theorem Po:aF Tryz.prog 17 [] (.bp true):=by
 refine bR (md:=1) (rf:=[28]) mixed aj VI Tryz.func17 (by rfl) (by rfl) (by rfl) ?_
 repeat'((conv=>whnf);first|(intro hq;(try simp only[vw]at hq);try first|exact absurd hq (by decide)|exfalso;omega)|apply aI|with_reducible exact vM rfl|exact⟨⟩|apply nM|apply fM)
 all_goals((try apply vM);(try simp only[vq]at*);try omega)
 all_goals(try rfl)
 all_goals(try decide+kernel)
 all_goals(try(exfalso;exact absurd hq (by decide+kernel)))
 have hb:∀b,b=true→Sup (bG ([PV.bp b]++[])) (PV.bp true):=fun b e=>by subst e;exact Sup.of rfl
 exact hb _ (by decide+kernel)
def Iu:PSp:=fun xs K=>match xs with
 | []=>VC (True)∧K (.bp true)
 |_=>False
theorem VJ:POK Tryz.prog 17 Iu:=by
 intro xs K h;unfold Iu at h;split at h
 ·exact⟨_,h.2,Po⟩
 ·exact h.elim
end Go.Eng.YtcechbdgokjmgaaGreatDoor
namespace Go.Eng.YtcechbdgokjmgaaGreatDoor
open Go.Proofs
set_option linter.unusedSimpArgs false
set_option linter.unusedVariables false
set_option maxHeartbeats 0
set_option maxRecDepth 100000
theorem VK (c:Int) (ls:List (List Int)) (sum:Int) (gv:List Int):aF Tryz.prog 19 [pzV c ls sum gv] (pzV c ls sum gv):=by
 refine av (md:=1) (rf:=[]) mixed aj aC Tryz.func19 (by rfl) (by rfl) (by rfl) ?_
 repeat'((conv=>whnf);first|intro _|apply aI|with_reducible exact vM rfl|exact⟨⟩|apply nM|apply fM)
 all_goals((try apply vM);(try simp only[vq]at*);try omega)
 all_goals exact Sup.of rfl
def VL:PSp:=fun xs K=>match xs with
 | [.agg [.int .i64 c,.isl (.rows .i64 ls) .none,.int .i64 sum,.isl (.ints .i64 gv) .none]]=>VC (True)∧K (.agg [.int .i64 c,.isl (.rows .i64 ls) .none,.int .i64 sum,.isl (.ints .i64 gv) .none])
 |_=>False
theorem adV:POK Tryz.prog 19 VL:=by
 intro xs K h;unfold VL at h;split at h
 ·exact⟨_,h.2,VK _ _ _ _⟩
 ·exact h.elim
def shB (ls:List (List Int)) (k n:Nat):Bool:=decide (ls.length≤n)&&ls.all fun l=>decide (l.length≤k)
theorem adW {ls:List (List Int)} {k n:Nat} (h:shB ls k n=true):ls.length≤n∧∀l∈ls,l.length≤k:=by
 unfold shB at h;rw[agE,decide_eq_true_eq,ahP]at h;exact⟨h.1,fun l hl=>of_decide_eq_true (h.2 l hl)⟩
theorem Pp (c:Int) (ls:List (List Int)) (k n:Nat) (hn:n≤1000000):aF Tryz.prog 50 [.agg [.int .i64 c,.isl (.rows .i64 ls) .none],.int .i64 (k:Int),.int .i64 (n:Int)] (.bp (shB ls k n)):=by
 by_cases h1:ls.length≤n
 case neg=>
  rw[show shB ls k n=false by unfold shB;rw[decide_eq_false h1];rfl]
  refine av (md:=1) (rf:=[]) mixed aj aC Tryz.func50 (by rfl) (by rfl) (by rfl) ?_
  repeat'((conv=>whnf);first|(intro hq;(try simp only[vw]at hq);try first|exact absurd hq (by decide)|exfalso;omega)|apply aI|with_reducible exact vM rfl|exact⟨⟩|apply nM|apply fM)
  all_goals((try apply vM);(try simp only[vq]at*);try omega)
  all_goals first|omega|exact cu false|skip
 refine av (md:=1) (rf:=[]) mixed aj aC Tryz.func50 (by rfl) (by rfl) (by rfl) ?_
 repeat'((conv=>whnf);first|(intro hq;(try simp only[vw]at hq);try first|exact absurd hq (by decide)|exfalso;omega)|apply aI|with_reducible exact vM rfl|exact⟨⟩|apply nM|apply fM)
 all_goals((try apply vM);(try simp only[vq]at*);try omega)
 all_goals(try omega)
 conv=>whnf
 refine aJ (X:=Nat) (fun i=>i≤ls.length∧∀j,j<i→(ls.getD j []).length≤k) (fun i=>[(7,.int .i64 i)]) (fun i=>[]) (fun i=>ls.length-i) 0 ⟨aG,mixed,aj,aC,aM⟩ (by rfl) ⟨by omega,fun j hj=>by omega⟩ ?_ ?_
 ·repeat'((conv=>whnf);first|intro _|apply aI|with_reducible exact vM rfl|exact⟨⟩|apply nM|apply fM)
  all_goals((try apply vM);(try simp only[vq]at*);try omega)
 intro i ⟨hi,hok⟩;by_cases hlt:i<ls.length
 ·repeat'((conv=>whnf);first|(intro hq;(try simp only[vw]at hq);try first|exact absurd hq (by decide)|exfalso;omega)|apply aI|with_reducible exact vM rfl|exact⟨⟩|apply nM|apply fM)
  all_goals((try apply vM);(try simp only[vq]at*);try omega)
  all_goals(try omega)
  ·have:shB ls k n=false:=by
    unfold shB;rw[ajA.2 ⟨ls.getD i [],iW hlt,by rw[decide_eq_false (by omega)];simp⟩,aix]
   rw[this];exact cu false
  ·refine⟨i+1,[],⟨⟨by omega,fun j hj=>?_⟩,by omega⟩,?_⟩
   ·by_cases e:j=i
    ·subst e;omega
    ·exact hok j (by omega)
   repeat'((conv=>whnf);first|intro _|apply aI|with_reducible exact vM rfl|exact⟨⟩|apply nM|apply fM)
   all_goals((try apply vM);(try simp only[vq]at*);try omega)
 have e:i=ls.length:=by omega
 subst e;have:shB ls k n=true:=by
  unfold shB;rw[decide_eq_true h1,ai2,ahP];intro l hl;obtain⟨j,hj,rfl⟩:=agx hl;have:=hok j hj;rw[agt,agy hj]at this;exact decide_eq_true this
 rw[this]
 repeat'((conv=>whnf);first|(intro hq;(try simp only[vw]at hq);try first|exact absurd hq (by decide)|exfalso;omega)|apply aI|with_reducible exact vM rfl|exact⟨⟩|apply nM|apply fM)
 all_goals((try apply vM);(try simp only[vq]at*);try omega)
 all_goals first|omega|exact cu true
def AJ:PSp:=fun xs K=>match xs with
 | [.agg [.int .i64 c,.isl (.rows .i64 ls) .none],.int .i64 k,.int .i64 n]=>VC (0≤k∧0≤n∧n≤1000000)∧K (.bp (shB ls k.toNat n.toNat))
 |_=>False
theorem Iw:POK Tryz.prog 50 AJ:=by
 intro xs K hk;unfold AJ at hk;split at hk
 ·rename_i c ls k n
  obtain⟨⟨h1,h2,h3⟩,hk⟩:=hk;obtain⟨k',rfl⟩:∃k':Nat,k=k':=⟨k.toNat,by omega⟩
  obtain⟨n',rfl⟩:∃n':Nat,n=n':=⟨n.toNat,by omega⟩
  exact⟨_,hk,Pp _ _ _ _ (by omega)⟩
 ·exact hk.elim
def Pq (c:Int) (ls:List (List Int)) (k n:Nat):Bool:=shB ls k n&&(decide (jl c ls=0)&&decide (c≤k))
noncomputable def afR:CPT:=aA 50 (aB AJ) (aA 120 (aB EO) noC)
theorem Cr:aV Tryz.prog afR:=ak (au Iw) (ak (au K4) aC)
theorem LC {ls:List (List Int)} {k n:Nat} (h:shB ls k n=true) (hk:k≤5000) (hn:n≤1000000):bH ls:=by
 obtain⟨h1,h2⟩:=adW h;exact⟨by omega,fun l hl=>by have:=h2 l hl;omega⟩
theorem VN (c:Int) (ls:List (List Int)) (k n:Nat) (hk:k≤5000) (hn:n≤1000000):aF Tryz.prog 52 [.agg [.int .i64 c,.isl (.rows .i64 ls) .none],.int .i64 (k:Int),.int .i64 (n:Int)] (.bp (Pq c ls k n)):=by
 unfold Pq;cases h:shB ls k n with
 |false=>
  rw[aiD];refine av (md:=1) (rf:=[]) mixed aj Cr Tryz.func52 (by rfl) (by rfl) (by rfl) ?_
  repeat'((conv=>whnf);first|(intro hq;(try simp only[vw]at hq);try first|exact absurd hq (by decide)|exfalso;omega)|apply aI|with_reducible exact vM rfl|exact⟨⟩|apply nM|apply fM)
  all_goals((try apply vM);(try simp only[vq]at*);try omega)
  all_goals first|omega|exact cu false|exact absurd (hq.symm.trans h) (by decide)|(exfalso;exact absurd (h.symm.trans (‹shB ls _ _=true›)) (by decide))|skip
 |true=>
  have hL:=LC h hk hn;rw[ai2];by_cases h1:jl c ls=0
  ·rw[decide_eq_true h1,ai2]
   refine av (md:=1) (rf:=[]) mixed aj Cr Tryz.func52 (by rfl) (by rfl) (by rfl) ?_
   repeat'((conv=>whnf);first|(intro hq;(try simp only[vw]at hq);try first|exact absurd hq (by decide)|exfalso;omega)|apply aI|with_reducible exact vM rfl|exact⟨⟩|apply nM|apply fM)
   all_goals((try apply vM);(try simp only[vq]at*);try omega)
   all_goals first|omega|exact hL|exact Sup.of rfl|exact absurd (h.symm.trans hq) (by decide)|(exfalso;exact hq h1)|skip
  ·rw[decide_eq_false h1,aiD]
   refine av (md:=1) (rf:=[]) mixed aj Cr Tryz.func52 (by rfl) (by rfl) (by rfl) ?_
   repeat'((conv=>whnf);first|(intro hq;(try simp only[vw]at hq);try first|exact absurd hq (by decide)|exfalso;omega)|apply aI|with_reducible exact vM rfl|exact⟨⟩|apply nM|apply fM)
   all_goals((try apply vM);(try simp only[vq]at*);try omega)
   all_goals first|omega|exact hL|exact cu false|exact absurd (h.symm.trans hq) (by decide)|(exfalso;exact h1 hq)|skip
def VO:PSp:=fun xs K=>match xs with
 | [.agg [.int .i64 c,.isl (.rows .i64 ls) .none],.int .i64 k,.int .i64 n]=>VC ((0≤k∧k≤5000)∧0≤n∧n≤1000000)∧K (.bp (Pq c ls k.toNat n.toNat))
 |_=>False
theorem adX:POK Tryz.prog 52 VO:=by
 intro xs K hk;unfold VO at hk;split at hk
 ·rename_i c ls k n
  obtain⟨⟨h1,h2,h3⟩,hk⟩:=hk;obtain⟨k',rfl⟩:∃k':Nat,k=k':=⟨k.toNat,by omega⟩
  obtain⟨n',rfl⟩:∃n':Nat,n=n':=⟨n.toNat,by omega⟩
  exact⟨_,hk,VN _ _ _ _ (by omega) (by omega)⟩
 ·exact hk.elim
theorem yX {a b:List (List Int)} (hl:a.length=b.length) (h:∀j,j<a.length→a.getD j []=b.getD j []):a=b:=by
 refine aja hl fun j h1 h2=>?_;have:=h j h1
 rwa [agt,agy h1,agt,agy h2]at this
end Go.Eng.YtcechbdgokjmgaaGreatDoor
namespace Go.Eng.YtcechbdgokjmgaaGreatDoor
open Go.Proofs Go.RowKit
set_option linter.unusedSimpArgs false
set_option linter.unusedVariables false
set_option maxHeartbeats 0
set_option maxRecDepth 100000
def oP (p:PSp) (u:PV):PSp:=fun xs K=>p xs (fun v=>VC (Sup v u))∧K u
theorem lT {g:FuncId} {p:PSp} (h:POK Tryz.prog g p) (u:PV):POK Tryz.prog g (oP p u):=by
 intro xs K hk;obtain⟨v,hv,hp⟩:=h _ _ hk.1;exact⟨u,hk.2,gV hp hv.get⟩
theorem bI {a b:Bool} (h:a=b):Sup (.bp a) (.bool b):=⟨fun hr=>by cases hr;subst h;exact .bool _ _⟩
theorem dV {a b:Int} (h:a=b):Sup (.int .i64 a) (.int .i64 b):=Sup.of (by rw[h])
theorem Pt {g:FuncId} {xs ys:List PV} {v:PV} (h:aF Tryz.prog g xs v) (hl:ys.length=xs.length) (hs:∀i,i<ys.length→Sup (aD ys i) (aD xs i)):aF Tryz.prog g ys v:=
 ⟨h.1,fun S w vs hB hI hA=>h.2 S w vs hB hI ⟨hl.symm.trans hA.1,fun i hi=>(hs i (by omega)).get (hA.2 i (by omega))⟩⟩
theorem aaW {S:Imm} {w:World} {ι:Ix} {c:CL} {v:Value} (h:Rep S w ι (.isl (.ints .i64 []) .none) v) (hc:c.cnt=0):Rep S w ι (.isl c .none) v:=by
 cases h with
 |islnil _ _ _ h=>exact .islnil _ _ _ hc
 |isl _ _ _ b off cap h1 hs h hf ho=>exact iQ _ hc (.inr ⟨b,off,rfl⟩) _
end Go.Eng.YtcechbdgokjmgaaGreatDoor
namespace Go.Eng.YtcechbdgokjmgaaGreatDoor
set_option linter.unusedSimpArgs false
set_option linter.unusedVariables false
def sF (g:Int→Int):List Int→Int
 | []=>0
 |x::r=>g x+sF g r
theorem Ct (g:Int→Int):∀(l:List Int) (a:Int),l.foldl (fun a x=>a+g x) a=a+sF g l:=by
 intro l;induction l with
 |nil=>intro a;simp[sF]
 |cons x r ih=>intro a;rw[ajB,ih];simp only[sF];omega
theorem EW {g h:Int→Int}:∀{l:List Int},(∀x∈l,g x≤h x)→sF g l≤sF h l:=by
 intro l;induction l with
 |nil=>intro _;exact ajC _
 |cons x r ih=>
  intro hh;have h1:=hh x (by simp)
  have h2:=ih fun y hy=>hh y (by simp[hy])
  simp only[sF];omega
theorem qC {g h:Int→Int} {l:List Int} (hh:∀x∈l,g x=h x):sF g l=sF h l:=by
 have h1:=EW (g:=g) (h:=h) fun x hx=>by rw[hh x hx];exact ajC _
 have h2:=EW (g:=h) (h:=g) fun x hx=>by rw[hh x hx];exact ajC _
 omega
theorem SC (g h:Int→Int):∀(l:List Int),sF (fun x=>g x+h x) l=sF g l+sF h l:=by
 intro l;induction l with
 |nil=>rfl
 |cons x r ih=>simp only[sF,ih];omega
theorem SE (g:Int→Int) (p:Int→Bool):∀(l:List Int),sF g (l.filter p)=sF (fun x=>if p x then g x else 0) l:=by
 intro l;induction l with
 |nil=>rfl
 |cons x r ih=>
  rw[aji];cases hp:p x with
  |true=>rw[if_pos rfl];simp only[sF,ih,hp];rfl
  |false=>rw[if_neg (by simp)];simp only[sF,ih,hp];simp
theorem aaX:∀(l:List Int),sF (fun _=>0) l=0:=by
 intro l;induction l with
 |nil=>rfl
 |cons x r ih=>simp only[sF,ih];rfl
theorem adY {y a:Int}:∀{l:List Int},l.Pairwise (·< ·)→y∈l→sF (fun x=>if x=y then a else 0) l=a:=by
 intro l;induction l with
 |nil=>intro _ h;simp at h
 |cons x r ih=>
  intro hp hy;have hp':=ahH.1 hp;simp only[sF];by_cases e:x=y
  ·subst e
   have:sF (fun z=>if z=x then a else 0) r=sF (fun _=>0) r:=qC fun z hz=>by
    have:=hp'.1 z hz;rw[if_neg (by omega)]
   rw[if_pos rfl,this,aaX];omega
  ·rw[if_neg e,ih hp'.2 (by rcases ahG.1 hy with h|h;exact absurd h.symm e;exact h)];omega
theorem VP (s:St):∀(l:List Int) (a:Int),l.foldl (fun a x=>if s.dc x.toNat then a-hd0 (s.cd x.toNat)else a) a=a-sF (fun x=>if s.dc x.toNat then hd0 (s.cd x.toNat)else 0) l:=by
 intro l;induction l with
 |nil=>intro a;simp[sF]
 |cons x r ih=>
  intro a;rw[ajB,ih];simp only[sF];split<;>omega
theorem adZ (s:St) (sum:Int) (l:List Int):rst s sum l=sum-sF (fun x=>if s.dc x.toNat then hd0 (s.cd x.toNat)else 0) l:=VP s l sum
theorem aaY (s:St) (o:List Int):iq s o=sF (fun y=>hd0 (s.cd y.toNat)) o:=by
 unfold iq;rw[Ct (fun y=>hd0 (s.cd y.toNat))];omega
theorem aaZ (s:St) (o:List Int):iw s o=sF (fun y=>ls0 (s.cd y.toNat)) o:=by
 unfold iw;rw[Ct (fun y=>ls0 (s.cd y.toNat))];omega
theorem aa0 (N l:List Int):dU N l=sF (fun x=>N.getD x.toNat 0) l:=by
 unfold dU;rw[Ct (fun x=>N.getD x.toNat 0)];omega
theorem SF (s:St) (l:List Int) (but:Int) (g:Int→Int):sF g (opn s l but)=sF (fun x=>if !(s.dc x.toNat)&&decide (x≠but)then g x else 0) l:=by
 unfold opn;exact SE g _ l
theorem jr {s:St} {l:List Int} {but z:Int}:z∈opn s l but↔z∈l∧s.dc z.toNat=false∧z≠but:=by
 unfold opn;rw[aiw];simp
theorem ad1 {s:St} {l:List Int} {but:Int} (h:l.Pairwise (·< ·)):(opn s l but).Pairwise (·< ·):=h.filter _
def ChF (s:St) (o used:List Int) (sum:Int) (h:Int→Int):Prop:=
 (∀y∈o,h y∈s.cd y.toNat∧h y∉used)∧(∀y∈o,∀z∈o,y≠z→h y≠h z)∧sF h o=sum
theorem aa1 (s:St):∀(o used:List Int) (sum:Int),o.Pairwise (·< ·)→(chs s o used sum=true↔∃h,ChF s o used sum h):=by
 intro o;induction o with
 |nil=>
  intro used sum _;simp only[chs,decide_eq_true_eq,ChF];constructor
  ·rintro rfl
   exact⟨fun _=>0,fun y hy=>by simp at hy,fun y hy=>by simp at hy,rfl⟩
  ·rintro⟨h,_,_,h3⟩
   exact h3.symm
 |cons y r ih=>
  intro used sum hp;have hp':=ahH.1 hp;simp only[chs,aiR,aiw,ajn,decide_eq_false_iff_not];constructor
  ·rintro⟨x,⟨hx,hu⟩,hc⟩
   obtain⟨h,h1,h2,h3⟩:=(ih _ _ hp'.2).1 hc;have hne:∀z∈r,z≠y:=fun z hz=>by have:=hp'.1 z hz;omega
   refine⟨fun z=>if z=y then x else h z,fun z hz=>?_,fun z hz w hw hzw=>?_,?_⟩
   ·rcases ahG.1 hz with rfl|hz
    ·simp only[if_true];exact⟨hx,hu⟩
    ·simp only[if_neg (hne z hz)]
     exact⟨(h1 z hz).1,fun hm=>(h1 z hz).2 (by simp[hm])⟩
   ·rcases ahG.1 hz with rfl|hz2<;>rcases ahG.1 hw with rfl|hw2
    ·exact absurd rfl hzw
    ·simp only[if_true,if_neg (hne w hw2)]
     exact fun e=>(h1 w hw2).2 (by simp[←e])
    ·simp only[if_true,if_neg (hne z hz2)]
     exact fun e=>(h1 z hz2).2 (by simp[e])
    ·simp only[if_neg (hne z hz2),if_neg (hne w hw2)]
     exact h2 z hz2 w hw2 hzw
   ·simp only[sF,if_true]
    have:sF (fun z=>if z=y then x else h z) r=sF h r:=qC fun z hz=>by simp only[if_neg (hne z hz)]
    rw[this,h3];omega
  ·rintro⟨h,h1,h2,h3⟩
   refine⟨h y,h1 y (by simp),(ih _ _ hp'.2).2 ⟨h,fun z hz=>⟨(h1 z (by simp[hz])).1,fun hm=>?_⟩,fun z hz w hw=>h2 z (by simp[hz]) w (by simp[hw]),?_⟩⟩
   ·rcases agu.1 hm with hm|hm
    ·exact(h1 z (by simp[hz])).2 hm
    ·have:=hp'.1 z hz
     exact h2 z (by simp[hz]) y (by simp) (by omega) (ai0.1 hm)
   ·simp only[sF]at h3;omega
structure mF (c:Int) (ls:List (List Int)) (sum:Int) (f:List Int):Prop where
 len:(f.length:Int)=c
 nrm:iC f=true
 sum:∀i,i<ls.length→dU f (ls.getD i [])=sum
structure Alw (s:St) (f:List Int):Prop where
 len:s.cs.length=f.length
 mem:∀i,i<f.length→f.getD i 0∈s.cd i
theorem mF.rng {c:Int} {ls:List (List Int)} {sum:Int} {f:List Int} (h:mF c ls sum f) {i:Nat} (hi:i<f.length):1≤f.getD i 0∧f.getD i 0≤c:=by
 have h1:=lS h.nrm (f.getD i 0) (fP hi);have:=h.len;omega
theorem mF.inj {c:Int} {ls:List (List Int)} {sum:Int} {f:List Int} (h:mF c ls sum f) {i j:Nat} (hi:i<f.length) (hj:j<f.length) (e:f.getD i 0=f.getD j 0):i=j:=by
 have hn:=Sn h.nrm;rw[gQ hi,gQ hj]at e;exact(List.getElem_inj hn).1 e
theorem mF.sur {c:Int} {ls:List (List Int)} {sum:Int} {f:List Int} (h:mF c ls sum f) {x:Int} (hx:1≤x∧x≤c):∃i,i<f.length∧f.getD i 0=x:=by
 have hl:=h.len;have h1:x∈d9 f:=by
  rw[Aw h.nrm];exact ai5.2 ⟨(x-1).toNat,ah5.2 (by omega),by omega⟩
 have h2:x∈f:=(aju f _).mem_iff.1 h1;obtain⟨i,hi,rfl⟩:=(dA _ x).1 h2;exact⟨i,hi,rfl⟩
theorem Alw.dec {c:Int} {ls:List (List Int)} {sum:Int} {s:St} {f:List Int} (hB:bB c ls sum s) (hA:Alw s f) {i:Nat} (hi:i<f.length) (hd:s.dc i=true):s.cd i=[f.getD i 0]:=by
 have h1:=hB.dec i (by rw[hA.len];exact hi) hd
 obtain⟨z,hz⟩:=ajD.1 h1;have:=hA.mem i hi;rw[hz,ai0]at this;rw[hz,this]
theorem Iy {c:Int} {ls:List (List Int)} {sum:Int} {s:St} {f:List Int} (hB:bB c ls sum s) (hA:Alw s f) (hf:mF c ls sum f) {k:Nat} (hk:k<ls.length):
 rst s sum (ls.getD k [])=sF (fun x=>if !(s.dc x.toNat)then f.getD x.toNat 0 else 0) (ls.getD k []):=by
 have h1:=hf.sum k hk;rw[aa0]at h1;rw[adZ];have h2:sF (fun x=>f.getD x.toNat 0) (ls.getD k [])=sF (fun x=>(if s.dc x.toNat then hd0 (s.cd x.toNat)else 0)+(if !(s.dc x.toNat)then f.getD x.toNat 0 else 0)) (ls.getD k []):=qC fun x hx=>by
  have hr:=(hB.ln k hk).rng x hx;have hl:=hf.len;cases hd:s.dc x.toNat with
  |true=>
   rw[hA.dec hB (by omega) hd]
   simp[hd0]
  |false=>simp
 rw[SC]at h2;omega
theorem yY {c:Int} {ls:List (List Int)} {sum:Int} {s:St} {f:List Int} (hB:bB c ls sum s) (hA:Alw s f) (hf:mF c ls sum f) {k:Nat} (hk:k<ls.length) {y:Int} (hy:y∈ls.getD k []) (hd:s.dc y.toNat=false):
 rst s sum (ls.getD k [])=f.getD y.toNat 0+sF (fun x=>f.getD x.toNat 0) (opn s (ls.getD k []) y):=by
 rw[Iy hB hA hf hk,SF];have h1:sF (fun x=>if !(s.dc x.toNat)then f.getD x.toNat 0 else 0) (ls.getD k [])=sF (fun x=>(if x=y then f.getD y.toNat 0 else 0)+(if !(s.dc x.toNat)&&decide (x≠y)then f.getD x.toNat 0 else 0)) (ls.getD k []):=qC fun x hx=>by
  by_cases e:x=y
  ·subst e;simp[hd]
  ·simp[e]
 rw[h1,SC,adY (hB.ln k hk).pw hy]
structure Pv (c:Int) (ls:List (List Int)) (g:Nat) (y x k:Int):Prop where
 gg:1≤g∧g≤5
 yy:0≤y∧y<c
 xx:1≤x∧x≤c
 kk:lnG g=true→(0≤k∧k<ls.length)∧y∈ls.getD k.toNat []
theorem AL {g:Nat} {s:St} {sum:Int} {l:List Int} {y x:Int}:okJ g s sum l y x=true↔s.dc y.toNat=false∧x∈s.cd y.toNat∧jst g s sum l y x=true:=by
 unfold okJ;simp
theorem sound {c:Int} {ls:List (List Int)} {sum:Int} {s:St} {f:List Int} (hB:bB c ls sum s) (hA:Alw s f) (hf:mF c ls sum f) {g:Nat} {y x k:Int} (hL:Pv c ls g y x k) (h:okJ g s sum (ls.getD k.toNat []) y x=true):
 g≤3↔f.getD y.toNat 0=x:=by
 obtain⟨hd,hx,hj⟩:=AL.1 h;have hc:=hB.c1;have hfl:=hf.len;have hsl:=hB.cl;have hyf:y.toNat<f.length:=by have:=hL.yy;omega
 have hfy:=hA.mem _ hyf;have hg:=hL.gg;obtain rfl|rfl|rfl|rfl|rfl:g=1∨g=2∨g=3∨g=4∨g=5:=by omega
 ·refine⟨fun _=>?_,fun _=>by omega⟩
  obtain⟨hk,hm⟩:=hL.kk rfl;have:=yY hB hA hf (k:=k.toNat) (by omega) hm hd
  simp only[jst,qc,agE,decide_eq_true_eq]at hj;rw[ajE hj.1]at this;simp only[sF]at this;omega
 ·refine⟨fun _=>?_,fun _=>by omega⟩
  simp only[jst,tV,decide_eq_true_eq]at hj;obtain⟨z,hz⟩:=ajD.1 hj;rw[hz,ai0]at hx hfy;rw[hx,hfy]
 ·refine⟨fun _=>?_,fun _=>by omega⟩
  simp only[jst,l8,ahP,ah5,ahM,decide_eq_true_eq,ajn,decide_eq_false_iff_not]at hj;obtain⟨i,hi,e⟩:=hf.sur hL.xx;have h1:=hA.mem i hi;rw[e]at h1;rcases hj i (by rw[hA.len];exact hi)with h2|h2
  ·rw[←h2];simpa using e
  ·exact absurd h1 h2
 ·refine⟨fun h=>by omega,fun e=>?_⟩
  exfalso
  obtain⟨hk,hm⟩:=hL.kk rfl;have h1:=yY hB hA hf (k:=k.toNat) (by omega) hm hd
  have hr:=fun z (hz:z∈opn s (ls.getD k.toNat []) y)=>(hB.ln k.toNat (by omega)).rng z (jr.1 hz).1
  have hz:=fun z (hz:z∈opn s (ls.getD k.toNat []) y)=>hA.mem z.toNat (by have:=hr z hz;omega)
  have hasc:=fun z (hz:z∈opn s (ls.getD k.toNat []) y)=>(hB.asc z.toNat (by have:=hr z hz;omega)).1.pw
  have h2:iq s (opn s (ls.getD k.toNat []) y)≤sF (fun x=>f.getD x.toNat 0) (opn s (ls.getD k.toNat []) y):=by
   rw[aaY];exact EW fun z hzz=>QZ (hasc z hzz) _ (hz z hzz)
  have h3:sF (fun x=>f.getD x.toNat 0) (opn s (ls.getD k.toNat []) y)≤iw s (opn s (ls.getD k.toNat []) y):=by
   rw[aaZ];exact EW fun z hzz=>Gx (hasc z hzz) _ (hz z hzz)
  simp only[jst,tX,ahM,aiR,decide_eq_true_eq]at hj;rcases hj with⟨z,hzz,e0⟩|hj
  ·have:=hz z hzz
   rw[e0]at this;simp at this
  ·omega
 ·refine⟨fun h=>by omega,fun e=>?_⟩
  exfalso
  obtain⟨hk,hm⟩:=hL.kk rfl;have h1:=yY hB hA hf (k:=k.toNat) (by omega) hm hd
  have hr:=fun z (hz:z∈opn s (ls.getD k.toNat []) y)=>(hB.ln k.toNat (by omega)).rng z (jr.1 hz).1
  simp only[jst,qd,agE,decide_eq_true_eq,ajn]at hj;have:chs s (opn s (ls.getD k.toNat []) y) [x] (rst s sum (ls.getD k.toNat [])-x)=true:=by
   refine(aa1 s _ _ _ (ad1 (hB.ln k.toNat (by omega)).pw)).2 ⟨fun z=>f.getD z.toNat 0,fun z hz=>⟨hA.mem _ (by have:=hr z hz;omega),fun hm=>?_⟩,fun z hz w hw hne e1=>?_,by omega⟩
   ·have h2:=hr z hz
    have:=hf.inj (i:=z.toNat) (j:=y.toNat) (by omega) hyf (by rw[e];exact ai0.1 hm)
    exact(jr.1 hz).2.2 (by have:=hL.yy;omega)
   ·have h2:=hr z hz
    have h3:=hr w hw;have:=hf.inj (i:=z.toNat) (j:=w.toNat) (by omega) (by omega) e1
    omega
  rw[this]at hj;exact absurd hj.2 (by simp)
theorem aa2 {c:Int} {ls:List (List Int)} {sum:Int} {s:St} {f:List Int} (hB:bB c ls sum s) (hA:Alw s f) (hf:mF c ls sum f):brk c ls sum s=false:=by
 have hfl:=hf.len;have hcl:=hB.cl;unfold brk;simp only[Bool.or_eq_false_iff,ajF,ahP,ah5,aiR,aiS,decide_eq_true_eq,agE];refine⟨⟨fun i hi=>?_,fun l hl e=>?_⟩,fun l hl=>?_⟩
 ·obtain⟨j,hj,e⟩:=hf.sur (x:=(i:Int)+1) (by omega)
  have:=hA.mem j hj;rw[e]at this;exact⟨s.cd j,fP (by omega),this⟩
 ·obtain⟨j,hj,rfl⟩:=agx hl
  have:=hA.mem j (by rw[←hA.len];exact hj)
  unfold St.cd at this;rw[agt,agy hj]at this;simp only[Option.getD_some]at this;rw[e]at this;simp at this
 ·rintro⟨h1,h2⟩
  obtain⟨k,hk,rfl⟩:=agx hl;have e:ls[k]=ls.getD k []:=by rw[agt,agy hk];rfl
  rw[e]at h1 h2;rw[Iy hB hA hf hk]at h2;apply h2;have:sF (fun x=>f.getD x.toNat 0) (opn s (ls.getD k []) (-1))=0:=by rw[ajE h1];rfl
  rw[SF]at this;refine Eq.trans ?_ this;refine qC fun x hx=>?_;have:=(hB.ln k hk).rng x hx;have h3:x≠ -1:=by omega
  simp[h3]
structure LeS (t s:St):Prop where
 len:t.cs.length=s.cs.length
 cd:∀i,i<s.cs.length→∀x∈t.cd i,x∈s.cd i
 dc:∀i,i<s.cs.length→s.dc i=true→t.dc i=true
def NeS (t:St):Prop:=∀i,i<t.cs.length→1≤(t.cd i).length
structure TS (c:Int) (ls:List (List Int)) (sum:Int) (t s:St):Prop where
 bt:bB c ls sum t
 it:StI t
 ne:NeS t
 bs:bB c ls sum s
 le:LeS t s
theorem TS.at {c:Int} {ls:List (List Int)} {sum:Int} {t s:St} (h:TS c ls sum t s) {z:Int} (hz:0≤z∧z<c):z.toNat<t.cs.length∧z.toNat<s.cs.length:=by
 have:=h.bt.cl;have:=h.bs.cl;omega
theorem TS.hd {c:Int} {ls:List (List Int)} {sum:Int} {t s:St} (h:TS c ls sum t s) {z:Int} (hz:0≤z∧z<c):hd0 (t.cd z.toNat)∈t.cd z.toNat∧ls0 (t.cd z.toNat)∈t.cd z.toNat∧hd0 (s.cd z.toNat)≤hd0 (t.cd z.toNat)∧ls0 (t.cd z.toNat)≤ls0 (s.cd z.toNat):=by
 obtain⟨h1,h2⟩:=h.at hz;have h3:=h.ne _ h1;have h4:=o7 h3;have h5:=rG h3;exact⟨h4,h5,QZ (h.bs.asc _ h2).1.pw _ (h.le.cd _ h2 _ h4),Gx (h.bs.asc _ h2).1.pw _ (h.le.cd _ h2 _ h5)⟩
theorem TS.dec {c:Int} {ls:List (List Int)} {sum:Int} {t s:St} (h:TS c ls sum t s) {z:Int} (hz:0≤z∧z<c) (hd:s.dc z.toNat=true):t.dc z.toNat=true∧t.cd z.toNat=s.cd z.toNat:=by
 obtain⟨h1,h2⟩:=h.at hz;have h3:=h.le.dc _ h2 hd;refine⟨h3,?_⟩;have h4:=(h.bs.num hz hd).2.2;have h5:=(h.bt.num hz h3).2.2;have h6:=h.le.cd _ h2 _ (h.hd hz).1;rw[h4,ai0]at h6;rw[h5,h4,h6]
theorem TS.opn {c:Int} {ls:List (List Int)} {sum:Int} {t s:St} (h:TS c ls sum t s) {l:List Int} (hl:∀z∈l,0≤z∧z<c) {y z:Int} (hz:z∈opn t l y):z∈opn s l y:=by
 obtain⟨h1,h2,h3⟩:=jr.1 hz;refine jr.2 ⟨h1,?_,h3⟩;cases hd:s.dc z.toNat with
 |false=>rfl
 |true=>rw[(h.dec (hl z h1) hd).1]at h2;cases h2
def mrg (t:St) (h:Int→Int) (z:Int):Int:=if t.dc z.toNat then hd0 (t.cd z.toNat)else h z
theorem TS.ch {c:Int} {ls:List (List Int)} {sum:Int} {t s:St} (h:TS c ls sum t s) {l:List Int} (hl:∀z∈l,0≤z∧z<c) {y x r:Int} (hy:0≤y∧y<c) (hx:x∈t.cd y.toNat)
 {H:Int→Int} (hH:∀z∈l,z≠y→t.dc z.toNat=false→H z∈t.cd z.toNat∧H z≠x) (hd:∀z∈l,∀w∈l,z≠y→w≠y→t.dc z.toNat=false→t.dc w.toNat=false→z≠w→H z≠H w) (hr:sF (mrg t H) (Eng.YtcechbdgokjmgaaGreatDoor.opn s l y)=r):
 ChF s (Eng.YtcechbdgokjmgaaGreatDoor.opn s l y) [x] r (mrg t H):=by
 have inm:∀z∈Eng.YtcechbdgokjmgaaGreatDoor.opn s l y,mrg t H z∈t.cd z.toNat:=fun z hz=>by
  obtain⟨h1,h2,h3⟩:=jr.1 hz;unfold mrg;split
  ·exact(h.hd (hl z h1)).1
  ·rename_i hd
   exact(hH z h1 h3 (by simpa using hd)).1
 have key:∀(z w:Int),0≤z∧z<c→0≤w∧w<c→z≠w→t.dc z.toNat=true→∀v∈t.cd w.toNat,hd0 (t.cd z.toNat)≠v:=fun z w hz hw hne hd v hv e=>by
  have:=h.it z.toNat w.toNat (h.at hz).1 (h.at hw).1 (by omega) hd
  rw[e]at this;exact this hv
 refine⟨fun z hz=>?_,fun z hz w hw hne=>?_,hr⟩
 ·obtain⟨h1,h2,h3⟩:=jr.1 hz
  refine⟨h.le.cd _ (h.at (hl z h1)).2 _ (inm z hz),fun hm=>?_⟩;rw[ai0]at hm;unfold mrg at hm;split at hm
  ·rename_i hd1
   exact key z y (hl z h1) hy h3 hd1 x hx hm
  ·rename_i hd1
   exact(hH z h1 h3 (by simpa using hd1)).2 hm
 ·obtain⟨h1,h2,h3⟩:=jr.1 hz
  obtain⟨w1,w2,w3⟩:=jr.1 hw;cases ez:t.dc z.toNat with
  |true=>
   have:mrg t H z=hd0 (t.cd z.toNat):=by unfold mrg;rw[if_pos ez]
   rw[this];exact key z w (hl z h1) (hl w w1) hne ez _ (inm w hw)
  |false=>
   cases ew:t.dc w.toNat with
   |true=>
    have:mrg t H w=hd0 (t.cd w.toNat):=by unfold mrg;rw[if_pos ew]
    rw[this];exact fun e=>key w z (hl w w1) (hl z h1) (Ne.symm hne) ew _ (inm z hz) e.symm
   |false=>
    have e1:mrg t H z=H z:=by unfold mrg;rw[ez];rfl
    have e2:mrg t H w=H w:=by unfold mrg;rw[ew];rfl
    rw[e1,e2];exact hd z h1 w w1 h3 w3 ez ew hne
structure Unb (c:Int) (ls:List (List Int)) (sum:Int) (t:St):Prop where
 num:∀x:Int,1≤x→x≤c→∃i,i<t.cs.length∧x∈t.cd i
 ne:NeS t
 line:∀k,k<ls.length→opn t (ls.getD k []) (-1)=[]→rst t sum (ls.getD k [])=0
inductive Run (c:Int) (ls:List (List Int)) (sum:Int) (n:Nat):St→St→Prop
 |refl (s:St):Run c ls sum n s s
 |step {s t:St} {g:Nat} {y x k:Int}:Pv c ls g y x k→g≤n→okJ g s sum (ls.getD k.toNat []) y x=true→Run c ls sum n (apl g s y x) t→Run c ls sum n s t
theorem Run.ok {c:Int} {ls:List (List Int)} {sum:Int} {n:Nat} {s t:St} (h:Run c ls sum n s t):bB c ls sum s→StI s→bB c ls sum t∧StI t:=by
 induction h with
 |refl s=>exact fun a b=>⟨a,b⟩
 |step hL _ hj _ ih=>
  intro hB hI;obtain⟨h4,h5,h6⟩:=AL.1 hj;obtain⟨h7,h8⟩:=vZ hB hI hL.yy hL.xx h4 h5;exact ih h7 h8
theorem LeS.refl (s:St):LeS s s:=⟨rfl,fun _ _ _ h=>h,fun _ _ h=>h⟩
theorem LeS.trans {r t s:St} (h:LeS r t) (h':LeS t s):LeS r s:=⟨h.len.trans h'.len,fun i hi x hx=>h'.cd i hi x (h.cd i (by rw[h'.len];exact hi) x hx),fun i hi hd=>h.dc i (by rw[h'.len];exact hi) (h'.dc i hi hd)⟩
theorem ad3 {c:Int} {ls:List (List Int)} {sum:Int} {s:St} (hB:bB c ls sum s) {g:Nat} {y x k:Int} (hL:Pv c ls g y x k) (hj:okJ g s sum (ls.getD k.toNat []) y x=true):LeS (apl g s y x) s:=by
 obtain⟨h4,h5,h6⟩:=AL.1 hj;have hy:=hL.yy;have hcl:=hB.cl;have hdl:=hB.dl;refine⟨xw.1,fun i hi v hv=>?_,fun i hi hd=>?_⟩
 ·rw[RU (by omega) i hi]at hv
  split at hv
  ·split at hv
   ·rename_i e;subst e;rw[ai0.1 hv];exact h5
   ·exact(lF.1 hv).1
  ·split at hv
   ·rename_i e;subst e;exact(lF.1 hv).1
   ·exact hv
 ·rw[RS (by omega)]
  split
  ·rfl
  ·exact hd
theorem Run.le {c:Int} {ls:List (List Int)} {sum:Int} {n:Nat} {s t:St} (h:Run c ls sum n s t):bB c ls sum s→StI s→LeS t s:=by
 induction h with
 |refl s=>exact fun _ _=>.refl s
 |step hL _ hj _ ih=>
  intro hB hI;obtain⟨h4,h5,h6⟩:=AL.1 hj;obtain⟨h7,h8⟩:=vZ hB hI hL.yy hL.xx h4 h5;exact(ih h7 h8).trans (ad3 hB hL hj)
theorem Run.one {c:Int} {ls:List (List Int)} {sum:Int} {n:Nat} {s t:St} {g:Nat} {y x k:Int} (h:Run c ls sum n s t) (hL:Pv c ls g y x k) (hg:g≤n) (hj:okJ g t sum (ls.getD k.toNat []) y x=true):Run c ls sum n s (apl g t y x):=by
 induction h with
 |refl s=>exact .step hL hg hj (.refl _)
 |step a b d _ ih=>exact .step a b d (ih hj)
structure Ends (c:Int) (ls:List (List Int)) (sum:Int) (n:Nat) (s:St) (r:List Dd × St × Int):Prop where
 cases:(∃t,Run c ls sum n s t∧brk c ls sum t=true∧r.2.2=21)∨(Run c ls sum n s r.2.1∧brk c ls sum r.2.1=false∧((don r.2.1=true∧r.2.2=0)∨(don r.2.1=false∧gH r.2.1 sum ls n=none∧r.2.2=23)))
theorem aa3 {c:Int} {ls:List (List Int)} {sum:Int} {gv f:List Int} (h:cZ c ls sum gv) (hf:mF c ls sum f) (hg:∀i,i<gv.length→0<gv.getD i 0→gv.getD i 0=f.getD i 0):Alw (bgn c gv) f:=by
 have hl:=h.gl;have hfl:=hf.len;have hc:=h.c1;refine⟨by rw[jG.1];omega,fun i hi=>?_⟩
 have hig:i<gv.length:=by omega
 rw[Hr hig];split
 ·rename_i h0
  rw[hg i hig h0];simp
 ·rename_i h0
  refine(xu (by omega)).2 ⟨hf.rng hi,fun hm=>?_⟩
  obtain⟨j,hj,e⟩:=(dA _ _).1 hm;have h1:=hf.rng hi;have h2:=hg j hj (by omega)
  have:=hf.inj hi (by omega) (e.symm.trans h2)
  subst this;omega
end Go.Eng.YtcechbdgokjmgaaGreatDoor
namespace Go.Eng.YtcechbdgokjmgaaGreatDoor
open Go.Proofs
set_option linter.unusedSimpArgs false
set_option linter.unusedVariables false
set_option maxHeartbeats 0
set_option maxRecDepth 100000
theorem cZ.set0 {c:Int} {ls:List (List Int)} {sum:Int} {gv:List Int} (h:cZ c ls sum gv) (k:Nat):cZ c ls sum (gv.set k 0):=by
 have hc:=h.c1;have ha:∀i,(gv.set k 0).getD i 0=if i=k then 0 else gv.getD i 0:=fun i=>by
  rw[agt,agR];by_cases e:k=i
  ·subst e;rw[if_pos rfl,if_pos rfl];split<;>rfl
  ·rw[if_neg e,if_neg (fun e'=>e e'.symm),←agt]
 refine⟨h.c1,h.ll,h.ln,h.sm,by rw[agT];exact h.gl,fun x hx=>?_,fun i j hij hj hpos e=>?_⟩
 ·obtain⟨i,hi,rfl⟩:=(dA _ x).1 hx
  rw[agT]at hi;rw[ha];split
  ·omega
  ·exact h.gr _ (fP hi)
 ·rw[agT]at hj
  rw[ha]at hpos;rw[ha,ha]at e;by_cases e1:j=k
  ·rw[if_pos e1]at hpos;omega
  ·rw[if_neg e1]at hpos e
   by_cases e2:i=k
   ·rw[if_pos e2]at e;omega
   ·rw[if_neg e2]at e;exact h.gd i j hij hj hpos e
def mH (c:Int) (ls:List (List Int)) (sum:Int) (gv:List Int) (g:Nat):Bool:=
 (agr gv.length).all fun i=>decide (gv.getD i 0=0)||decide ((sol c ls sum (gv.set i 0) g).2.2≠0)
def wH (c:Int) (ls:List (List Int)) (sum:Int) (gv:List Int) (g:Int):Bool × Int:=
 if aL [pzE c ls sum gv,fJ g]≠0 then(false,aL [pzE c ls sum gv,fJ g])else if(sol c ls sum gv g.toNat).2.2≠0 then(false,23)else(mH c ls sum gv g.toNat,0)
noncomputable def afS:CPT:=aA 22 (aB l9) (aA 88 (aB jE) (aA 98 (aB nY) (aA 99 (jV wo) (aA 124 (eG [] ET) noC))))
theorem rX:aV Tryz.prog afS:=ak (au lC) (ak (au iX) (ak (au q9) (ak (gW yR) (ak (dF [] Lx) aC))))
theorem AP {c:Int} {ls:List (List Int)} {sum:Int} {gv:List Int} {g i:Nat} (hi:i<gv.length) (h0:gv.getD i 0≠0) (h:(sol c ls sum (gv.set i 0) g).2.2=0):mH c ls sum gv g=false:=by
 unfold mH;rw[ajA];exact⟨i,ah5.2 hi,by rw[decide_eq_false h0,h];decide⟩
theorem Cu (c:Int) (ls:List (List Int)) (sum:Int) (gv:List Int) (g:Int) (h:bH ls) (hgl:gv.length≤5000):
 aF Tryz.prog 58 [pzV c ls sum gv,.int .i64 g] (.tup [.bp (wH c ls sum gv g).1,.int .i64 (wH c ls sum gv g).2]):=by
 unfold wH;by_cases h1:aL [pzE c ls sum gv,fJ g]=0
 case neg=>
  rw[if_pos h1];refine av (md:=1) (rf:=[]) mixed aj rX Tryz.func58 (by rfl) (by rfl) (by rfl) ?_
  repeat'((conv=>whnf);first|(intro hq;(try simp only[vw]at hq);try first|exact absurd hq (by decide)|exfalso;omega)|apply aI|with_reducible exact vM rfl|exact⟨⟩|apply nM|apply fM)
  all_goals((try apply vM);(try simp only[vq]at*);try omega)
  all_goals first|exact⟨h,hgl⟩|exact rT _ _|(exfalso;exact h1 (by assumption))|(exfalso;contradiction)|skip
 rw[if_neg (by rw[h1];simp)]
 obtain⟨he,hgr⟩:=yS h1;have hp:=cZ.of he;have hg5:=Dv hgr;have hc:=hp.c1;have hll:=hp.ll;have hgl':=hp.gl;have hcond:∀gw:List Int,gw.length=gv.length→(1≤gw.length∧gw.length≤1000000)∧ls.length≤5000∧∀i,i<ls.length→1≤(ls.getD i []).length∧(ls.getD i []).length≤5000:=fun gw e=>⟨by omega,by omega,fun i hi=>by have:=hp.ln i hi;have:=this.ne;have:=(hp.ln i hi).len;omega⟩
 cases ho:fO (sol c ls sum gv g.toNat)with
 |none=>
  have he2:(sol c ls sum gv g.toNat).2.2≠0:=by
   unfold fO at ho;by_cases e:(sol c ls sum gv g.toNat).2.2=21
   ·rw[e];decide
   ·rw[if_neg e]at ho;cases ho
  rw[if_pos he2];refine av (md:=1) (rf:=[]) mixed aj rX Tryz.func58 (by rfl) (by rfl) (by rfl) ?_
  repeat'((conv=>whnf);first|refine Exists.intro (none) ?_|(intro hq;(try simp only[vw]at hq);try first|exact absurd hq (by decide)|exfalso;omega)|apply aI|with_reducible exact vM rfl|exact⟨⟩|apply nM|apply fM)
  all_goals((try apply vM);(try simp only[vq]at*);try omega)
  all_goals first|exact⟨h,hgl⟩|exact⟨hp,by omega,ho⟩|exact rT _ _|(exfalso;exact(‹_≠(0:Int)›) h1)|(exfalso;contradiction)|skip
 |some r=>
  have hr:sol c ls sum gv g.toNat=r:=by
   unfold fO at ho;by_cases e:(sol c ls sum gv g.toNat).2.2=21
   ·rw[if_pos e]at ho;cases ho
   ·rw[if_neg e]at ho;exact Option.some.inj ho
  rw[hr];by_cases h2:r.2.2=0
  case neg=>
   rw[if_pos h2];refine av (md:=1) (rf:=[]) mixed aj rX Tryz.func58 (by rfl) (by rfl) (by rfl) ?_
   repeat'((conv=>whnf);first|refine Exists.intro (some r) ?_|(intro hq;(try simp only[vw]at hq);try first|exact absurd hq (by decide)|exfalso;omega)|apply aI|with_reducible exact vM rfl|exact⟨⟩|apply nM|apply fM)
   all_goals((try apply vM);(try simp only[vq]at*);try omega)
   all_goals first|exact⟨h,hgl⟩|exact⟨hp,by omega,ho⟩|exact rT _ _|(exfalso;exact(‹_≠(0:Int)›) h1)|(exfalso;contradiction)|skip
  rw[if_neg (by rw[h2];simp)]
  refine av (md:=1) (rf:=[]) mixed aj rX Tryz.func58 (by rfl) (by rfl) (by rfl) ?_
  repeat'((conv=>whnf);first|refine Exists.intro (some r) ?_|(intro hq;(try simp only[vw]at hq);try first|exact absurd hq (by decide)|exfalso;omega)|apply aI|with_reducible exact vM rfl|exact⟨⟩|apply nM|apply fM)
  all_goals((try apply vM);(try simp only[vq]at*);try omega)
  all_goals(try first|exact⟨h,hgl⟩|exact⟨hp,by omega,ho⟩|(exfalso;exact(‹_≠(0:Int)›) h1)|(exfalso;contradiction))
  conv=>whnf
  refine aJ (X:=Nat) (fun i=>i≤gv.length∧∀j,j<i→(decide (gv.getD j 0=0)||decide ((sol c ls sum (gv.set j 0) g.toNat).2.2≠0))=true) (fun i=>[(37,.int .i64 i)]) (fun i=>[]) (fun i=>gv.length-i) 0 ⟨aG,mixed,aj,rX,aM⟩ (by rfl) ⟨by omega,fun j hj=>by omega⟩ ?_ ?_
  ·repeat'((conv=>whnf);first|intro _|apply aI|with_reducible exact vM rfl|exact⟨⟩|apply nM|apply fM)
   all_goals((try apply vM);(try simp only[vq]at*);try omega)
  intro i ⟨hi,hall⟩;by_cases hlt:i<gv.length
  ·by_cases h0:gv.getD i 0=0
   ·repeat'((conv=>whnf);first|(intro hq;(try simp only[vw]at hq);try first|exact absurd hq (by decide)|exfalso;omega)|apply aI|with_reducible exact vM rfl|exact⟨⟩|apply nM|apply fM)
    all_goals((try apply vM);(try simp only[vq]at*);try omega)
    all_goals(try omega)
    refine⟨i+1,[],⟨⟨by omega,fun j hj=>?_⟩,by omega⟩,?_⟩
    ·by_cases e:j=i
     ·subst e;rw[decide_eq_true h0];rfl
     ·exact hall j (by omega)
    repeat'((conv=>whnf);first|intro _|apply aI|with_reducible exact vM rfl|exact⟨⟩|apply nM|apply fM)
    all_goals((try apply vM);(try simp only[vq]at*);try omega)
   have hpi:=hp.set0 i;have hl2:(gv.set i 0).length=gv.length:=agT ..;have tk:aiW (gv.length-0) (aiX 0 (gv.set i 0))=gv.set i 0:=bP hl2;cases ho2:fO (sol c ls sum (gv.set i 0) g.toNat)with
   |none=>
    have he3:(sol c ls sum (gv.set i 0) g.toNat).2.2≠0:=by
     unfold fO at ho2;by_cases e:(sol c ls sum (gv.set i 0) g.toNat).2.2=21
     ·rw[e];decide
     ·rw[if_neg e]at ho2;cases ho2
    repeat'((conv=>whnf);first|refine Exists.intro (none) ?_|(intro hq;(try simp only[vw]at hq);try first|exact absurd hq (by decide)|exfalso;omega)|apply aI|with_reducible exact vM rfl|exact⟨⟩|apply nM|apply fM)
    all_goals((try apply vM);(try simp only[vq]at*);try omega)
    all_goals(try first|exact hcond _ rfl|exact⟨by rw[tk];exact hpi,by omega,by rw[tk];exact ho2⟩|omega)
    refine⟨i+1,[],⟨⟨by omega,fun j hj=>?_⟩,by omega⟩,?_⟩
    ·by_cases e:j=i
     ·subst e;rw[decide_eq_true he3,ajG]
     ·exact hall j (by omega)
    repeat'((conv=>whnf);first|intro _|apply aI|with_reducible exact vM rfl|exact⟨⟩|apply nM|apply fM)
    all_goals((try apply vM);(try simp only[vq]at*);try omega)
   |some r2=>
    have hr2:sol c ls sum (gv.set i 0) g.toNat=r2:=by
     unfold fO at ho2;by_cases e:(sol c ls sum (gv.set i 0) g.toNat).2.2=21
     ·rw[if_pos e]at ho2;cases ho2
     ·rw[if_neg e]at ho2;exact Option.some.inj ho2
    repeat'((conv=>whnf);first|refine Exists.intro (some r2) ?_|(intro hq;(try simp only[vw]at hq);try first|exact absurd hq (by decide)|exfalso;omega)|apply aI|with_reducible exact vM rfl|exact⟨⟩|apply nM|apply fM)
    all_goals((try apply vM);(try simp only[vq]at*);try omega)
    all_goals(try first|exact hcond _ rfl|exact⟨by rw[tk];exact hpi,by omega,by rw[tk];exact ho2⟩|omega)
    all_goals(try(rw[AP hlt h0 (by rw[hr2];assumption)];exact rT _ _))
    refine⟨i+1,[],⟨⟨by omega,fun j hj=>?_⟩,by omega⟩,?_⟩
    ·by_cases e:j=i
     ·subst e;rw[hr2,decide_eq_true (p:=r2.2.2≠0) (by assumption),ajG]
     ·exact hall j (by omega)
    repeat'((conv=>whnf);first|intro _|apply aI|with_reducible exact vM rfl|exact⟨⟩|apply nM|apply fM)
    all_goals((try apply vM);(try simp only[vq]at*);try omega)
  have e:i=gv.length:=by omega
  subst e;have ht:mH c ls sum gv g.toNat=true:=by
   unfold mH;rw[ahP];exact fun j hj=>hall j (ah5.1 hj)
  rw[ht]
  repeat'((conv=>whnf);first|(intro hq;(try simp only[vw]at hq);try first|exact absurd hq (by decide)|exfalso;omega)|apply aI|with_reducible exact vM rfl|exact⟨⟩|apply nM|apply fM)
  all_goals((try apply vM);(try simp only[vq]at*);try omega)
  all_goals first|omega|exact rT _ _|skip
end Go.Eng.YtcechbdgokjmgaaGreatDoor
namespace Go.Eng.YtcechbdgokjmgaaGreatDoor
set_option linter.unusedSimpArgs false
set_option linter.unusedVariables false
def okP (ls:List (List Int)) (sum:Int) (f:List Int):Bool:=ls.all fun l=>!decide (l.getD (l.length-1) 0<f.length)||decide (dU f l=sum)
theorem ad4 {l:List Int} (hp:l.Pairwise (·< ·)) {a:Int} (ha:∀x∈l,a≤x):∀i,i<l.length→a+i≤l.getD i 0:=by
 intro i;induction i with
 |zero=>intro hi;have:=ha _ (fP (d:=(0:Int)) hi);omega
 |succ i ih=>
  intro hi;have h1:=ih (by omega)
  have h2:=ajr.1 hp i (i+1) (by omega) hi (by omega)
  rw[gQ (show i<l.length by omega)]at h1
  rw[gQ hi];omega
theorem ad5 {l:List Int} (hp:l.Pairwise (·< ·)) {b:Int} (hb:∀x∈l,x≤b):∀d i,i+d+1=l.length→l.getD i 0+d≤b:=by
 intro d;induction d with
 |zero=>intro i hi;have:=hb _ (fP (l:=l) (d:=(0:Int)) (show i<l.length by omega));omega
 |succ d ih=>
  intro i hi;have h1:=ih (i+1) (by omega)
  have h2:=ajr.1 hp i (i+1) (by omega) (by omega) (by omega)
  rw[gQ (show i+1<l.length by omega)]at h1
  rw[gQ (show i<l.length by omega)];omega
theorem ad6 {F:List Int} (hn:F.Nodup) (hr:∀x∈F,1≤x∧x≤F.length):iC F=true:=by
 have hp:(d9 F).Perm F:=aju F _;have hs:(d9 F).Pairwise (·≤ ·):=by
  have:=List.pairwise_mergeSort (le:=fun x y:Int=>decide (x≤y)) (fun a b c h1 h2=>by simp at*;omega) (fun a b=>by simp;omega) F
  exact this.imp fun h=>by simpa using h
 have hs2:(d9 F).Pairwise (·< ·):=by
  have hn2:(d9 F).Pairwise (·≠ ·):=hp.nodup_iff.2 hn;exact hs.imp₂ (fun a b h1 h2=>by omega) hn2
 have hlo:=ad4 hs2 (a:=1) fun x hx=>(hr x (hp.mem_iff.1 hx)).1;have hhi:=ad5 hs2 (b:=F.length) fun x hx=>(hr x (hp.mem_iff.1 hx)).2;refine Dw fun i hi=>?_;have h1:=hlo i (by rw[jU];exact hi)
 have h2:=hhi (F.length-1-i) i (by rw[jU];omega)
 omega
structure af6 (c:Int) (ls:List (List Int)) (sum:Int) (gv F:List Int):Prop where
 s:mF c ls sum F
 g:∀i,i<gv.length→0<gv.getD i 0→gv.getD i 0=F.getD i 0
structure SrJ (c:Int) (ls:List (List Int)) (sum:Int) (gv:List Int) (f:Nat) (N U:List Int):Prop where
 fl:f≤gv.length
 nl:N.length=gv.length
 tl:∀j,gv.length-f≤j→j<gv.length→N.getD j 0=gv.getD j 0
 us:∀x:Int,1≤x→(x∈U↔x∈gv∨x∈N.take (gv.length-f))
 gd:∀i,i<gv.length-f→(0<gv.getD i 0→N.getD i 0=gv.getD i 0)∧(gv.getD i 0=0→N.getD i 0∉gv)
 pv:1≤gv.length-f→okP ls sum (N.take (gv.length-f-1))=true
end Go.Eng.YtcechbdgokjmgaaGreatDoor
namespace Go.Eng.YtcechbdgokjmgaaGreatDoor
open Go.Proofs
set_option linter.unusedSimpArgs false
set_option linter.unusedVariables false
set_option maxHeartbeats 0
set_option maxRecDepth 100000
theorem J7 (l f:List Int) (h:l.length≤1000) (hl:∀x∈l,0≤x∧x<f.length) (hf:∀x∈f,0≤x∧x≤16):aF Tryz.prog 119 [.isl (.ints .i64 l) .none,.isl (.ints .i64 f) .none] (.int .i64 (dU f l)):=by
 refine av (md:=1) (rf:=[]) mixed aj aC Tryz.func119 (by rfl) (by rfl) (by rfl) ?_
 repeat'((conv=>whnf);first|(intro hq;(try simp only[vw]at hq);try first|exact absurd hq (by decide)|exfalso;omega)|apply aI|with_reducible exact vM rfl|exact⟨⟩|apply nM|apply fM)
 all_goals((try apply vM);(try simp only[vq]at*);try omega)
 conv=>whnf
 refine aJ (X:=Nat) (fun i=>i≤l.length) (fun i=>[(6,.int .i64 i),(5,.int .i64 (dU f (l.take i)))]) (fun i=>[]) (fun i=>l.length-i) 0 ⟨aG,mixed,aj,aC,aM⟩ (by rfl) (by omega) ?_ ?_
 ·repeat'((conv=>whnf);first|intro _|apply aI|with_reducible exact vM rfl|exact⟨⟩|apply nM|apply fM)
  all_goals((try apply vM);(try simp only[vq]at*);try omega)
  all_goals rfl
 intro i hi;have hbd:=nC hf (l.take i);rw[ag6]at hbd;by_cases hlt:i<l.length
 ·have hx:=hl _ (fP (d:=(0:Int)) hlt)
  have hxl:(l.getD i 0).toNat<f.length:=by omega
  have hfx:=hf _ (fP (d:=(0:Int)) hxl);have hap:=yT f (l.take i) (l.getD i 0);rw[←bX hlt]at hap
  repeat'((conv=>whnf);first|(intro hq;(try simp only[vw]at hq);try first|exact absurd hq (by decide)|exfalso;omega)|apply aI|with_reducible exact vM rfl|exact⟨⟩|apply nM|apply fM)
  all_goals((try apply vM);(try simp only[vq]at*);try omega)
  all_goals(try omega)
  refine⟨i+1,[],⟨by omega,by omega⟩,?_⟩
  rw[hap]
  repeat'((conv=>whnf);first|intro _|apply aI|with_reducible exact vM rfl|exact⟨⟩|apply nM|apply fM)
  all_goals((try apply vM);(try simp only[vq]at*);try omega)
 ·have:i=l.length:=by omega
  subst this;rw[ail]
  repeat'((conv=>whnf);first|(intro hq;(try simp only[vw]at hq);try first|exact absurd hq (by decide)|exfalso;omega)|apply aI|with_reducible exact vM rfl|exact⟨⟩|apply nM|apply fM)
  all_goals((try apply vM);(try simp only[vq]at*);try omega)
  all_goals(try first|omega|exact Sup.of rfl)
def xC:PSp:=fun xs K=>match xs with
 | [.isl (.ints .i64 l) .none,.isl (.ints .i64 f) .none]=>VC (l.length≤1000∧(∀x∈l,0≤x∧x<f.length)∧∀x∈f,0≤x∧x≤16)∧K (.int .i64 (dU f l))
 |_=>False
theorem Dy:POK Tryz.prog 119 xC:=by
 intro xs K h;unfold xC at h;split at h
 ·exact⟨_,h.2,J7 _ _ h.1.get.1 h.1.get.2.1 h.1.get.2.2⟩
 ·exact h.elim
def eH (f:List Int) (ls:List (List Int)):List Int:=ls.map (dU f)
noncomputable def afT:CPT:=aA 119 (aB xC) noC
theorem LD:aV Tryz.prog afT:=ak (au Dy) aC
theorem Pw (c:Int) (ls:List (List Int)) (f:List Int) (hl:ls.length≤1000) (h:∀i,i<ls.length→(ls.getD i []).length≤1000∧∀x∈ls.getD i [],0≤x∧x<f.length) (hf:∀x∈f,0≤x∧x≤16):aF Tryz.prog 170 [.agg [.int .i64 c,.isl (.rows .i64 ls) .none],.isl (.ints .i64 f) .none] (.isl (.ints .i64 (eH f ls)) .none):=by
 refine av (md:=1) (rf:=[]) mixed aj LD Tryz.func170 (by rfl) (by rfl) (by rfl) ?_
 repeat'((conv=>whnf);first|(intro hq;(try simp only[vw]at hq);try first|exact absurd hq (by decide)|exfalso;omega)|apply aI|with_reducible exact vM rfl|exact⟨⟩|apply nM|apply fM)
 all_goals((try apply vM);(try simp only[vq]at*);try omega)
 conv=>whnf
 refine aJ (X:=Nat) (fun i=>i≤ls.length) (fun i=>[(6,.int .i64 i),(5,.isl (.ints .i64 (eH f (ls.take i))) (.own 20))]) (fun i=>[(20,.tok 1 i)]) (fun i=>ls.length-i) 0 ⟨aG,mixed,aj,LD,aM⟩ (by rfl) (by omega) ?_ ?_
 ·repeat'((conv=>whnf);first|intro _|apply aI|with_reducible exact vM rfl|exact⟨⟩|apply nM|apply fM)
  all_goals((try apply vM);(try simp only[vq]at*);try omega)
  all_goals(try rfl)
 intro i hi;have hsl:(eH f (ls.take i)).length=i:=by unfold eH;rw[aif,ag6];omega
 by_cases hlt:i<ls.length
 ·have hh:=h i hlt
  have hs:eH f (ls.take (i+1))=eH f (ls.take i)++[dU f (ls.getD i [])]:=by
   unfold eH;rw[aij,agt,agy hlt,aik];rfl
  repeat'((conv=>whnf);first|(intro hq;(try simp only[vw]at hq);try first|exact absurd hq (by decide)|exfalso;omega)|apply aI|with_reducible exact vM rfl|exact⟨⟩|apply nM|apply fM)
  all_goals((try apply vM);(try simp only[vq]at*);try omega)
  all_goals(try first|omega|exact⟨hh.1,hh.2,hf⟩|(rw[ahx,ajH];omega))
  refine⟨i+1,[],⟨by omega,by omega⟩,?_⟩
  rw[hs]
  repeat'((conv=>whnf);first|intro _|apply aI|with_reducible exact vM rfl|exact⟨⟩|apply nM|apply fM)
  all_goals((try apply vM);(try simp only[vq]at*);try omega)
 ·have:i=ls.length:=by omega
  subst this;rw[ail]
  repeat'((conv=>whnf);first|(intro hq;(try simp only[vw]at hq);try first|exact absurd hq (by decide)|exfalso;omega)|apply aI|with_reducible exact vM rfl|exact⟨⟩|apply nM|apply fM)
  all_goals((try apply vM);(try simp only[vq]at*);try omega)
  all_goals(try first|omega|exact Sup.of rfl)
def Iz:PSp:=fun xs K=>match xs with
 | [.agg [.int .i64 c,.isl (.rows .i64 ls) .none],.isl (.ints .i64 f) .none]=>VC (ls.length≤1000∧(∀i,i<ls.length→(ls.getD i []).length≤1000∧∀x∈ls.getD i [],0≤x∧x<f.length)∧∀x∈f,0≤x∧x≤16)∧K (.isl (.ints .i64 (eH f ls)) .none)
 |_=>False
theorem VQ:POK Tryz.prog 170 Iz:=by
 intro xs K h;unfold Iz at h;split at h
 ·exact⟨_,h.2,Pw _ _ _ h.1.get.1 h.1.get.2.1 h.1.get.2.2⟩
 ·exact h.elim
def nO (l:List Int):Bool:=l.all fun x=>decide (x=l.getD 0 0)
def VR (b:Bool):PSp:=fun xs K=>match xs with
 | [.agg [.int .i64 c,.isl (.rows .i64 ls) .none],.isl (.ints .i64 f) .none]=>VC (ls.length≤1000∧(∀i,i<ls.length→(ls.getD i []).length≤1000∧∀x∈ls.getD i [],0≤x∧x<f.length)∧(∀x∈f,0≤x∧x≤16)∧nO (eH f ls)=b)∧∀i:Int,VC (-1≤i∧i≤1000∧decide (i<0)=b)→K (.int .i64 i)
 |_=>False
theorem VT (c:Int) (ls:List (List Int)) (f:List Int) (hl:ls.length≤1000) (h:∀i,i<ls.length→(ls.getD i []).length≤1000∧∀x∈ls.getD i [],0≤x∧x<f.length) (hf:∀x∈f,0≤x∧x≤16):∃j:Int,(-1≤j∧j≤1000∧decide (j<0)=nO (eH f ls))∧aF Tryz.prog 125 [.agg [.int .i64 c,.isl (.rows .i64 ls) .none],.isl (.ints .i64 f) .none] (.int .i64 j):=by
 obtain⟨S,hS⟩:∃S,eH f ls=S:=⟨_,rfl⟩;have hSl:S.length=ls.length:=by rw[←hS];simp[eH]
 rw[hS];have key:(∃j:Nat,j<S.length∧S.getD j 0≠S.getD 0 0∧∀k,k<j→S.getD k 0=S.getD 0 0)∨∀k,k<S.length→S.getD k 0=S.getD 0 0:=by
  by_cases hall:∀k,k<S.length→S.getD k 0=S.getD 0 0
  ·exact .inr hall
  ·left
   obtain⟨k,hk⟩:=ajI.1 hall;have hk1:=(ajJ.1 hk);have main:∀n,(∀k,k<n→k<S.length→S.getD k 0=S.getD 0 0)∨∃j:Nat,j<S.length∧S.getD j 0≠S.getD 0 0∧∀k,k<j→S.getD k 0=S.getD 0 0:=by
    intro n;induction n with
    |zero=>exact .inl fun k h=>by omega
    |succ n ih=>
     rcases ih with a|a
     ·by_cases q:n<S.length∧S.getD n 0≠S.getD 0 0
      ·exact .inr ⟨n,q.1,q.2,fun k h=>a k h (by omega)⟩
      ·refine .inl fun k h1 h2=>?_
       by_cases e:k=n
       ·subst e;exact aha.1 fun r=>q ⟨h2,r⟩
       ·exact a k (by omega) h2
     ·exact .inr a
   rcases main S.length with a|a
   ·exact absurd (a k hk1.1 hk1.1) hk1.2
   ·exact a
 have hst:eH f ls=S:=hS;have sums:Sup (.isl (.ints .i64 (eH f ls)) .none) (.isl (.ints .i64 S) .none):=by rw[hS];exact bO _
 have hC:aV Tryz.prog (aA 170 (aB fun xs K=>Iz xs (fun v=>VC (Sup v (.isl (.ints .i64 S) .none)))∧K (.isl (.ints .i64 S) .none)) noC):=ak (au (fun xs K hk=>by
  obtain⟨v,hv,hp⟩:=VQ _ _ hk.1;exact⟨_,hk.2,gV hp hv.get⟩)) aC
 rcases key with⟨j,j1,j2,j3⟩|hall
 ·refine⟨(j:Int),⟨by omega,by omega,?_⟩,?_⟩
  ·rw[decide_eq_false (by omega)]
   unfold nO;exact(ajA.2 ⟨_,fP (d:=(0:Int)) j1,by rw[decide_eq_false j2];simp⟩).symm
  refine av (md:=1) (rf:=[]) mixed aj hC Tryz.func125 (by rfl) (by rfl) (by rfl) ?_
  repeat'((conv=>whnf);first|(intro hq;(try simp only[vw]at hq);try first|exact absurd hq (by decide)|exfalso;omega)|apply aI|with_reducible exact vM rfl|exact⟨⟩|apply nM|apply fM)
  all_goals((try apply vM);(try simp only[vq]at*);try omega)
  all_goals(try first|exact⟨hl,h,hf⟩|exact sums)
  conv=>whnf
  refine aJ (X:=Nat) (fun i=>i≤j) (fun i=>[(6,.int .i64 i)]) (fun i=>[]) (fun i=>j-i) 0 ⟨aG,mixed,aj,hC,aM⟩ (by rfl) (by omega) ?_ ?_
  ·repeat'((conv=>whnf);first|intro _|apply aI|with_reducible exact vM rfl|exact⟨⟩|apply nM|apply fM)
   all_goals((try apply vM);(try simp only[vq]at*);try omega)
  intro i hi;by_cases hij:i=j
  ·subst hij
   have j2':S.getD i 0≠S.getD (aiI 0) 0:=j2
   repeat'((conv=>whnf);first|(intro hq;(try simp only[vw]at hq);try first|exact absurd hq (by decide)|exfalso;omega)|apply aI|with_reducible exact vM rfl|exact⟨⟩|apply nM|apply fM)
   all_goals((try apply vM);(try simp only[vq]at*);try omega)
   all_goals(try first|omega|exact Sup.of rfl|(exfalso;exact hq j2'))
   all_goals(try(exfalso;omega))
  ·have:=j3 i (by omega)
   have j3':S.getD i 0=S.getD (aiI 0) 0:=this
   repeat'((conv=>whnf);first|(intro hq;(try simp only[vw]at hq);try first|exact absurd hq (by decide)|exfalso;omega)|apply aI|with_reducible exact vM rfl|exact⟨⟩|apply nM|apply fM)
   all_goals((try apply vM);(try simp only[vq]at*);try omega)
   all_goals(try first|omega|(exfalso;exact hq j3'))
   refine⟨i+1,[],⟨by omega,by omega⟩,?_⟩
   repeat'((conv=>whnf);first|intro _|apply aI|with_reducible exact vM rfl|exact⟨⟩|apply nM|apply fM)
   all_goals((try apply vM);(try simp only[vq]at*);try omega)
 ·refine⟨-1,⟨by omega,by omega,?_⟩,?_⟩
  ·rw[decide_eq_true (by omega)]
   unfold nO;refine(ahP.2 fun x hx=>?_).symm;obtain⟨k,hk,rfl⟩:=(dA S x).1 hx;exact decide_eq_true (hall k hk)
  refine av (md:=1) (rf:=[]) mixed aj hC Tryz.func125 (by rfl) (by rfl) (by rfl) ?_
  repeat'((conv=>whnf);first|(intro hq;(try simp only[vw]at hq);try first|exact absurd hq (by decide)|exfalso;omega)|apply aI|with_reducible exact vM rfl|exact⟨⟩|apply nM|apply fM)
  all_goals((try apply vM);(try simp only[vq]at*);try omega)
  all_goals(try first|exact⟨hl,h,hf⟩|exact sums)
  conv=>whnf
  refine aJ (X:=Nat) (fun i=>i≤S.length) (fun i=>[(6,.int .i64 i)]) (fun i=>[]) (fun i=>S.length-i) 0 ⟨aG,mixed,aj,hC,aM⟩ (by rfl) (by omega) ?_ ?_
  ·repeat'((conv=>whnf);first|intro _|apply aI|with_reducible exact vM rfl|exact⟨⟩|apply nM|apply fM)
   all_goals((try apply vM);(try simp only[vq]at*);try omega)
  intro i hi;by_cases hij:i<S.length
  ·have j3':S.getD i 0=S.getD (aiI 0) 0:=hall i hij
   repeat'((conv=>whnf);first|(intro hq;(try simp only[vw]at hq);try first|exact absurd hq (by decide)|exfalso;omega)|apply aI|with_reducible exact vM rfl|exact⟨⟩|apply nM|apply fM)
   all_goals((try apply vM);(try simp only[vq]at*);try omega)
   all_goals(try first|omega|(exfalso;exact hq j3'))
   refine⟨i+1,[],⟨by omega,by omega⟩,?_⟩
   repeat'((conv=>whnf);first|intro _|apply aI|with_reducible exact vM rfl|exact⟨⟩|apply nM|apply fM)
   all_goals((try apply vM);(try simp only[vq]at*);try omega)
  ·have:i=S.length:=by omega
   subst this
   repeat'((conv=>whnf);first|(intro hq;(try simp only[vw]at hq);try first|exact absurd hq (by decide)|exfalso;omega)|apply aI|with_reducible exact vM rfl|exact⟨⟩|apply nM|apply fM)
   all_goals((try apply vM);(try simp only[vq]at*);try omega)
   all_goals(try first|omega|exact Sup.of rfl)
theorem ad7 (b:Bool):POK Tryz.prog 125 (VR b):=by
 intro xs K hk;unfold VR at hk;split at hk
 ·obtain⟨⟨h1,h2,h3,h4⟩,hk⟩:=hk
  obtain⟨j,⟨j1,j2,j3⟩,hp⟩:=VT _ _ _ h1 h2 h3;exact⟨_,hk j ⟨j1,j2,j3.trans h4⟩,hp⟩
 ·exact hk.elim
noncomputable def afU (b:Bool):CPT:=aA 125 (aB (VR b)) noC
theorem aa4 (b:Bool):aV Tryz.prog (afU b):=ak (au (ad7 b)) aC
theorem J8 (c:Int) (ls:List (List Int)) (f:List Int) (hl:ls.length≤1000) (h:∀i,i<ls.length→(ls.getD i []).length≤1000∧∀x∈ls.getD i [],0≤x∧x<f.length) (hf:∀x∈f,0≤x∧x≤16):aF Tryz.prog 55 [.agg [.int .i64 c,.isl (.rows .i64 ls) .none],.isl (.ints .i64 f) .none] (.bp (nO (eH f ls))):=by
 obtain⟨b,hb⟩:∃b,nO (eH f ls)=b:=⟨_,rfl⟩;rw[hb];have hC:=aa4 b;refine av (md:=1) (rf:=[]) mixed aj hC Tryz.func55 (by rfl) (by rfl) (by rfl) ?_
 repeat'((conv=>whnf);first|(intro hq;(try simp only[vw]at hq);try first|exact absurd hq (by decide)|exfalso;omega)|apply aI|with_reducible exact vM rfl|exact⟨⟩|apply nM|apply fM)
 all_goals((try apply vM);(try simp only[vq]at*);try omega)
 all_goals(try exact⟨hl,h,hf,hb⟩)
 rw[←hq.get.2.2];exact Sup.of rfl
def Cv:PSp:=fun xs K=>match xs with
 | [.agg [.int .i64 c,.isl (.rows .i64 ls) .none],.isl (.ints .i64 f) .none]=>VC (ls.length≤1000∧(∀i,i<ls.length→(ls.getD i []).length≤1000∧∀x∈ls.getD i [],0≤x∧x<f.length)∧∀x∈f,0≤x∧x≤16)∧K (.bp (nO (eH f ls)))
 |_=>False
theorem SG:POK Tryz.prog 55 Cv:=by
 intro xs K h;unfold Cv at h;split at h
 ·exact⟨_,h.2,J8 _ _ _ h.1.get.1 h.1.get.2.1 h.1.get.2.2⟩
 ·exact h.elim
noncomputable def aeM:CPT:=aA 36 (aB nX) noC
theorem IB:aV Tryz.prog aeM:=ak (au qZ) aC
theorem SH (A:List (List Int)) (h:A.length≤1000000) (h2:∀i,(A.getD i []).length≤2000000):aF Tryz.prog 164 [.isl (.rows .i64 A) .none,.isl (.rows .i64 A) .none] (.bp true):=by
 refine av (md:=1) (rf:=[]) mixed aj IB Tryz.func164 (by rfl) (by rfl) (by rfl) ?_
 repeat'((conv=>whnf);first|(intro hq;(try simp only[vw]at hq);try first|exact absurd hq (by decide)|exfalso;omega)|apply aI|with_reducible exact vM rfl|exact⟨⟩|apply nM|apply fM)
 all_goals((try apply vM);(try simp only[vq]at*);try omega)
 all_goals(try omega)
 conv=>whnf
 refine aJ (X:=Nat) (fun i=>i≤A.length) (fun i=>[(5,.int .i64 i)]) (fun i=>[]) (fun i=>A.length-i) 0 ⟨aG,mixed,aj,IB,aM⟩ (by rfl) (by omega) ?_ ?_
 ·repeat'((conv=>whnf);first|intro _|apply aI|with_reducible exact vM rfl|exact⟨⟩|apply nM|apply fM)
  all_goals((try apply vM);(try simp only[vq]at*);try omega)
 intro i hi;by_cases hlt:i<A.length
 ·have:=h2 i
  repeat'((conv=>whnf);first|(intro hq;(try simp only[vw]at hq);try first|exact absurd hq (by decide)|exfalso;omega)|apply aI|with_reducible exact vM rfl|exact⟨⟩|apply nM|apply fM)
  all_goals((try apply vM);(try simp only[vq]at*);try omega)
  all_goals(try omega)
  refine⟨i+1,[],⟨by omega,by omega⟩,?_⟩
  repeat'((conv=>whnf);first|intro _|apply aI|with_reducible exact vM rfl|exact⟨⟩|apply nM|apply fM)
  all_goals((try apply vM);(try simp only[vq]at*);try omega)
 ·have:i=A.length:=by omega
  subst this
  repeat'((conv=>whnf);first|(intro hq;(try simp only[vw]at hq);try first|exact absurd hq (by decide)|exfalso;omega)|apply aI|with_reducible exact vM rfl|exact⟨⟩|apply nM|apply fM)
  all_goals((try apply vM);(try simp only[vq]at*);try omega)
  all_goals(try first|omega|exact cu true)
def Px:PSp:=fun xs K=>match xs with
 | [.isl (.rows .i64 A) .none,.isl (.rows .i64 B) .none]=>VC (A=B∧A.length≤1000000∧∀i,(A.getD i []).length≤2000000)∧K (.bool true)
 |_=>False
theorem aa5:POK Tryz.prog 164 Px:=by
 intro xs K hk;unfold Px at hk;split at hk
 ·obtain⟨⟨rfl,h1,h2⟩,hk⟩:=hk
  exact⟨_,hk,gV (SH _ h1 h2) ⟨fun hr=>by cases hr;exact .bool _ _⟩⟩
 ·exact hk.elim
noncomputable def aeN:CPT:=aA 164 (aB Px) noC
theorem VU:aV Tryz.prog aeN:=ak (au aa5) aC
theorem Py (c:Int) (A:List (List Int)) (h:A.length≤1000000) (h2:∀i,(A.getD i []).length≤2000000):aF Tryz.prog 118 [.agg [.int .i64 c,.isl (.rows .i64 A) .none],.agg [.int .i64 c,.isl (.rows .i64 A) .none]] (.bp true):=by
 refine av (md:=1) (rf:=[]) mixed aj VU Tryz.func118 (by rfl) (by rfl) (by rfl) ?_
 repeat'((conv=>whnf);first|(intro hq;(try simp only[vw]at hq);try first|exact absurd hq (by decide)|exfalso;omega)|apply aI|with_reducible exact vM rfl|exact⟨⟩|apply nM|apply fM)
 all_goals((try apply vM);(try simp only[vq]at*);try omega)
 all_goals first|exact⟨h,h2⟩|exact cu true|exact Sup.of rfl|skip
def IC:PSp:=fun xs K=>match xs with
 | [.agg [.int .i64 c,.isl (.rows .i64 A) .none],.agg [.int .i64 c',.isl (.rows .i64 B) .none]]=>VC (c=c'∧A=B∧A.length≤1000000∧∀i,(A.getD i []).length≤2000000)∧K (.bool true)
 |_=>False
theorem VW:POK Tryz.prog 118 IC:=by
 intro xs K hk;unfold IC at hk;split at hk
 ·obtain⟨⟨rfl,rfl,h1,h2⟩,hk⟩:=hk
  exact⟨_,hk,gV (Py _ _ h1 h2) ⟨fun hr=>by cases hr;exact .bool _ _⟩⟩
 ·exact hk.elim
def IE:PSp:=fun xs K=>match xs with
 | [.isl (.ints .i64 a) .none,.isl (.ints .i64 b) .none]=>VC (a=b∧a.length≤2000000)∧K (.bool true)
 |_=>False
theorem VX:POK Tryz.prog 36 IE:=by
 intro xs K hk;unfold IE at hk;split at hk
 ·obtain⟨⟨rfl,h1⟩,hk⟩:=hk
  exact⟨_,hk,gV (uG _ _ h1) ⟨fun hr=>by cases hr;rw[decide_eq_true rfl];exact .bool _ _⟩⟩
 ·exact hk.elim
noncomputable def aeO:CPT:=aA 36 (aB IE) (aA 118 (aB IC) noC)
theorem VY:aV Tryz.prog aeO:=ak (au VX) (ak (au VW) aC)
theorem Dz (c:Int) (A:List (List Int)) (sum:Int) (gv:List Int) (h:A.length≤1000000) (h2:∀i,(A.getD i []).length≤2000000) (h3:gv.length≤2000000):aF Tryz.prog 46 [pzV c A sum gv,pzV c A sum gv] (.bp true):=by
 refine av (md:=1) (rf:=[]) mixed aj VY Tryz.func46 (by rfl) (by rfl) (by rfl) ?_
 repeat'((conv=>whnf);first|(intro hq;(try simp only[vw]at hq);try first|exact absurd hq (by decide)|exfalso;omega)|apply aI|with_reducible exact vM rfl|exact⟨⟩|apply nM|apply fM)
 all_goals((try apply vM);(try simp only[vq]at*);try omega)
 all_goals first|exact⟨h,h2⟩|exact h3|exact cu true|exact Sup.of rfl|skip
def Cw (f:List Int):Bool:=(agr f.length).all fun k:Nat=>decide ((k:Int)+1∈f)
theorem aa6 {α:Type} [DecidableEq α]:∀(l m:List α),l.Nodup→(∀x∈l,x∈m)→l.length≤m.length:=by
 intro l;induction l with
 |nil=>intro m _ _;simp
 |cons x r ih=>
  intro m hn hm;have hn':=ahH.1 hn;have hx:=hm x (by simp)
  have:=ih (m.erase x) hn'.2 fun y hy=>(List.mem_erase_of_ne (fun e=>hn'.1 y hy e.symm)).2 (hm y (by simp[hy]))
  rw[List.length_erase_of_mem hx]at this;have:=List.length_pos_of_mem hx;simp only[agb];omega
def qQ (n:Nat):List Int:=(agr n).map fun k:Nat=>(k:Int)+1
theorem VZ (n:Nat):(qQ n).Nodup:=by
 unfold qQ;rw[List.Nodup,List.pairwise_map];exact List.pairwise_lt_range.imp fun h e=>by omega
theorem DC {n:Nat} {x:Int}:x∈qQ n↔1≤x∧x≤n:=by
 unfold qQ;rw[ai5];constructor
 ·rintro⟨k,hk,rfl⟩
  have:=ah5.1 hk;omega
 ·intro h
  exact⟨(x-1).toNat,ah5.2 (by omega),by omega⟩
theorem aa7 {l:List Int} {j:Nat} {x:Int} (hj:j<l.length) (hx:x∈l) (h:x=l.getD j 0→∃i,i<l.length∧i≠j∧l.getD i 0=x):x∈l.eraseIdx j:=by
 obtain⟨i,hi,e⟩:=(dA l x).1 hx;rw[List.mem_eraseIdx_iff_getElem];by_cases q:i=j
 ·obtain⟨k,h1,h2,h3⟩:=h (by rw[←e,q])
  exact⟨k,h1,h2,by rw[←gQ h1];exact h3⟩
 ·exact⟨i,hi,q,by rw[←gQ hi];exact e⟩
theorem LG {f:List Int}:Cw f=true↔iC f=true:=by
 constructor
 ·intro h
  have hs:∀x∈qQ f.length,x∈f:=fun x hx=>by
   have h1:=DC.1 hx;have:=ahP.1 h (x-1).toNat (ah5.2 (by omega))
   rw[decide_eq_true_eq,show(((x-1).toNat:Nat):Int)+1=x by omega]at this
   exact this
  have key:∀j,j<f.length→(∀x∈qQ f.length,x=f.getD j 0→∃i,i<f.length∧i≠j∧f.getD i 0=x)→False:=fun j hj hx=>by
   have:=aa6 (qQ f.length) (f.eraseIdx j) (VZ _) fun x hm=>aa7 hj (hs x hm) (hx x hm);rw[List.length_eraseIdx_of_lt hj]at this;simp only[qQ,aif,List.length_range]at this;omega
  refine ad6 ?_ fun x hx=>?_
  ·rw[List.Nodup,ajr]
   intro i j hi hj hij e;exact key j hj fun x hx e1=>⟨i,hi,by omega,by rw[e1,gQ hi,gQ hj];exact e⟩
  ·obtain⟨j,hj,rfl⟩:=(dA f x).1 hx
   refine ajK fun hno=>key j hj fun x hx e1=>?_;have:=DC.1 hx;exact absurd (by rw[e1]at this;exact this) hno
 ·intro h
  refine ahP.2 fun k hk=>decide_eq_true ?_;have hk:=ah5.1 hk;have h1:(k:Int)+1∈d9 f:=by
   rw[Aw h];exact ai5.2 ⟨k,ah5.2 hk,rfl⟩
  exact(aju f _).mem_iff.1 h1
theorem SI (f:List Int) (h:f.length≤1000000):aF Tryz.prog 54 [.isl (.ints .i64 f) .none] (.bp (Cw f)):=by
 refine av (md:=1) (rf:=[]) mixed aj aC Tryz.func54 (by rfl) (by rfl) (by rfl) ?_
 repeat'((conv=>whnf);first|(intro hq;(try simp only[vw]at hq);try first|exact absurd hq (by decide)|exfalso;omega)|apply aI|with_reducible exact vM rfl|exact⟨⟩|apply nM|apply fM)
 all_goals((try apply vM);(try simp only[vq]at*);try omega)
 conv=>whnf
 refine aJ (X:=Nat) (fun n=>n≤f.length∧∀k,k<n→(k:Int)+1∈f) (fun n=>[(3,.int .i64 ((n:Int)+1))]) (fun n=>[]) (fun n=>f.length-n) 0 ⟨aG,mixed,aj,aC,aM⟩ (by rfl) ⟨by omega,fun k hk=>by omega⟩ ?_ ?_
 ·repeat'((conv=>whnf);first|intro _|apply aI|with_reducible exact vM rfl|exact⟨⟩|apply nM|apply fM)
  all_goals((try apply vM);(try simp only[vq]at*);try omega)
 intro n ⟨hn,hok⟩;by_cases hlt:n<f.length
 case neg=>
  have e:Cw f=true:=ahP.2 fun k hk=>decide_eq_true (hok k (by have:=ah5.1 hk;omega))
  rw[e]
  repeat'((conv=>whnf);first|(intro hq;(try simp only[vw]at hq);try first|exact absurd hq (by decide)|exfalso;omega)|apply aI|with_reducible exact vM rfl|exact⟨⟩|apply nM|apply fM)
  all_goals((try apply vM);(try simp only[vq]at*);try omega)
  all_goals(try first|omega|exact cu true)
 repeat'((conv=>whnf);first|(intro hq;(try simp only[vw]at hq);try first|exact absurd hq (by decide)|exfalso;omega)|apply aI|with_reducible exact vM rfl|exact⟨⟩|apply nM|apply fM)
 all_goals((try apply vM);(try simp only[vq]at*);try omega)
 all_goals(try omega)
 conv=>whnf
 refine aJ (X:=Nat) (fun i=>i≤f.length) (fun i=>[(5,.int .i64 i),(4,.bp (decide ((n:Int)+1∈f.take i)))]) (fun i=>[]) (fun i=>f.length-i) 0 ⟨aG,mixed,aj,aC,aM⟩ (by rfl) (by omega) ?_ ?_
 ·repeat'((conv=>whnf);first|intro _|apply aI|with_reducible exact vM rfl|exact⟨⟩|apply nM|apply fM)
  all_goals((try apply vM);(try simp only[vq]at*);try omega)
  all_goals(try(simp;done))
 intro i hi;by_cases hli:i<f.length
 ·have ht:=bX hli
  have hin:(n:Int)+1∈f.take i→decide ((n:Int)+1∈f.take (i+1))=true:=fun a=>decide_eq_true (by rw[ht];exact agv _ a)
  have hout:(n:Int)+1∉f.take i→decide ((n:Int)+1∈f.take (i+1))=decide (f.getD i 0=(n:Int)+1):=fun a=>by
   rw[ht];by_cases e:f.getD i 0=(n:Int)+1
   ·rw[decide_eq_true e,decide_eq_true (by rw[e];simp)]
   ·rw[decide_eq_false e,decide_eq_false (by rw[agu,ai0];rintro(q|q);exact a q;exact e q.symm)]
  repeat'((conv=>whnf);first|(intro hq;(try simp only[vw]at hq);try first|exact absurd hq (by decide)|exfalso;omega)|apply aI|with_reducible exact vM rfl|exact⟨⟩|apply nM|apply fM)
  all_goals((try apply vM);(try simp only[vq]at*);try omega)
  all_goals(try omega)
  ·refine⟨i+1,[],⟨by omega,by omega⟩,?_⟩
   rw[hout hq]
   repeat'((conv=>whnf);first|intro _|apply aI|with_reducible exact vM rfl|exact⟨⟩|apply nM|apply fM)
   all_goals((try apply vM);(try simp only[vq]at*);try omega)
  ·refine⟨i+1,[],⟨by omega,by omega⟩,?_⟩
   rw[decide_eq_true (show(n:Int)+1∈f.take (i+1) by rw[ht];exact agv _ hq)]
   repeat'((conv=>whnf);first|intro _|apply aI|with_reducible exact vM rfl|exact⟨⟩|apply nM|apply fM)
   all_goals((try apply vM);(try simp only[vq]at*);try omega)
 have:i=f.length:=by omega
 subst this;rw[ail]
 repeat'((conv=>whnf);first|(intro hq;(try simp only[vw]at hq);try first|exact absurd hq (by decide)|exfalso;omega)|apply aI|with_reducible exact vM rfl|exact⟨⟩|apply nM|apply fM)
 all_goals((try apply vM);(try simp only[vq]at*);try omega)
 all_goals(try omega)
 ·rw[show Cw f=false from ajA.2 ⟨n,ah5.2 hlt,by rw[decide_eq_false hq];simp⟩]
  exact cu false
 ·refine⟨n+1,[],⟨⟨by omega,fun k hk=>?_⟩,by omega⟩,?_⟩
  ·by_cases e:k=n
   ·subst e;exact hq
   ·exact hok k (by omega)
  repeat'((conv=>whnf);first|intro _|apply aI|with_reducible exact vM rfl|exact⟨⟩|apply nM|apply fM)
  all_goals((try apply vM);(try simp only[vq]at*);try omega)
def Pz:PSp:=fun xs K=>match xs with
 | [.isl (.ints .i64 f) .none]=>VC (f.length≤1000000)∧K (.bp (Cw f))
 |_=>False
theorem aa8:POK Tryz.prog 54 Pz:=by
 intro xs K h;unfold Pz at h;split at h
 ·exact⟨_,h.2,SI _ h.1.get⟩
 ·exact h.elim
theorem SK {c:Int} {ls:List (List Int)} {sum:Int} {nv:List Int} (h:cZ c ls sum nv) (hf:mF c ls sum nv) (n:Nat):(sol c ls sum nv n).2.2=0:=by
 have hb:=aa2 (rR h) (aa3 h hf fun i hi _=>rfl) hf;have hd:don (bgn c nv)=true:=by
  unfold don bgn jq;rw[ajn,aiS];intro b hb;simp only[ai5]at hb;obtain⟨x,hx,rfl⟩:=hb;have:=lS hf.nrm x hx;rw[decide_eq_true (by omega)];simp
 unfold sol;rw[show 273=272+1 from rfl,mh,if_neg (by rw[hb];simp),if_pos hd]
theorem yZ (l:List Int) (k i:Nat) (x:Int):(l.set k x).getD i 0=if k=i∧i<l.length then x else l.getD i 0:=by
 rw[agt,agR,agt];by_cases e:k=i
 ·subst e
  by_cases e2:k<l.length
  ·simp[e2]
  ·simp[e2]
 ·simp[e]
theorem ad8 {a b:List Int} (hl:a.length=b.length) (h:∀i,i<a.length→a.getD i 0=b.getD i 0):a=b:=by
 apply aja hl;intro i h1 h2;have:=h i h1;rw[agt,agt,agy h1,agy h2]at this;exact this
theorem SL {c:Int} {ls:List (List Int)} {sm:Int} {nv:List Int} {g:Nat}:∀(l:List Int) (v:List Int),gJ v nv→(sol c ls sm v g).2.2=0→(sol c ls sm (l.foldl (mkS c ls sm nv g) v) g).2.2=0:=by
 intro l;induction l with
 |nil=>exact fun v _ h=>h
 |cons y l ih=>
  intro v hs h;have hs':gJ (mkS c ls sm nv g v y) nv:=by
   unfold mkS;split
   ·exact(hs.set0 _).set1 _
   ·exact hs.set0 _
  refine ih _ hs' ?_;unfold mkS;split
  ·rename_i he
   have hy:(v.set y.toNat 0).set y.toNat (nv.getD y.toNat 0)=v:=by
    refine ad8 (by rw[agT,agT]) fun i hi=>?_
    rw[agT,agT]at hi;rw[yZ,agT,yZ];by_cases e:y.toNat=i
    ·subst e
     rw[if_pos ⟨rfl,hi⟩];rcases hs.2 y.toNat (by rw[←hs.1];exact hi)with h0|h0
     ·exfalso
      apply he;have:v.set y.toNat 0=v:=by
       refine ad8 (agT ..) fun j hj=>?_;rw[yZ];by_cases e:y.toNat=j∧j<v.length
       ·rw[if_pos e,←e.1,h0]
       ·rw[if_neg e]
      rw[this];exact h
     ·exact h0.symm
    ·rw[if_neg (fun a=>e a.1),if_neg (fun a=>e a.1)]
   rw[hy];exact h
  ·rename_i he
   exact aha.1 he
theorem aa9 {c:Int} {ls:List (List Int)} {sum:Int} {gv:List Int} (hb:fu c ls=0) (h:cZ c ls sum gv):pzE c ls sum gv=0:=by
 have hs:=h.sm;have hl:=h.gl;have h0:ru c ls sum gv=0:=by
  unfold ru;rw[hb,if_neg (by omega),if_neg (by omega)];rfl
 unfold pzE;rw[if_neg (by rw[h0];simp)]
 refine fU fun i hi=>?_;unfold gvE;have hr:=h.gr (gv.getD i 0) (fP hi);rw[if_neg (by omega),if_neg]
 rintro⟨hp,hm⟩
 obtain⟨j,hj,e⟩:=(dA (gv.take i) (gv.getD i 0)).1 hm;rw[ag6]at hj;have e2:(gv.take i).getD j 0=gv.getD j 0:=by
  rw[agt,agt,List.getElem?_take,if_pos (by omega)]
 exact h.gd j i (by omega) hi hp (e2.symm.trans e)
theorem PD (f:List Int) (ls:List (List Int)):gL f ls ls.length=eH f ls:=by
 unfold gL eH;rw[ail];refine List.map_congr_left fun l _=>?_;show dU f (l.take l.length)=dU f l;rw[ail]
theorem y5 (ls:List (List Int)) (nv:List Int):Ic ls nv=nO (eH nv ls):=by
 unfold Ic;rw[PD];have h:=gy (p:=fun i=>w9 (eH nv ls) ((eH nv ls).getD i 0)) (n:=(eH nv ls).length);have e:decide (kJ (eH nv ls)<0)=!decide (0≤kJ (eH nv ls)):=by
  by_cases e:kJ (eH nv ls)<0
  ·rw[decide_eq_true e,decide_eq_false (by omega)];rfl
  ·rw[decide_eq_false e,decide_eq_true (by omega)];rfl
 rw[e];unfold kJ;rw[h];generalize eH nv ls=l
 unfold nO w9;cases ha:l.all (fun x=>decide (x=l.getD 0 0))with
 |true=>
  rw[ajn,aiS];intro i hi;have:=ahP.1 ha (l.getD i 0) (fP (ah5.1 hi));rw[decide_eq_true_eq]at this;rw[this];simp
 |false=>
  rw[ajA]at ha;obtain⟨x,hx,hne⟩:=ha;obtain⟨i,hi,rfl⟩:=(dA l x).1 hx;rw[ajF,aiR];exact⟨i,ah5.2 hi,by simpa using hne⟩
theorem V3 {nv:List Int} (hl:1≤nv.length∧nv.length≤256) (h:iC nv=true):cfE nv=0:=by
 have e2:oO nv=0:=by
  unfold oO;rw[if_neg];intro e;rw[aiR]at e;obtain⟨x,hx,e⟩:=e;have:=lS h x hx;unfold qY at e;simp at e;omega
 unfold cfE;rw[e2,if_neg (by omega),if_neg (by omega)];rfl
theorem PE (c:Int) (ls:List (List Int)) (sum:Int) (gv:List Int) (s:St) (h:bB c ls sum s) (k b:Int) (hk:0≤k∧k<ls.length):
 aF Tryz.prog 96 [pzV c ls sum gv,stV s,.int .i64 k,.int .i64 b] (.isl (.ints .i64 (opn s (ls.getD k.toNat []) b)) .none):=by
 have hln:=h.ln k.toNat (by omega)
 have hll:=hln.len;have hcl:=h.cl;have hdl:=h.dl;refine av (md:=1) (rf:=[]) mixed aj aC Tryz.func96 (by rfl) (by rfl) (by rfl) ?_
 repeat'((conv=>whnf);first|intro _|apply aI|with_reducible exact vM rfl|exact⟨⟩|apply nM|apply fM)
 all_goals((try apply vM);(try simp only[vq]at*);try omega)
 conv=>whnf
 refine aJ (X:=Nat) (fun i=>i≤(ls.getD k.toNat []).length) (fun i=>[(11,.int .i64 i),(9,.isl (.ints .i64 (opn s ((ls.getD k.toNat []).take i) b)) (.own 5))]) (fun i=>[(5,.tok 1 (opn s ((ls.getD k.toNat []).take i) b).length)]) (fun i=>(ls.getD k.toNat []).length-i) 0 ⟨aG,mixed,aj,aC,aM⟩ (by rfl) (by omega) ?_ ?_
 ·repeat'((conv=>whnf);first|intro _|apply aI|with_reducible exact vM rfl|exact⟨⟩|apply nM|apply fM)
  all_goals((try apply vM);(try simp only[vq]at*);try omega)
  all_goals rfl
 intro i hi;by_cases hlt:i<(ls.getD k.toNat []).length
 ·have hx:=hln.rng ((ls.getD k.toNat []).getD i 0) (bK hlt)
  have hxs:=h.at hx;have ho:(opn s ((ls.getD k.toNat []).take i) b).length≤16:=ah2 (ai1 _ _) (by rw[ag6];omega)
  have e1:=KL s ((ls.getD k.toNat []).take i) ((ls.getD k.toNat []).getD i 0) b;rw[←bX hlt]at e1
  repeat'((conv=>whnf);first|(intro hq;(try simp only[vw]at hq);try first|exact absurd hq (by decide)|exfalso;omega)|apply aI|with_reducible exact vM rfl|exact⟨⟩|apply nM|apply fM)
  all_goals((try apply vM);(try simp only[vq]at*);try omega)
  all_goals(try(first|omega|(rw[ahx,agb,af7];omega)))
  ·rename_i hd
   have hd:s.dc ((ls.getD k.toNat []).getD i 0).toNat=false:=hd;rw[hd,if_pos (by simpa using hq)]at e1
   refine⟨i+1,[],⟨by omega,by omega⟩,?_⟩
   rw[e1,ahx]
   repeat'((conv=>whnf);first|intro _|apply aI|with_reducible exact vM rfl|exact⟨⟩|apply nM|apply fM)
   all_goals((try apply vM);(try simp only[vq]at*);try omega)
  ·rename_i hd
   have hd:s.dc ((ls.getD k.toNat []).getD i 0).toNat=false:=hd;rw[hd,if_neg (by simpa using hq),aib]at e1
   refine⟨i+1,[],⟨by omega,by omega⟩,?_⟩
   rw[e1]
   repeat'((conv=>whnf);first|intro _|apply aI|with_reducible exact vM rfl|exact⟨⟩|apply nM|apply fM)
   all_goals((try apply vM);(try simp only[vq]at*);try omega)
  ·have hd:s.dc ((ls.getD k.toNat []).getD i 0).toNat=true:=hq
   rw[hd,if_neg (by simp),aib]at e1
   refine⟨i+1,[],⟨by omega,by omega⟩,?_⟩
   rw[e1]
   repeat'((conv=>whnf);first|intro _|apply aI|with_reducible exact vM rfl|exact⟨⟩|apply nM|apply fM)
   all_goals((try apply vM);(try simp only[vq]at*);try omega)
 ·have:i=(ls.getD k.toNat []).length:=by omega
  subst this;rw[ail]
  repeat'((conv=>whnf);first|intro _|apply aI|with_reducible exact vM rfl|exact⟨⟩|apply nM|apply fM)
  all_goals((try apply vM);(try simp only[vq]at*);try omega)
  exact Sup.of rfl
theorem PG (c:Int) (ls:List (List Int)) (sum:Int) (gv:List Int) (s:St) (h:bB c ls sum s) (k:Int) (hk:0≤k∧k<ls.length):
 aF Tryz.prog 97 [pzV c ls sum gv,stV s,.int .i64 k] (.int .i64 (rst s sum (ls.getD k.toNat []))):=by
 have hln:=h.ln k.toNat (by omega)
 have hsm:=h.sm;have hll:=hln.len;have hcl:=h.cl;have hdl:=h.dl;have hb:=p9 h hln.rng;refine av (md:=1) (rf:=[]) mixed aj aC Tryz.func97 (by rfl) (by rfl) (by rfl) ?_
 repeat'((conv=>whnf);first|intro _|apply aI|with_reducible exact vM rfl|exact⟨⟩|apply nM|apply fM)
 all_goals((try apply vM);(try simp only[vq]at*);try omega)
 conv=>whnf
 refine aJ (X:=Nat) (fun i=>i≤(ls.getD k.toNat []).length) (fun i=>[(9,.int .i64 i),(7,.int .i64 (rst s sum ((ls.getD k.toNat []).take i)))]) (fun i=>[]) (fun i=>(ls.getD k.toNat []).length-i) 0 ⟨aG,mixed,aj,aC,aM⟩ (by rfl) (by omega) ?_ ?_
 ·repeat'((conv=>whnf);first|intro _|apply aI|with_reducible exact vM rfl|exact⟨⟩|apply nM|apply fM)
  all_goals((try apply vM);(try simp only[vq]at*);try omega)
  all_goals rfl
 intro i hi;by_cases hlt:i<(ls.getD k.toNat []).length
 ·have hx:=hln.rng ((ls.getD k.toNat []).getD i 0) (bK hlt)
  have hxs:=h.at hx;have hbi:=hb i (by omega)
  have e2:=Bu s sum ((ls.getD k.toNat []).take i) ((ls.getD k.toNat []).getD i 0);rw[←bX hlt]at e2;have h8:s.dc ((ls.getD k.toNat []).getD i 0).toNat=true→(s.cs.getD ((ls.getD k.toNat []).getD i 0).toNat []).length=1:=h.dec _ hxs.1;have h9:s.dc ((ls.getD k.toNat []).getD i 0).toNat=true→1≤(s.cs.getD ((ls.getD k.toNat []).getD i 0).toNat []).getD 0 0∧(s.cs.getD ((ls.getD k.toNat []).getD i 0).toNat []).getD 0 0≤16:=fun hd=>by have:=h.num hx hd;exact⟨this.1,this.2.1⟩
  repeat'((conv=>whnf);first|(intro hq;(try simp only[vw]at hq);try first|exact absurd hq (by decide)|exfalso;omega)|apply aI|with_reducible exact vM rfl|exact⟨⟩|apply nM|apply fM)
  all_goals((try apply vM);(try simp only[vq]at*);try omega)
  all_goals(try simp only[ajx])
  all_goals(try(have k8:=h8 (by assumption);have k9:=h9 (by assumption);omega))
  ·have hd:s.dc ((ls.getD k.toNat []).getD i 0).toNat=true:=hq
   rw[hd,if_pos rfl]at e2;refine⟨i+1,[],⟨by omega,by omega⟩,?_⟩
   rw[e2]
   repeat'((conv=>whnf);first|intro _|apply aI|with_reducible exact vM rfl|exact⟨⟩|apply nM|apply fM)
   all_goals((try apply vM);(try simp only[vq]at*);try omega)
  ·have hd:s.dc ((ls.getD k.toNat []).getD i 0).toNat=false:=hq
   rw[hd,if_neg (by simp)]at e2
   refine⟨i+1,[],⟨by omega,by omega⟩,?_⟩
   rw[e2]
   repeat'((conv=>whnf);first|intro _|apply aI|with_reducible exact vM rfl|exact⟨⟩|apply nM|apply fM)
   all_goals((try apply vM);(try simp only[vq]at*);try omega)
 ·have:i=(ls.getD k.toNat []).length:=by omega
  subst this;rw[ail]
  repeat'((conv=>whnf);first|intro _|apply aI|with_reducible exact vM rfl|exact⟨⟩|apply nM|apply fM)
  all_goals((try apply vM);(try simp only[vq]at*);try omega)
  exact Sup.of rfl
def wI (s:St) (o:List Int) (x:Int):Bool:=!(o.any fun y=>decide (s.cd y.toNat=[]))&&(decide (iq s o≤x)&&decide (x≤iw s o))
theorem abb (s:St) (sum:Int) (l:List Int) (c x:Int):tX s sum l c x=!wI s (opn s l c) (rst s sum l-x):=by
 unfold tX wI;cases(opn s l c).any fun y=>decide (s.cd y.toNat=[])
 ·simp only[Bool.false_or,agZ,ai2,Bool.not_and]
  congr 1
  ·rw[←decide_not];congr 1;simp
  ·rw[←decide_not];congr 1;simp
 ·simp
theorem IG (s:St) (o:List Int) (y:Int):iq s (o++[y])=iq s o+hd0 (s.cd y.toNat):=by unfold iq;rw[aiF];rfl
theorem II (s:St) (o:List Int) (y:Int):iw s (o++[y])=iw s o+ls0 (s.cd y.toNat):=by unfold iw;rw[aiF];rfl
structure IJ (c:Int) (ls:List (List Int)) (sum:Int) (s:St) (o:List Int) (x:Int):Prop where
 bd:bB c ls sum s
 rng:∀y∈o,0≤y∧y<c
 len:o.length≤16
 x: -2000000000≤x∧x≤2000000000
theorem LH {c:Int} {ls:List (List Int)} {sum:Int} {s:St} (h:bB c ls sum s) (o:List Int) (ho:∀y∈o,0≤y∧y<c):∀i,i≤o.length→0≤iq s (o.take i)∧iq s (o.take i)≤16*i∧0≤iw s (o.take i)∧iw s (o.take i)≤16*i:=by
 intro i;induction i with
 |zero=>intro _;simp[iq,iw]
 |succ i ih=>
  intro hi;have h1:=ih (by omega)
  have hy:=ho (o.getD i 0) (bK (by omega))
  have hA:=(h.asc _ (h.at hy).1).1;have h2:0≤hd0 (s.cd (o.getD i 0).toNat)∧hd0 (s.cd (o.getD i 0).toNat)≤16:=by
   rcases ag2 (s.cd (o.getD i 0).toNat).length with e|e
   ·rw[ajE e];simp[hd0]
   ·have:=hA.rng _ (o7 e);omega
  have h3:0≤ls0 (s.cd (o.getD i 0).toNat)∧ls0 (s.cd (o.getD i 0).toNat)≤16:=by
   rcases ag2 (s.cd (o.getD i 0).toNat).length with e|e
   ·rw[ajE e];simp[ls0]
   ·have:=hA.rng _ (rG e);omega
  rw[bX (by omega),IG,II]
  omega
theorem SN (c:Int) (ls:List (List Int)) (sum:Int) (s:St) (o:List Int) (x:Int) (h:IJ c ls sum s o x):aF Tryz.prog 135 [stV s,.isl (.ints .i64 o) .none,.int .i64 x] (.bp (wI s o x)):=by
 have hb:=h.bd;have hcl:=hb.cl;have hdl:=hb.dl;have hlen:=h.len;have hx:=h.x;refine av (md:=1) (rf:=[]) mixed aj aC Tryz.func135 (by rfl) (by rfl) (by rfl) ?_
 repeat'((conv=>whnf);first|intro _|apply aI|with_reducible exact vM rfl|exact⟨⟩|apply nM|apply fM)
 all_goals((try apply vM);(try simp only[vq]at*);try omega)
 conv=>whnf
 refine aJ (X:=Nat) (fun i=>i≤o.length∧(o.take i).any (fun y=>decide (s.cd y.toNat=[]))=false) (fun i=>[(9,.int .i64 i),(7,.int .i64 (iq s (o.take i))),(8,.int .i64 (iw s (o.take i)))]) (fun i=>[]) (fun i=>o.length-i) 0 ⟨aG,mixed,aj,aC,aM⟩ (by rfl) ⟨by omega,by simp⟩ ?_ ?_
 ·repeat'((conv=>whnf);first|intro _|apply aI|with_reducible exact vM rfl|exact⟨⟩|apply nM|apply fM)
  all_goals((try apply vM);(try simp only[vq]at*);try omega)
  all_goals rfl
 intro i ⟨hi,hok⟩;by_cases hlt:i<o.length
 ·have hy:=h.rng (o.getD i 0) (bK hlt)
  have hys:=hb.at hy;have hA:=(hb.asc _ hys.1).1;have h16:=lM hA;have s1:=LH hb o h.rng i (by omega)
  have s2:=LH hb o h.rng (i+1) (by omega)
  have e1:iq s (o.take (i+1))=iq s (o.take i)+hd0 (s.cd (o.getD i 0).toNat):=by rw[bX hlt,IG]
  have e2:iw s (o.take (i+1))=iw s (o.take i)+ls0 (s.cd (o.getD i 0).toNat):=by rw[bX hlt,II]
  have k16:(s.cs.getD (o.getD i 0).toNat []).length≤16:=h16;have f1:(s.cs.getD (o.getD i 0).toNat []).getD 0 0=hd0 (s.cd (o.getD i 0).toNat):=rfl;have f2:(s.cs.getD (o.getD i 0).toNat []).getD (((s.cs.getD (o.getD i 0).toNat []).length:Int)-1).toNat 0=ls0 (s.cd (o.getD i 0).toNat):=by
   rw[show(((s.cs.getD (o.getD i 0).toNat []).length:Int)-1).toNat=(s.cs.getD (o.getD i 0).toNat []).length-1 by omega];rfl
  repeat'((conv=>whnf);first|(intro hq;(try simp only[vw]at hq);try first|exact absurd hq (by decide)|exfalso;omega)|apply aI|with_reducible exact vM rfl|exact⟨⟩|apply nM|apply fM)
  all_goals((try apply vM);(try simp only[vq]at*);try omega)
  all_goals(try simp only[ajx])
  all_goals(try rw[f1])
  all_goals(try rw[f2])
  all_goals(try omega)
  ·have hn:s.cd (o.getD i 0).toNat=[]:=ajE (show(s.cs.getD (o.getD i 0).toNat []).length=0 by omega)
   have:wI s o x=false:=by
    unfold wI;rw[aiR.2 ⟨o.getD i 0,bK hlt,decide_eq_true hn⟩];rfl
   rw[this];exact cu false
  ·have hn:s.cd (o.getD i 0).toNat≠[]:=fun e=>by
    have:(s.cs.getD (o.getD i 0).toNat []).length=0:=by rw[show s.cs.getD (o.getD i 0).toNat []=[]from e];rfl
    omega
   refine⟨i+1,[],⟨⟨by omega,?_⟩,by omega⟩,?_⟩
   ·rw[bX hlt,List.any_append,hok,List.any_cons,decide_eq_false hn];rfl
   rw[e1,e2]
   repeat'((conv=>whnf);first|intro _|apply aI|with_reducible exact vM rfl|exact⟨⟩|apply nM|apply fM)
   all_goals((try apply vM);(try simp only[vq]at*);try omega)
   all_goals(try rw[f2])
 ·have:i=o.length:=by omega
  subst this;rw[ail]at*;have hB:wI s o x=(decide (iq s o≤x)&&decide (x≤iw s o)):=by unfold wI;rw[hok];rfl
  repeat'((conv=>whnf);first|intro _|apply aI|with_reducible exact vM rfl|exact⟨⟩|apply nM|apply fM)
  all_goals((try apply vM);(try simp only[vq]at*);try omega)
  ·rename_i h1
   rw[hB,decide_eq_true h1];exact Sup.of rfl
  ·rename_i h1
   rw[hB,decide_eq_false h1];exact cu false
def PI:PSp:=fun xs K=>match xs with
 | [.agg [.isl (.rows .i64 CS) .none,.isl (.bools DS) .none],.isl (.ints .i64 o) .none,.int .i64 x]=>VC (∃c ls sum,IJ c ls sum ⟨CS,DS⟩ o x)∧K (.bp (wI ⟨CS,DS⟩ o x))
 |_=>False
theorem abd:POK Tryz.prog 135 PI:=by
 intro xs K h;unfold PI at h;split at h
 ·exact⟨_,h.2,(by obtain⟨c,ls,sum,h'⟩:=h.1.get;exact SN c ls sum ⟨_,_⟩ _ _ h')⟩
 ·exact h.elim
theorem xS (r:ByteArray):aF Tryz.prog 70 [.str r] (.int .i64 (aQ r)):=by
 have hn:=jO;refine av (md:=1) (rf:=[]) mixed aj aC Tryz.func70 (by rfl) (by rfl) (by rfl) ?_
 repeat'((conv=>whnf);first|intro _|apply aI|with_reducible exact vM rfl|exact⟨⟩|apply nM|apply fM)
 all_goals((try apply vM);(try simp only[vq]at*);try omega)
 conv=>whnf
 refine aJ (X:=Nat) (fun i=>i≤5∧∀j,0<j→j<i+1→nmG j≠r) (fun i=>[(4,.int .i64 i)]) (fun i=>[]) (fun i=>5-i) 0 ⟨aG,mixed,aj,aC,aM⟩ (by rfl) ⟨by omega,fun j h0 hj=>by omega⟩ ?_ ?_
 ·repeat'((conv=>whnf);first|intro _|apply aI|with_reducible exact vM rfl|exact⟨⟩|apply nM|apply fM)
  all_goals((try apply vM);(try simp only[vq]at*);try omega)
 intro i ⟨hi,hok⟩;obtain rfl|rfl|rfl|rfl|rfl|rfl:i=0∨i=1∨i=2∨i=3∨i=4∨i=5:=by omega
 ·repeat'((conv=>whnf);first|(intro hq;(try simp only[vw]at hq);try first|exact absurd hq (by decide)|exfalso;omega)|apply aI|with_reducible exact vM rfl|exact⟨⟩|apply nM|apply fM)
  all_goals((try apply vM);(try simp only[vq]at*);try omega)
  all_goals(try omega)
  ·subst hq
   refine Sup.of (congrArg (PV.int .i64) ?_);exact(hn.1:aQ (nmG 1)=1).symm
  refine⟨1,[],⟨⟨by omega,fun j h0 hj=>?_⟩,by omega⟩,?_⟩
  ·by_cases e:j=1
   ·subst e;exact hq
   ·exact hok j h0 (by omega)
  repeat'((conv=>whnf);first|intro _|apply aI|with_reducible exact vM rfl|exact⟨⟩|apply nM|apply fM)
  all_goals((try apply vM);(try simp only[vq]at*);try omega)
 ·repeat'((conv=>whnf);first|(intro hq;(try simp only[vw]at hq);try first|exact absurd hq (by decide)|exfalso;omega)|apply aI|with_reducible exact vM rfl|exact⟨⟩|apply nM|apply fM)
  all_goals((try apply vM);(try simp only[vq]at*);try omega)
  all_goals(try omega)
  ·subst hq
   refine Sup.of (congrArg (PV.int .i64) ?_);exact(hn.2.1:aQ (nmG 2)=2).symm
  refine⟨2,[],⟨⟨by omega,fun j h0 hj=>?_⟩,by omega⟩,?_⟩
  ·by_cases e:j=2
   ·subst e;exact hq
   ·exact hok j h0 (by omega)
  repeat'((conv=>whnf);first|intro _|apply aI|with_reducible exact vM rfl|exact⟨⟩|apply nM|apply fM)
  all_goals((try apply vM);(try simp only[vq]at*);try omega)
 ·repeat'((conv=>whnf);first|(intro hq;(try simp only[vw]at hq);try first|exact absurd hq (by decide)|exfalso;omega)|apply aI|with_reducible exact vM rfl|exact⟨⟩|apply nM|apply fM)
  all_goals((try apply vM);(try simp only[vq]at*);try omega)
  all_goals(try omega)
  ·subst hq
   refine Sup.of (congrArg (PV.int .i64) ?_);exact(hn.2.2.1:aQ (nmG 3)=3).symm
  refine⟨3,[],⟨⟨by omega,fun j h0 hj=>?_⟩,by omega⟩,?_⟩
  ·by_cases e:j=3
   ·subst e;exact hq
   ·exact hok j h0 (by omega)
  repeat'((conv=>whnf);first|intro _|apply aI|with_reducible exact vM rfl|exact⟨⟩|apply nM|apply fM)
  all_goals((try apply vM);(try simp only[vq]at*);try omega)
 ·repeat'((conv=>whnf);first|(intro hq;(try simp only[vw]at hq);try first|exact absurd hq (by decide)|exfalso;omega)|apply aI|with_reducible exact vM rfl|exact⟨⟩|apply nM|apply fM)
  all_goals((try apply vM);(try simp only[vq]at*);try omega)
  all_goals(try omega)
  ·subst hq
   refine Sup.of (congrArg (PV.int .i64) ?_);exact(hn.2.2.2.1:aQ (nmG 4)=4).symm
  refine⟨4,[],⟨⟨by omega,fun j h0 hj=>?_⟩,by omega⟩,?_⟩
  ·by_cases e:j=4
   ·subst e;exact hq
   ·exact hok j h0 (by omega)
  repeat'((conv=>whnf);first|intro _|apply aI|with_reducible exact vM rfl|exact⟨⟩|apply nM|apply fM)
  all_goals((try apply vM);(try simp only[vq]at*);try omega)
 ·repeat'((conv=>whnf);first|(intro hq;(try simp only[vw]at hq);try first|exact absurd hq (by decide)|exfalso;omega)|apply aI|with_reducible exact vM rfl|exact⟨⟩|apply nM|apply fM)
  all_goals((try apply vM);(try simp only[vq]at*);try omega)
  all_goals(try omega)
  ·subst hq
   refine Sup.of (congrArg (PV.int .i64) ?_);exact(hn.2.2.2.2:aQ (nmG 5)=5).symm
  refine⟨5,[],⟨⟨by omega,fun j h0 hj=>?_⟩,by omega⟩,?_⟩
  ·by_cases e:j=5
   ·subst e;exact hq
   ·exact hok j h0 (by omega)
  repeat'((conv=>whnf);first|intro _|apply aI|with_reducible exact vM rfl|exact⟨⟩|apply nM|apply fM)
  all_goals((try apply vM);(try simp only[vq]at*);try omega)
 ·rw[Le fun j h0 hj=>hok j h0 (by omega)]
  repeat'((conv=>whnf);first|(intro hq;(try simp only[vw]at hq);try first|exact absurd hq (by decide)|exfalso;omega)|apply aI|with_reducible exact vM rfl|exact⟨⟩|apply nM|apply fM)
  all_goals((try apply vM);(try simp only[vq]at*);try omega)
  exact Sup.of rfl
def Cx:PSp:=fun xs K=>match xs with
 | [.str r]=>VC (True)∧K (.int .i64 (aQ r))
 |_=>False
theorem SQ:POK Tryz.prog 70 Cx:=by
 intro xs K h;unfold Cx at h;split at h
 ·exact⟨_,h.2,xS _⟩
 ·exact h.elim
def y7:PSp:=fun xs K=>match xs with
 | [.str r]=>∃g:Int,VC (aQ r=g)∧K (.int .i64 g)
 |_=>False
theorem PK:POK Tryz.prog 70 y7:=by
 intro xs K hk;unfold y7 at hk;split at hk
 ·obtain⟨g,⟨rfl⟩,hk⟩:=hk
  exact⟨_,hk,xS _⟩
 ·exact hk.elim
noncomputable def afV:CPT:=aA 70 (aB Cx) noC
theorem abe:aV Tryz.prog afV:=ak (au SQ) aC
theorem Eh (r:ByteArray):aF Tryz.prog 78 [.str r] (.bp (decide (aQ r≤3))):=by
 refine av (md:=1) (rf:=[]) mixed aj abe Tryz.func78 (by rfl) (by rfl) (by rfl) ?_
 repeat'((conv=>whnf);first|intro _|apply aI|with_reducible exact vM rfl|exact⟨⟩|apply nM|apply fM)
 all_goals((try apply vM);(try simp only[vq]at*);try omega)
 all_goals exact Sup.of rfl
theorem J9 (g:Int) (h:1≤g∧g≤5):aF Tryz.prog 77 [.int .i64 g] (.str (nmG g.toNat)):=by
 obtain rfl|rfl|rfl|rfl|rfl:g=1∨g=2∨g=3∨g=4∨g=5:=by omega
 all_goals
  refine av (md:=1) (rf:=[]) mixed aj aC Tryz.func77 (by rfl) (by rfl) (by rfl) ?_
  repeat'((conv=>whnf);first|intro _|apply aI|with_reducible exact vM rfl|exact⟨⟩|apply nM|apply fM)
  all_goals((try apply vM);(try simp only[vq]at*);try omega)
  all_goals exact Sup.of rfl
def Cy:PSp:=fun xs K=>match xs with
 | [.int .i64 g]=>VC (1≤g∧g≤5)∧K (.str (nmG g.toNat))
 |_=>False
theorem SS:POK Tryz.prog 77 Cy:=by
 intro xs K h;unfold Cy at h;split at h
 ·exact⟨_,h.2,J9 _ h.1.get⟩
 ·exact h.elim
noncomputable def afW:CPT:=aA 70 (aB y7) (aA 95 (aB uf) noC)
theorem lU:aV Tryz.prog afW:=ak (au PK) (ak (au rM) aC)
theorem SV (c:Int) (ls:List (List Int)) (sum:Int) (gv:List Int) (h:bH ls) (r:ByteArray) (y x k:Int):
 aF Tryz.prog 64 [pzV c ls sum gv,ddV r y x k] (.int .i64 (dz c ls r y x k)):=by
 have h4:=fun i=>h.at' i;have h2:=h.len;by_cases hg:aQ r=0
 ·rw[show dz c ls r y x k=13 by unfold dz;rw[if_pos hg]]
  refine av (md:=1) (rf:=[]) mixed aj lU Tryz.func64 (by rfl) (by rfl) (by rfl) ?_
  repeat'((conv=>whnf);first|refine Exists.intro (0) ?_|(intro hq;(try simp only[vw]at hq);try first|exact absurd hq (by decide)|exfalso;omega)|apply aI|with_reducible exact vM rfl|exact⟨⟩|apply nM|apply fM)
  all_goals((try apply vM);(try simp only[vq]at*);try omega)
  all_goals first|exact hg|exact Sup.of rfl|skip
 by_cases hy:y<0∨c≤y
 ·rw[show dz c ls r y x k=10 by unfold dz;rw[if_neg hg,if_pos hy]]
  refine av (md:=1) (rf:=[]) mixed aj lU Tryz.func64 (by rfl) (by rfl) (by rfl) ?_
  repeat'((conv=>whnf);first|refine Exists.intro (aQ r) ?_|(intro hq;(try simp only[vw]at hq);try first|exact absurd hq (by decide)|exfalso;omega)|apply aI|with_reducible exact vM rfl|exact⟨⟩|apply nM|apply fM)
  all_goals((try apply vM);(try simp only[vq]at*);try omega)
  all_goals first|(exfalso;contradiction)|exact Sup.of rfl|(exfalso;rcases hy with hy|hy<;>contradiction)|(exfalso;rcases hy with hy|hy<;>simp_all)|skip
 have hy1:¬y<0:=fun e=>hy (.inl e);have hy2:¬c≤y:=fun e=>hy (.inr e);by_cases hx:x<1∨c<x
 ·rw[show dz c ls r y x k=3 by unfold dz;rw[if_neg hg,if_neg hy,if_pos hx]]
  clear hy;refine av (md:=1) (rf:=[]) mixed aj lU Tryz.func64 (by rfl) (by rfl) (by rfl) ?_
  repeat'((conv=>whnf);first|refine Exists.intro (aQ r) ?_|(intro hq;(try simp only[vw]at hq);try first|exact absurd hq (by decide)|exfalso;omega)|apply aI|with_reducible exact vM rfl|exact⟨⟩|apply nM|apply fM)
  all_goals((try apply vM);(try simp only[vq]at*);try omega)
  all_goals first|(exfalso;contradiction)|exact Sup.of rfl|(exfalso;rcases hx with hx|hx<;>contradiction)|(exfalso;rcases hx with hx|hx<;>simp_all)|skip
 have hx1:¬x<1:=fun e=>hx (.inl e);have hx2:¬c<x:=fun e=>hx (.inr e);obtain⟨rfl,hgr⟩|⟨rfl,hgr⟩|⟨rfl,hgr⟩|⟨rfl,hgr⟩|⟨rfl,hgr⟩|hgr:=nA r
 ·rw[show dz c ls bM y x k=if k<0∨ls.length≤k∨y∉ls.getD k.toNat []then 10 else 0 by unfold dz;rw[if_neg (by rw[hgr];decide),if_neg hy,if_neg hx,if_neg (by rw[hgr];decide)]]
  clear hy hx hg;refine av (md:=1) (rf:=[]) mixed aj lU Tryz.func64 (by rfl) (by rfl) (by rfl) ?_
  repeat'((conv=>whnf);first|refine Exists.intro (1) ?_|(intro hq;(try simp only[vw]at hq);try first|exact absurd hq (by decide)|exfalso;omega)|apply aI|with_reducible exact vM rfl|exact⟨⟩|apply nM|apply fM)
  all_goals((try apply vM);(try simp only[vq]at*);try omega)
  all_goals first|exact hgr|(exfalso;contradiction)|(have:=h4 k.toNat;omega)|(exact Sup.of (by simp_all[bG]))|skip
 ·rw[show dz c ls bV y x k=if k≠ -1 then 10 else 0 by unfold dz;rw[if_neg (by rw[hgr];decide),if_neg hy,if_neg hx,if_pos (by rw[hgr];decide)]]
  clear hy hx hg;refine av (md:=1) (rf:=[]) mixed aj lU Tryz.func64 (by rfl) (by rfl) (by rfl) ?_
  repeat'((conv=>whnf);first|refine Exists.intro (2) ?_|(intro hq;(try simp only[vw]at hq);try first|exact absurd hq (by decide)|exfalso;omega)|apply aI|with_reducible exact vM rfl|exact⟨⟩|apply nM|apply fM)
  all_goals((try apply vM);(try simp only[vq]at*);try omega)
  all_goals first|exact hgr|(exfalso;contradiction)|(exact Sup.of (by simp_all[bG]))|skip
 ·rw[show dz c ls bW y x k=if k≠ -1 then 10 else 0 by unfold dz;rw[if_neg (by rw[hgr];decide),if_neg hy,if_neg hx,if_pos (by rw[hgr];decide)]]
  clear hy hx hg;refine av (md:=1) (rf:=[]) mixed aj lU Tryz.func64 (by rfl) (by rfl) (by rfl) ?_
  repeat'((conv=>whnf);first|refine Exists.intro (3) ?_|(intro hq;(try simp only[vw]at hq);try first|exact absurd hq (by decide)|exfalso;omega)|apply aI|with_reducible exact vM rfl|exact⟨⟩|apply nM|apply fM)
  all_goals((try apply vM);(try simp only[vq]at*);try omega)
  all_goals first|exact hgr|(exfalso;contradiction)|(exact Sup.of (by simp_all[bG]))|skip
 ·rw[show dz c ls bT y x k=if k<0∨ls.length≤k∨y∉ls.getD k.toNat []then 10 else 0 by unfold dz;rw[if_neg (by rw[hgr];decide),if_neg hy,if_neg hx,if_neg (by rw[hgr];decide)]]
  clear hy hx hg;refine av (md:=1) (rf:=[]) mixed aj lU Tryz.func64 (by rfl) (by rfl) (by rfl) ?_
  repeat'((conv=>whnf);first|refine Exists.intro (4) ?_|(intro hq;(try simp only[vw]at hq);try first|exact absurd hq (by decide)|exfalso;omega)|apply aI|with_reducible exact vM rfl|exact⟨⟩|apply nM|apply fM)
  all_goals((try apply vM);(try simp only[vq]at*);try omega)
  all_goals first|exact hgr|(exfalso;contradiction)|(have:=h4 k.toNat;omega)|(exact Sup.of (by simp_all[bG]))|skip
 ·rw[show dz c ls bU y x k=if k<0∨ls.length≤k∨y∉ls.getD k.toNat []then 10 else 0 by unfold dz;rw[if_neg (by rw[hgr];decide),if_neg hy,if_neg hx,if_neg (by rw[hgr];decide)]]
  clear hy hx hg;refine av (md:=1) (rf:=[]) mixed aj lU Tryz.func64 (by rfl) (by rfl) (by rfl) ?_
  repeat'((conv=>whnf);first|refine Exists.intro (5) ?_|(intro hq;(try simp only[vw]at hq);try first|exact absurd hq (by decide)|exfalso;omega)|apply aI|with_reducible exact vM rfl|exact⟨⟩|apply nM|apply fM)
  all_goals((try apply vM);(try simp only[vq]at*);try omega)
  all_goals first|exact hgr|(exfalso;contradiction)|(have:=h4 k.toNat;omega)|(exact Sup.of (by simp_all[bG]))|skip
 exact absurd hgr hg
def PL:PSp:=fun xs K=>match xs with
 | [.agg [.int .i64 c,.isl (.rows .i64 ls) .none,.int .i64 sum,.isl (.ints .i64 gv) .none],.agg [.str r,.int .i64 y,.int .i64 x,.int .i64 k]]=>VC (bH ls)∧K (.int .i64 (dz c ls r y x k))
 |_=>False
theorem abf:POK Tryz.prog 64 PL:=by
 intro xs K h;unfold PL at h;split at h
 ·exact⟨_,h.2,SV _ _ _ _ h.1.get _ _ _ _⟩
 ·exact h.elim
theorem V4 {s:St} {y z x:Int} {r used:List Int} (hz:z∈s.cd y.toNat) (hu:z∉used) (hc:chs s r (used++[z]) (x-z)=true):chs s (y::r) used x=true:=by
 unfold chs;rw[aiR];exact⟨z,aiw.2 ⟨hz,by simp[hu]⟩,hc⟩
theorem SX {s:St} {y x:Int} {r used:List Int} (h:∀z∈s.cd y.toNat,z∈used∨chs s r (used++[z]) (x-z)=false):chs s (y::r) used x=false:=by
 unfold chs;rw[aiS];intro z hz;obtain⟨h1,h2⟩:=aiw.1 hz;rcases h z h1 with h3|h3
 ·simp[h3]at h2
 ·rw[h3];simp
structure Cz (c:Int) (ls:List (List Int)) (sum:Int) (s:St) (o used:List Int) (x:Int):Prop where
 bd:bB c ls sum s
 rng:∀y∈o,0≤y∧y<c
 len:o.length+used.length≤30
 x: -2000000000+16*(o.length:Int)≤x∧x≤2000000000
def EX (c:Int) (ls:List (List Int)) (sum:Int) (s:St) (n:Nat):PSp:=fun xs K=>match xs with
 | [.agg [.isl (.rows .i64 CS) .none,.isl (.bools DS) .none],.isl (.ints .i64 o) .none,.isl (.ints .i64 used) .none,.int .i64 x]=>VC (CS=s.cs∧DS=s.ds∧o.length<n∧Cz c ls sum s o used x)∧K (.bp (chs s o used x))
 |_=>False
theorem V5 (c:Int) (ls:List (List Int)) (sum:Int) (s:St):∀n,POK Tryz.prog 136 (EX c ls sum s n):=by
 intro n;induction n with
 |zero=>
  intro xs K hk;unfold EX at hk;split at hk
  ·obtain⟨⟨_,_,h,_⟩,_⟩:=hk;omega
  ·exact hk.elim
 |succ n ih=>
  intro xs K hk;unfold EX at hk;split at hk
  ·rename_i CS DS o used x
   obtain⟨⟨rfl,rfl,hn,h⟩,hk⟩:=hk;refine⟨_,hk,?_⟩;have hC:aV Tryz.prog (aA 95 (aB uf) (aA 136 (aB (EX c ls sum s n)) noC)):=ak (au rM) (ak (au ih) aC);have hb:=h.bd;have hcl:=hb.cl;have hlen:=h.len;have hx:=h.x;cases o with
   |nil=>
    refine av (md:=1) (rf:=[]) mixed aj hC Tryz.func136 (by rfl) (by rfl) (by rfl) ?_
    repeat'((conv=>whnf);first|(intro hq;(try simp only[vw]at hq);try first|exact absurd hq (by decide)|exfalso;omega)|apply aI|with_reducible exact vM rfl|exact⟨⟩|apply nM|apply fM)
    all_goals((try apply vM);(try simp only[vq]at*);try omega)
    all_goals first|exact Sup.of rfl|skip
   |cons y r=>
    have hy:=h.rng y (List.mem_cons_self ..);have hys:=hb.at hy;have hA:=(hb.asc _ hys.1).1;have k16:(s.cs.getD y.toNat []).length≤16:=lM hA;have hr:=hA.rng;refine av (md:=1) (rf:=[]) mixed aj hC Tryz.func136 (by rfl) (by rfl) (by rfl) ?_
    repeat'((conv=>whnf);first|(intro hq;(try simp only[vw]at hq);try first|exact absurd hq (by decide)|exfalso;omega)|apply aI|with_reducible exact vM rfl|exact⟨⟩|apply nM|apply fM)
    all_goals((try apply vM);(try simp only[vq]at*);try omega)
    all_goals(try first|exact hy.1|(show y<(s.cs.length:Int);omega)|(show y.toNat+1≤s.cs.length;omega))
    obtain⟨L,hL⟩:∃L,s.cs.getD y.toNat []=L:=⟨_,rfl⟩;have hLd:s.cd y.toNat=L:=hL;show bJ (.isl (.ints .i64 (s.cs.getD y.toNat [])) .none) _;rw[hL];conv=>whnf
    have hlr:((y::r).length:Int)=r.length+1:=by simp
    have hln:(y::r).length=r.length+1:=rfl;have hch:∀z∈L,Cz c ls sum s r (used++[z]) (x-z):=fun z hz=>by
     have:=hr z (by rw[hLd];exact hz)
     refine⟨hb,fun w hw=>h.rng w (List.mem_cons_of_mem _ hw),?_,?_⟩
     ·rw[ahx,ajH];omega
     ·omega
    refine aJ (X:=Nat) (fun i=>i≤L.length∧∀z∈L.take i,z∈used∨chs s r (used++[z]) (x-z)=false) (fun i=>[(10,.int .i64 i)]) (fun i=>[]) (fun i=>L.length-i) 0 ⟨aG,mixed,aj,hC,aM⟩ (by rfl) ⟨by omega,by simp⟩ ?_ ?_
    ·repeat'((conv=>whnf);first|intro _|apply aI|with_reducible exact vM rfl|exact⟨⟩|apply nM|apply fM)
     all_goals((try apply vM);(try simp only[vq]at*);try omega)
    intro i ⟨hi,hok⟩;rw[hL]at k16;by_cases hlt:i<L.length
    ·have hz:=bK hlt
     have hzr:=hr (L.getD i 0) (by rw[hLd];exact hz)
     have tk:aiW (r.length+1-aiI 1) (aiX (aiI 1) (y::r))=r:=by
      show aiW (r.length+1-1) (aiX 1 (y::r))=r;simp
     have hnx:∀(hx':L.getD i 0∈used∨chs s r (used++[L.getD i 0]) (x-L.getD i 0)=false),∀z∈L.take (i+1),z∈used∨chs s r (used++[z]) (x-z)=false:=fun hx' z hz=>by
      rw[bX hlt]at hz;rcases agu.1 hz with hz|hz
      ·exact hok z hz
      ·rw[ai0]at hz;subst hz;exact hx'
     repeat'((conv=>whnf);first|(intro hq;(try simp only[vw]at hq);try first|exact absurd hq (by decide)|exfalso;omega)|apply aI|with_reducible exact vM rfl|exact⟨⟩|apply nM|apply fM)
     all_goals((try apply vM);(try simp only[vq]at*);try omega)
     all_goals(try rw[tk]at*)
     all_goals(try rw[ajL]at*)
     all_goals(try simp only[ahx,ajH])
     all_goals(try first|omega|exact⟨by omega,hch _ hz⟩)
     ·exact .inl trivial
     ·rw[V4 (by rw[hLd];exact hz) ‹_› hq];exact cu true
     ·refine⟨i+1,[],⟨⟨by omega,hnx (.inr hq)⟩,by omega⟩,?_⟩
      repeat'((conv=>whnf);first|intro _|apply aI|with_reducible exact vM rfl|exact⟨⟩|apply nM|apply fM)
      all_goals((try apply vM);(try simp only[vq]at*);try omega)
     ·refine⟨i+1,[],⟨⟨by omega,hnx (.inl hq)⟩,by omega⟩,?_⟩
      repeat'((conv=>whnf);first|intro _|apply aI|with_reducible exact vM rfl|exact⟨⟩|apply nM|apply fM)
      all_goals((try apply vM);(try simp only[vq]at*);try omega)
    have e:i=L.length:=by omega
    subst e;rw[ail]at hok;rw[SX (by rw[hLd];exact hok)]
    repeat'((conv=>whnf);first|(intro hq;(try simp only[vw]at hq);try first|exact absurd hq (by decide)|exfalso;omega)|apply aI|with_reducible exact vM rfl|exact⟨⟩|apply nM|apply fM)
    all_goals((try apply vM);(try simp only[vq]at*);try omega)
    all_goals first|exact cu false|skip
  ·exact hk.elim
def PN:PSp:=fun xs K=>match xs with
 | [.agg [.isl (.rows .i64 CS) .none,.isl (.bools DS) .none],.isl (.ints .i64 o) .none,.isl (.ints .i64 used) .none,.int .i64 x]=>VC (∃c ls sum,Cz c ls sum ⟨CS,DS⟩ o used x)∧K (.bp (chs ⟨CS,DS⟩ o used x))
 |_=>False
theorem V6:POK Tryz.prog 136 PN:=by
 intro xs K hk;unfold PN at hk;split at hk
 ·rename_i CS DS o used x
  obtain⟨⟨c,ls,sum,h⟩,hk⟩:=hk;exact V5 c ls sum ⟨CS,DS⟩ (o.length+1) _ _ ⟨⟨rfl,rfl,by omega,h⟩,hk⟩
 ·exact hk.elim
structure IK (c:Int) (ls:List (List Int)) (sum:Int) (s:St) (k:Int):Prop where
 bd:bB c ls sum s
 k:0≤k∧k<ls.length
def AQ:PSp:=fun xs K=>match xs with
 | [.agg [.int .i64 c,.isl (.rows .i64 ls) .none,.int .i64 sum,.isl (.ints .i64 gv) .none],.agg [.isl (.rows .i64 CS) .none,.isl (.bools DS) .none],.int .i64 k,.int .i64 b]=>VC (IK c ls sum ⟨CS,DS⟩ k)∧K (.isl (.ints .i64 (opn ⟨CS,DS⟩ (ls.getD k.toNat []) b)) .none)
 |_=>False
theorem IL:POK Tryz.prog 96 AQ:=by
 intro xs K hk;unfold AQ at hk;split at hk
 ·exact⟨_,hk.2,PE _ _ _ _ ⟨_,_⟩ hk.1.get.bd _ _ hk.1.get.k⟩
 ·exact hk.elim
def AU:PSp:=fun xs K=>match xs with
 | [.agg [.int .i64 c,.isl (.rows .i64 ls) .none,.int .i64 sum,.isl (.ints .i64 gv) .none],.agg [.isl (.rows .i64 CS) .none,.isl (.bools DS) .none],.int .i64 k]=>VC (IK c ls sum ⟨CS,DS⟩ k)∧K (.int .i64 (rst ⟨CS,DS⟩ sum (ls.getD k.toNat [])))
 |_=>False
theorem IQ:POK Tryz.prog 97 AU:=by
 intro xs K hk;unfold AU at hk;split at hk
 ·exact⟨_,hk.2,PG _ _ _ _ ⟨_,_⟩ hk.1.get.bd _ hk.1.get.k⟩
 ·exact hk.elim
noncomputable def afX:CPT:=aA 95 (aB uf) (aA 96 (aB AQ) (aA 97 (aB AU) (aA 135 (aB PI) (aA 136 (aB PN) noC))))
theorem eP:aV Tryz.prog afX:=ak (au rM) (ak (au IL) (ak (au IQ) (ak (au abd) (ak (au V6) aC))))
theorem PO (c:Int) (ls:List (List Int)) (sum:Int) (gv:List Int) (s:St) (h:bB c ls sum s) (r:ByteArray) (y x k:Int) (hd:lD c ls r y x k):
 aF Tryz.prog 75 [pzV c ls sum gv,stV s,ddV r y x k] (.bp (okJ (aQ r).toNat s sum (ls.getD k.toNat []) y x)):=by
 have hc:=h.c1;have hy:=hd.y;have hx:=hd.x;have hxs:=h.at hy;have hA:=(h.asc _ hxs.1).1;have k16:(s.cs.getD y.toNat []).length≤16:=lM hA;have hcl:=h.cl;have hdl:=h.dl;have hsm:=h.sm;obtain⟨rfl,hg⟩|⟨rfl,hg⟩|⟨rfl,hg⟩|⟨rfl,hg⟩|⟨rfl,hg⟩|hg:=nA r
 ·have hk:0≤k∧k<ls.length:=by
   have:=hd.k;rw[hg]at this;omega
  have hln:=h.ln k.toNat (by omega)
  have hll:=hln.len;have hb:=p9 h hln.rng (ls.getD k.toNat []).length (agh _);rw[ail]at hb;have hR:IK c ls sum s k:=⟨h,hk⟩;have hol:(opn s (ls.getD k.toNat []) y).length≤16:=ah2 (ai1 _ _) hll;have hor:∀z∈opn s (ls.getD k.toNat []) y,0≤z∧z<c:=fun z hz=>hln.rng z (rO hz);have hB:∃c ls sum,IJ c ls sum ⟨s.cs,s.ds⟩ (opn s (ls.getD k.toNat []) y) (rst s sum (ls.getD k.toNat [])-x):=⟨c,ls,sum,h,hor,hol,by omega,by omega⟩
  have hC:∃c ls sum,Cz c ls sum ⟨s.cs,s.ds⟩ (opn s (ls.getD k.toNat []) y) [x] (rst s sum (ls.getD k.toNat [])-x):=⟨c,ls,sum,h,hor,by rw[ajH];omega,by omega,by omega⟩
  rw[hg];have hs:(⟨s.cs,s.ds⟩:St)=s:=rfl;have hok:okJ (aiI 1) s sum (ls.getD k.toNat []) y x=(!s.dc y.toNat&&(decide (x∈s.cd y.toNat)&&qc s sum (ls.getD k.toNat []) y x)):=rfl;rw[hok];by_cases hdc:s.ds.getD y.toNat false=true
  ·rw[show s.dc y.toNat=true from hdc,ag0,aiD]
   refine av (md:=1) (rf:=[]) mixed aj eP Tryz.func75 (by rfl) (by rfl) (by rfl) ?_
   repeat'((conv=>whnf);first|(intro hq;(try simp only[vw]at hq);try first|exact absurd hq (by decide)|exfalso;omega)|apply aI|with_reducible exact vM rfl|exact⟨⟩|apply nM|apply fM)
   all_goals((try apply vM);(try simp only[vq]at*);try omega)
   all_goals first|omega|exact cu false|(exfalso;simp_all;done)|(rw[show(⟨s.cs,s.ds⟩:St)=s from rfl];first|omega|exact hB|exact hC)|skip
  have hdc:s.ds.getD y.toNat false=false:=by simpa using hdc
  by_cases hm:x∈s.cs.getD y.toNat []
  case neg=>
   rw[show decide (x∈s.cd y.toNat)=false from decide_eq_false hm,aiD,aix];refine av (md:=1) (rf:=[]) mixed aj eP Tryz.func75 (by rfl) (by rfl) (by rfl) ?_
   repeat'((conv=>whnf);first|(intro hq;(try simp only[vw]at hq);try first|exact absurd hq (by decide)|exfalso;omega)|apply aI|with_reducible exact vM rfl|exact⟨⟩|apply nM|apply fM)
   all_goals((try apply vM);(try simp only[vq]at*);try omega)
   all_goals first|omega|exact cu false|(exfalso;simp_all;done)|(rw[show(⟨s.cs,s.ds⟩:St)=s from rfl];first|omega|exact hB|exact hC)|skip
  rw[show s.dc y.toNat=false from hdc,show decide (x∈s.cd y.toNat)=true from decide_eq_true hm,agZ,ai2,ai2];refine av (md:=1) (rf:=[]) mixed aj eP Tryz.func75 (by rfl) (by rfl) (by rfl) ?_
  repeat'((conv=>whnf);first|(intro hq;(try simp only[vw]at hq);try first|exact absurd hq (by decide)|exfalso;omega)|apply aI|with_reducible exact vM rfl|exact⟨⟩|apply nM|apply fM)
  all_goals((try apply vM);(try simp only[vq]at*);try omega)
  all_goals(try rw[show(⟨s.cs,s.ds⟩:St)=s from rfl])
  all_goals(try rw[show(⟨s.cs,s.ds⟩:St)=s from rfl]at hq)
  all_goals(try first|omega|exact hB|exact hC|(exfalso;exact(‹¬x∈s.cs.getD y.toNat []›) hm)|(exfalso;simp_all;done))
  ·rw[show qc s sum (ls.getD k.toNat []) y x=decide (rst s sum (ls.getD k.toNat [])-x=0) by unfold qc;rw[decide_eq_true (by omega),ai2];exact decide_eq_decide.2 (by omega)]
   exact Sup.of rfl
  ·rw[show qc s sum (ls.getD k.toNat []) y x=false by unfold qc;rw[decide_eq_false (by omega),aiD]]
   exact cu false
 ·rw[hg]
  have hB:True:=trivial;have hC:True:=trivial;have hs:(⟨s.cs,s.ds⟩:St)=s:=rfl;have hok:okJ (aiI 2) s sum (ls.getD k.toNat []) y x=(!s.dc y.toNat&&(decide (x∈s.cd y.toNat)&&tV s y)):=rfl;rw[hok];by_cases hdc:s.ds.getD y.toNat false=true
  ·rw[show s.dc y.toNat=true from hdc,ag0,aiD]
   refine av (md:=1) (rf:=[]) mixed aj eP Tryz.func75 (by rfl) (by rfl) (by rfl) ?_
   repeat'((conv=>whnf);first|(intro hq;(try simp only[vw]at hq);try first|exact absurd hq (by decide)|exfalso;omega)|apply aI|with_reducible exact vM rfl|exact⟨⟩|apply nM|apply fM)
   all_goals((try apply vM);(try simp only[vq]at*);try omega)
   all_goals first|omega|exact cu false|(exfalso;simp_all;done)|(rw[show(⟨s.cs,s.ds⟩:St)=s from rfl];first|omega|exact hB|exact hC)|skip
  have hdc:s.ds.getD y.toNat false=false:=by simpa using hdc
  by_cases hm:x∈s.cs.getD y.toNat []
  case neg=>
   rw[show decide (x∈s.cd y.toNat)=false from decide_eq_false hm,aiD,aix];refine av (md:=1) (rf:=[]) mixed aj eP Tryz.func75 (by rfl) (by rfl) (by rfl) ?_
   repeat'((conv=>whnf);first|(intro hq;(try simp only[vw]at hq);try first|exact absurd hq (by decide)|exfalso;omega)|apply aI|with_reducible exact vM rfl|exact⟨⟩|apply nM|apply fM)
   all_goals((try apply vM);(try simp only[vq]at*);try omega)
   all_goals first|omega|exact cu false|(exfalso;simp_all;done)|(rw[show(⟨s.cs,s.ds⟩:St)=s from rfl];first|omega|exact hB|exact hC)|skip
  rw[show s.dc y.toNat=false from hdc,show decide (x∈s.cd y.toNat)=true from decide_eq_true hm,agZ,ai2,ai2];refine av (md:=1) (rf:=[]) mixed aj eP Tryz.func75 (by rfl) (by rfl) (by rfl) ?_
  repeat'((conv=>whnf);first|(intro hq;(try simp only[vw]at hq);try first|exact absurd hq (by decide)|exfalso;omega)|apply aI|with_reducible exact vM rfl|exact⟨⟩|apply nM|apply fM)
  all_goals((try apply vM);(try simp only[vq]at*);try omega)
  all_goals(try rw[show(⟨s.cs,s.ds⟩:St)=s from rfl])
  all_goals(try rw[show(⟨s.cs,s.ds⟩:St)=s from rfl]at hq)
  all_goals(try first|omega|exact hB|exact hC|(exfalso;exact(‹¬x∈s.cs.getD y.toNat []›) hm)|(exfalso;simp_all;done))
  ·rw[show tV s y=decide (((s.cs.getD y.toNat []).length:Int)=1) by unfold tV St.cd;exact decide_eq_decide.2 (by omega)]
   exact Sup.of rfl
 ·rw[hg]
  have hs:(⟨s.cs,s.ds⟩:St)=s:=rfl;have hB:True:=trivial;have hC:True:=trivial;have hok:okJ (aiI 3) s sum (ls.getD k.toNat []) y x=(!s.dc y.toNat&&(decide (x∈s.cd y.toNat)&&l8 s y x)):=rfl;rw[hok];by_cases hdc:s.ds.getD y.toNat false=true
  ·rw[show s.dc y.toNat=true from hdc,ag0,aiD]
   refine av (md:=1) (rf:=[]) mixed aj eP Tryz.func75 (by rfl) (by rfl) (by rfl) ?_
   repeat'((conv=>whnf);first|(intro hq;(try simp only[vw]at hq);try first|exact absurd hq (by decide)|exfalso;omega)|apply aI|with_reducible exact vM rfl|exact⟨⟩|apply nM|apply fM)
   all_goals((try apply vM);(try simp only[vq]at*);try omega)
   all_goals first|omega|exact cu false|(exfalso;simp_all;done)|(rw[show(⟨s.cs,s.ds⟩:St)=s from rfl];first|omega|exact hB|exact hC)|skip
  have hdc:s.ds.getD y.toNat false=false:=by simpa using hdc
  by_cases hm:x∈s.cs.getD y.toNat []
  case neg=>
   rw[show decide (x∈s.cd y.toNat)=false from decide_eq_false hm,aiD,aix];refine av (md:=1) (rf:=[]) mixed aj eP Tryz.func75 (by rfl) (by rfl) (by rfl) ?_
   repeat'((conv=>whnf);first|(intro hq;(try simp only[vw]at hq);try first|exact absurd hq (by decide)|exfalso;omega)|apply aI|with_reducible exact vM rfl|exact⟨⟩|apply nM|apply fM)
   all_goals((try apply vM);(try simp only[vq]at*);try omega)
   all_goals first|omega|exact cu false|(exfalso;simp_all;done)|(rw[show(⟨s.cs,s.ds⟩:St)=s from rfl];first|omega|exact hB|exact hC)|skip
  rw[show s.dc y.toNat=false from hdc,show decide (x∈s.cd y.toNat)=true from decide_eq_true hm,agZ,ai2,ai2];refine av (md:=1) (rf:=[]) mixed aj eP Tryz.func75 (by rfl) (by rfl) (by rfl) ?_
  repeat'((conv=>whnf);first|(intro hq;(try simp only[vw]at hq);try first|exact absurd hq (by decide)|exfalso;omega)|apply aI|with_reducible exact vM rfl|exact⟨⟩|apply nM|apply fM)
  all_goals((try apply vM);(try simp only[vq]at*);try omega)
  all_goals(try rw[show(⟨s.cs,s.ds⟩:St)=s from rfl])
  all_goals(try rw[show(⟨s.cs,s.ds⟩:St)=s from rfl]at hq)
  all_goals(try first|omega|exact hB|exact hC|(exfalso;exact(‹¬x∈s.cs.getD y.toNat []›) hm)|(exfalso;simp_all;done))
  conv=>whnf
  refine aJ (X:=Nat) (fun i=>i≤s.cs.length∧∀j,j<i→(decide ((j:Int)=y)||!decide (x∈s.cd j))=true) (fun i=>[(7,.int .i64 i)]) (fun i=>[]) (fun i=>s.cs.length-i) 0 ⟨aG,mixed,aj,eP,aM⟩ (by rfl) ⟨by omega,fun j hj=>by omega⟩ ?_ ?_
  ·repeat'((conv=>whnf);first|intro _|apply aI|with_reducible exact vM rfl|exact⟨⟩|apply nM|apply fM)
   all_goals((try apply vM);(try simp only[vq]at*);try omega)
  intro i ⟨hi,hall⟩;by_cases hlt:i<s.cs.length
  ·have k17:(s.cs.getD i []).length≤16:=lM (h.asc i hlt).1
   have hno:x∈s.cs.getD i []→(i:Int)≠y→l8 s y x=false:=fun h1 h2=>by
    unfold l8;rw[ajA];exact⟨i,ah5.2 hlt,by rw[decide_eq_false h2,show decide (x∈s.cd i)=true from decide_eq_true h1];decide⟩
   have hnx:((i:Int)=y∨x∉s.cs.getD i [])→∀j,j<i+1→(decide ((j:Int)=y)||!decide (x∈s.cd j))=true:=fun h1 j hj=>by
    by_cases e:j=i
    ·subst e
     rcases h1 with h1|h1
     ·rw[decide_eq_true h1];rfl
     ·rw[show decide (x∈s.cd j)=false from decide_eq_false h1];simp
    ·exact hall j (by omega)
   repeat'((conv=>whnf);first|(intro hq;(try simp only[vw]at hq);try first|exact absurd hq (by decide)|exfalso;omega)|apply aI|with_reducible exact vM rfl|exact⟨⟩|apply nM|apply fM)
   all_goals((try apply vM);(try simp only[vq]at*);try omega)
   all_goals(try omega)
   ·rw[hno (by assumption) (by assumption)];exact cu false
   ·refine⟨i+1,[],⟨⟨by omega,hnx (.inr (by assumption))⟩,by omega⟩,?_⟩
    repeat'((conv=>whnf);first|intro _|apply aI|with_reducible exact vM rfl|exact⟨⟩|apply nM|apply fM)
    all_goals((try apply vM);(try simp only[vq]at*);try omega)
   ·refine⟨i+1,[],⟨⟨by omega,hnx (.inl (by omega))⟩,by omega⟩,?_⟩
    repeat'((conv=>whnf);first|intro _|apply aI|with_reducible exact vM rfl|exact⟨⟩|apply nM|apply fM)
    all_goals((try apply vM);(try simp only[vq]at*);try omega)
  have e:i=s.cs.length:=by omega
  subst e;have ht:l8 s y x=true:=by
   unfold l8;rw[ahP];exact fun j hj=>hall j (ah5.1 hj)
  rw[ht]
  repeat'((conv=>whnf);first|(intro hq;(try simp only[vw]at hq);try first|exact absurd hq (by decide)|exfalso;omega)|apply aI|with_reducible exact vM rfl|exact⟨⟩|apply nM|apply fM)
  all_goals((try apply vM);(try simp only[vq]at*);try omega)
  all_goals first|omega|exact cu true|skip
 ·have hk:0≤k∧k<ls.length:=by
   have:=hd.k;rw[hg]at this;omega
  have hln:=h.ln k.toNat (by omega)
  have hll:=hln.len;have hb:=p9 h hln.rng (ls.getD k.toNat []).length (agh _);rw[ail]at hb;have hR:IK c ls sum s k:=⟨h,hk⟩;have hol:(opn s (ls.getD k.toNat []) y).length≤16:=ah2 (ai1 _ _) hll;have hor:∀z∈opn s (ls.getD k.toNat []) y,0≤z∧z<c:=fun z hz=>hln.rng z (rO hz);have hB:∃c ls sum,IJ c ls sum ⟨s.cs,s.ds⟩ (opn s (ls.getD k.toNat []) y) (rst s sum (ls.getD k.toNat [])-x):=⟨c,ls,sum,h,hor,hol,by omega,by omega⟩
  have hC:∃c ls sum,Cz c ls sum ⟨s.cs,s.ds⟩ (opn s (ls.getD k.toNat []) y) [x] (rst s sum (ls.getD k.toNat [])-x):=⟨c,ls,sum,h,hor,by rw[ajH];omega,by omega,by omega⟩
  rw[hg];have hs:(⟨s.cs,s.ds⟩:St)=s:=rfl;have hok:okJ (aiI 4) s sum (ls.getD k.toNat []) y x=(!s.dc y.toNat&&(decide (x∈s.cd y.toNat)&&tX s sum (ls.getD k.toNat []) y x)):=rfl;rw[hok];by_cases hdc:s.ds.getD y.toNat false=true
  ·rw[show s.dc y.toNat=true from hdc,ag0,aiD]
   refine av (md:=1) (rf:=[]) mixed aj eP Tryz.func75 (by rfl) (by rfl) (by rfl) ?_
   repeat'((conv=>whnf);first|(intro hq;(try simp only[vw]at hq);try first|exact absurd hq (by decide)|exfalso;omega)|apply aI|with_reducible exact vM rfl|exact⟨⟩|apply nM|apply fM)
   all_goals((try apply vM);(try simp only[vq]at*);try omega)
   all_goals first|omega|exact cu false|(exfalso;simp_all;done)|(rw[show(⟨s.cs,s.ds⟩:St)=s from rfl];first|omega|exact hB|exact hC)|skip
  have hdc:s.ds.getD y.toNat false=false:=by simpa using hdc
  by_cases hm:x∈s.cs.getD y.toNat []
  case neg=>
   rw[show decide (x∈s.cd y.toNat)=false from decide_eq_false hm,aiD,aix];refine av (md:=1) (rf:=[]) mixed aj eP Tryz.func75 (by rfl) (by rfl) (by rfl) ?_
   repeat'((conv=>whnf);first|(intro hq;(try simp only[vw]at hq);try first|exact absurd hq (by decide)|exfalso;omega)|apply aI|with_reducible exact vM rfl|exact⟨⟩|apply nM|apply fM)
   all_goals((try apply vM);(try simp only[vq]at*);try omega)
   all_goals first|omega|exact cu false|(exfalso;simp_all;done)|(rw[show(⟨s.cs,s.ds⟩:St)=s from rfl];first|omega|exact hB|exact hC)|skip
  rw[show s.dc y.toNat=false from hdc,show decide (x∈s.cd y.toNat)=true from decide_eq_true hm,agZ,ai2,ai2];refine av (md:=1) (rf:=[]) mixed aj eP Tryz.func75 (by rfl) (by rfl) (by rfl) ?_
  repeat'((conv=>whnf);first|(intro hq;(try simp only[vw]at hq);try first|exact absurd hq (by decide)|exfalso;omega)|apply aI|with_reducible exact vM rfl|exact⟨⟩|apply nM|apply fM)
  all_goals((try apply vM);(try simp only[vq]at*);try omega)
  all_goals(try rw[show(⟨s.cs,s.ds⟩:St)=s from rfl])
  all_goals(try rw[show(⟨s.cs,s.ds⟩:St)=s from rfl]at hq)
  all_goals(try first|omega|exact hB|exact hC|(exfalso;exact(‹¬x∈s.cs.getD y.toNat []›) hm)|(exfalso;simp_all;done))
  ·exact⟨c,ls,sum,h,hor,hol,by omega,by omega⟩
  ·rw[abb];exact Sup.of rfl
 ·have hk:0≤k∧k<ls.length:=by
   have:=hd.k;rw[hg]at this;omega
  have hln:=h.ln k.toNat (by omega)
  have hll:=hln.len;have hb:=p9 h hln.rng (ls.getD k.toNat []).length (agh _);rw[ail]at hb;have hR:IK c ls sum s k:=⟨h,hk⟩;have hol:(opn s (ls.getD k.toNat []) y).length≤16:=ah2 (ai1 _ _) hll;have hor:∀z∈opn s (ls.getD k.toNat []) y,0≤z∧z<c:=fun z hz=>hln.rng z (rO hz);have hB:∃c ls sum,IJ c ls sum ⟨s.cs,s.ds⟩ (opn s (ls.getD k.toNat []) y) (rst s sum (ls.getD k.toNat [])-x):=⟨c,ls,sum,h,hor,hol,by omega,by omega⟩
  have hC:∃c ls sum,Cz c ls sum ⟨s.cs,s.ds⟩ (opn s (ls.getD k.toNat []) y) [x] (rst s sum (ls.getD k.toNat [])-x):=⟨c,ls,sum,h,hor,by rw[ajH];omega,by omega,by omega⟩
  rw[hg];have hs:(⟨s.cs,s.ds⟩:St)=s:=rfl;have hok:okJ (aiI 5) s sum (ls.getD k.toNat []) y x=(!s.dc y.toNat&&(decide (x∈s.cd y.toNat)&&qd s sum (ls.getD k.toNat []) y x)):=rfl;rw[hok];by_cases hdc:s.ds.getD y.toNat false=true
  ·rw[show s.dc y.toNat=true from hdc,ag0,aiD]
   refine av (md:=1) (rf:=[]) mixed aj eP Tryz.func75 (by rfl) (by rfl) (by rfl) ?_
   repeat'((conv=>whnf);first|(intro hq;(try simp only[vw]at hq);try first|exact absurd hq (by decide)|exfalso;omega)|apply aI|with_reducible exact vM rfl|exact⟨⟩|apply nM|apply fM)
   all_goals((try apply vM);(try simp only[vq]at*);try omega)
   all_goals first|omega|exact cu false|(exfalso;simp_all;done)|(rw[show(⟨s.cs,s.ds⟩:St)=s from rfl];first|omega|exact hB|exact hC)|skip
  have hdc:s.ds.getD y.toNat false=false:=by simpa using hdc
  by_cases hm:x∈s.cs.getD y.toNat []
  case neg=>
   rw[show decide (x∈s.cd y.toNat)=false from decide_eq_false hm,aiD,aix];refine av (md:=1) (rf:=[]) mixed aj eP Tryz.func75 (by rfl) (by rfl) (by rfl) ?_
   repeat'((conv=>whnf);first|(intro hq;(try simp only[vw]at hq);try first|exact absurd hq (by decide)|exfalso;omega)|apply aI|with_reducible exact vM rfl|exact⟨⟩|apply nM|apply fM)
   all_goals((try apply vM);(try simp only[vq]at*);try omega)
   all_goals first|omega|exact cu false|(exfalso;simp_all;done)|(rw[show(⟨s.cs,s.ds⟩:St)=s from rfl];first|omega|exact hB|exact hC)|skip
  rw[show s.dc y.toNat=false from hdc,show decide (x∈s.cd y.toNat)=true from decide_eq_true hm,agZ,ai2,ai2];refine av (md:=1) (rf:=[]) mixed aj eP Tryz.func75 (by rfl) (by rfl) (by rfl) ?_
  repeat'((conv=>whnf);first|(intro hq;(try simp only[vw]at hq);try first|exact absurd hq (by decide)|exfalso;omega)|apply aI|with_reducible exact vM rfl|exact⟨⟩|apply nM|apply fM)
  all_goals((try apply vM);(try simp only[vq]at*);try omega)
  all_goals(try rw[show(⟨s.cs,s.ds⟩:St)=s from rfl])
  all_goals(try rw[show(⟨s.cs,s.ds⟩:St)=s from rfl]at hq)
  all_goals(try first|omega|exact hB|exact hC|(exfalso;exact(‹¬x∈s.cs.getD y.toNat []›) hm)|(exfalso;simp_all;done))
  ·exact⟨c,ls,sum,h,hor,by rw[ajH];omega,by omega,by omega⟩
  ·rw[show qd s sum (ls.getD k.toNat []) y x=!chs s (opn s (ls.getD k.toNat []) y) [x] (rst s sum (ls.getD k.toNat [])-x) by unfold qd;rw[decide_eq_true (by omega),ai2]]
   exact Sup.of rfl
  ·rw[show qd s sum (ls.getD k.toNat []) y x=false by unfold qd;rw[decide_eq_false (by omega),aiD]]
   exact cu false
 have:=hd.g;omega
def IU:PSp:=fun xs K=>match xs with
 | [.agg [.int .i64 c,.isl (.rows .i64 ls) .none,.int .i64 sum,.isl (.ints .i64 gv) .none],.agg [.isl (.rows .i64 CS) .none,.isl (.bools DS) .none],.agg [.str r,.int .i64 y,.int .i64 x,.int .i64 k]]=>
  VC (bB c ls sum ⟨CS,DS⟩∧lD c ls r y x k)∧K (.bp (okJ (aQ r).toNat ⟨CS,DS⟩ sum (ls.getD k.toNat []) y x))
 |_=>False
theorem V7:POK Tryz.prog 75 IU:=by
 intro xs K hk;unfold IU at hk;split at hk
 ·exact⟨_,hk.2,PO _ _ _ _ ⟨_,_⟩ hk.1.get.1 _ _ _ _ hk.1.get.2⟩
 ·exact hk.elim
theorem IV (l:List Int) (x:Int) (hl:l.length≤1000000):aF Tryz.prog 138 [.isl (.ints .i64 l) .none,.int .i64 x] (.isl (.ints .i64 (dw l x)) .none):=by
 have ha:∀i,i<l.length→dw (l.take (i+1)) x=dw (l.take i) x++if l.getD i 0≠x then [l.getD i 0]else []:=fun i hi=>by
  rw[bX hi];unfold dw;rw[ajh];congr 1;by_cases e:l.getD i 0=x
  ·rw[if_neg (fun h=>h e)];simp only[aji,decide_eq_true e,ag0,ajj];rfl
  ·rw[if_pos e];simp only[aji,decide_eq_false e,agZ,ajj];rfl
 have hb:∀i,i≤l.length→(dw (l.take i) x).length≤i:=fun i hi=>ah2 (ai1 _ _) (by rw[ag6];omega)
 refine av (md:=1) (rf:=[]) mixed aj aC Tryz.func138 (by rfl) (by rfl) (by rfl) ?_
 repeat'((conv=>whnf);first|intro _|apply aI|with_reducible exact vM rfl|exact⟨⟩|apply nM|apply fM)
 all_goals((try apply vM);(try simp only[vq]at*);try omega)
 conv=>whnf
 refine aJ (X:=Nat) (fun i=>i≤l.length) (fun i=>[(6,.int .i64 i),(5,.isl (.ints .i64 (dw (l.take i) x)) (.own 3))]) (fun i=>[(3,.tok 1 (dw (l.take i) x).length)]) (fun i=>l.length-i) 0 ⟨aG,mixed,aj,aC,aM⟩ (by rfl) (by omega) ?_ ?_
 ·repeat'((conv=>whnf);first|intro _|apply aI|with_reducible exact vM rfl|exact⟨⟩|apply nM|apply fM)
  all_goals((try apply vM);(try simp only[vq]at*);try omega)
  all_goals rfl
 intro i hi;by_cases hlt:i<l.length
 ·have hx:=ha i hlt
  have hbi:=hb i (by omega)
  repeat'((conv=>whnf);first|(intro hq;(try simp only[vw]at hq);try first|exact absurd hq (by decide)|exfalso;omega)|apply aI|with_reducible exact vM rfl|exact⟨⟩|apply nM|apply fM)
  all_goals((try apply vM);(try simp only[vq]at*);try omega)
  all_goals(try first|omega|(rw[ahx,ajH];omega))
  ·rw[if_pos hq]at hx
   refine⟨i+1,[],⟨by omega,by omega⟩,?_⟩
   rw[hx,ahx]
   repeat'((conv=>whnf);first|intro _|apply aI|with_reducible exact vM rfl|exact⟨⟩|apply nM|apply fM)
   all_goals((try apply vM);(try simp only[vq]at*);try omega)
  ·rw[if_neg hq,aib]at hx
   refine⟨i+1,[],⟨by omega,by omega⟩,?_⟩
   rw[hx]
   repeat'((conv=>whnf);first|intro _|apply aI|with_reducible exact vM rfl|exact⟨⟩|apply nM|apply fM)
   all_goals((try apply vM);(try simp only[vq]at*);try omega)
 ·have:i=l.length:=by omega
  subst this;rw[ail]
  repeat'((conv=>whnf);first|(intro hq;(try simp only[vw]at hq);try first|exact absurd hq (by decide)|exfalso;omega)|apply aI|with_reducible exact vM rfl|exact⟨⟩|apply nM|apply fM)
  all_goals((try apply vM);(try simp only[vq]at*);try omega)
  all_goals first|omega|exact Sup.of rfl
def y8:PSp:=fun xs K=>match xs with
 | [.isl (.ints .i64 l) .none,.int .i64 x]=>VC (l.length≤1000000)∧K (.isl (.ints .i64 (dw l x)) .none)
 |_=>False
theorem PS:POK Tryz.prog 138 y8:=by
 intro xs K h;unfold y8 at h;split at h
 ·exact⟨_,h.2,IV _ _ h.1.get⟩
 ·exact h.elim
theorem PU (s:St) (hs:s.ds.length≤1000000):aF Tryz.prog 27 [stV s] (.bp (don s)):=by
 refine av (md:=1) (rf:=[]) mixed aj aC Tryz.func27 (by rfl) (by rfl) (by rfl) ?_
 repeat'((conv=>whnf);first|intro _|apply aI|with_reducible exact vM rfl|exact⟨⟩|apply nM|apply fM)
 all_goals((try apply vM);(try simp only[vq]at*);try omega)
 conv=>whnf
 refine aJ (X:=Nat) (fun i=>i≤s.ds.length∧∀j,j<i→s.ds.getD j false=true) (fun i=>[(3,.int .i64 i)]) (fun i=>[]) (fun i=>s.ds.length-i) 0 ⟨aG,mixed,aj,aC,aM⟩ (by rfl) ⟨by omega,fun j hj=>by omega⟩ ?_ ?_
 ·repeat'((conv=>whnf);first|intro _|apply aI|with_reducible exact vM rfl|exact⟨⟩|apply nM|apply fM)
  all_goals((try apply vM);(try simp only[vq]at*);try omega)
 intro i ⟨hi,hok⟩;by_cases hlt:i<s.ds.length
 ·repeat'((conv=>whnf);first|(intro hq;(try simp only[vw]at hq);try first|exact absurd hq (by decide)|exfalso;omega)|apply aI|with_reducible exact vM rfl|exact⟨⟩|apply nM|apply fM)
  all_goals((try apply vM);(try simp only[vq]at*);try omega)
  all_goals(try omega)
  ·have hm:s.ds.getD i false∈s.ds:=by rw[agt,agy hlt];exact List.getElem_mem _
   have hf:don s=false:=by
    unfold don;rw[aiR.2 ⟨s.ds.getD i false,hm,by rw[hq];rfl⟩];rfl
   rw[hf];exact cu false
  ·refine⟨i+1,[],⟨⟨by omega,fun j hj=>?_⟩,by omega⟩,?_⟩
   ·by_cases e:j=i
    ·subst e;exact hq
    ·exact hok j (by omega)
   repeat'((conv=>whnf);first|intro _|apply aI|with_reducible exact vM rfl|exact⟨⟩|apply nM|apply fM)
   all_goals((try apply vM);(try simp only[vq]at*);try omega)
 have e:i=s.ds.length:=by omega
 subst e;have ht:don s=true:=by
  unfold don;rw[ajn,aiS];intro b hb;obtain⟨j,hj,rfl⟩:=agx hb;have:=hok j hj;rw[agt,agy hj]at this;rw[show s.ds[j]=true from this];simp
 rw[ht]
 repeat'((conv=>whnf);first|(intro hq;(try simp only[vw]at hq);try first|exact absurd hq (by decide)|exfalso;omega)|apply aI|with_reducible exact vM rfl|exact⟨⟩|apply nM|apply fM)
 all_goals((try apply vM);(try simp only[vq]at*);try omega)
 all_goals first|omega|exact cu true
def frK (gv:List Int) (k:Nat):List Int:=((agr k).map fun i:Nat=>(i:Int)+1).filter fun y=>!decide (y∈gv)
theorem V8 (gv:List Int) (k:Nat):frK gv (k+1)=frK gv k++if(k:Int)+1∈gv then []else [(k:Int)+1]:=by
 unfold frK;rw[List.range_succ,aik,ajh];congr 1;by_cases e:(k:Int)+1∈gv
 ·rw[if_pos e];simp only[aie,ajy,aji,decide_eq_true e];rfl
 ·rw[if_neg e];simp only[aie,ajy,aji,decide_eq_false e];rfl
theorem LJ (gv:List Int) (k:Nat):(frK gv k).length≤k:=ah2 (ai1 _ _) (by simp)
noncomputable def afY:CPT:=aA 95 (aB uf) noC
theorem CB:aV Tryz.prog afY:=ak (au rM) aC
theorem Kc (c:Int) (ls:List (List Int)) (sum:Int) (gv:List Int) (h:cZ c ls sum gv):aF Tryz.prog 25 [pzV c ls sum gv] (stV (bgn c gv)):=by
 have hc:=h.c1;have hg:=h.gl;refine av (md:=1) (rf:=[]) mixed aj CB Tryz.func25 (by rfl) (by rfl) (by rfl) ?_
 repeat'((conv=>whnf);first|intro _|apply aI|with_reducible exact vM rfl|exact⟨⟩|apply nM|apply fM)
 all_goals((try apply vM);(try simp only[vq]at*);try omega)
 conv=>whnf
 refine aJ (X:=Nat) (fun k=>k≤c.toNat) (fun k=>[(4,.int .i64 ((k:Int)+1)),(3,.isl (.ints .i64 (frK gv k)) (.own 5))]) (fun k=>[(5,.tok 1 (frK gv k).length)]) (fun k=>c.toNat-k) 0 ⟨aG,mixed,aj,CB,aM⟩ (by rfl) (by omega) ?_ ?_
 ·repeat'((conv=>whnf);first|intro _|apply aI|with_reducible exact vM rfl|exact⟨⟩|apply nM|apply fM)
  all_goals((try apply vM);(try simp only[vq]at*);try omega)
  all_goals rfl
 intro k hk;by_cases hlt:k<c.toNat
 ·have hx:=V8 gv k
  have hl:=LJ gv k
  repeat'((conv=>whnf);first|(intro hq;(try simp only[vw]at hq);try first|exact absurd hq (by decide)|exfalso;omega)|apply aI|with_reducible exact vM rfl|exact⟨⟩|apply nM|apply fM)
  all_goals((try apply vM);(try simp only[vq]at*);try omega)
  all_goals(try first|omega|(rw[ahx,ajH];omega))
  ·rw[if_neg hq]at hx
   refine⟨k+1,[],⟨by omega,by omega⟩,?_⟩
   rw[hx,ahx]
   repeat'((conv=>whnf);first|intro _|apply aI|with_reducible exact vM rfl|exact⟨⟩|apply nM|apply fM)
   all_goals((try apply vM);(try simp only[vq]at*);try omega)
  ·rw[if_pos hq,aib]at hx
   refine⟨k+1,[],⟨by omega,by omega⟩,?_⟩
   rw[hx]
   repeat'((conv=>whnf);first|intro _|apply aI|with_reducible exact vM rfl|exact⟨⟩|apply nM|apply fM)
   all_goals((try apply vM);(try simp only[vq]at*);try omega)
 have e:k=c.toNat:=by omega
 subst e;have hfr:frK gv c.toNat=frL c gv:=rfl;have hfl:(frL c gv).length≤c.toNat:=LJ gv c.toNat;rw[hfr]
 repeat'((conv=>whnf);first|(intro hq;(try simp only[vw]at hq);try first|exact absurd hq (by decide)|exfalso;omega)|apply aI|with_reducible exact vM rfl|exact⟨⟩|apply nM|apply fM)
 all_goals((try apply vM);(try simp only[vq]at*);try omega)
 all_goals(try omega)
 conv=>whnf
 refine aJ (X:=Nat) (fun i=>i≤gv.length) (fun i=>[(6,.int .i64 i),(3,.isl (.ints .i64 (frL c gv)) .none)]) (fun i=>[(8,.cells (.pv [.isl (.rows .i64 (jJ c gv (gv.take i))) (.own 20),.isl (.bools (jq (gv.take i))) (.own 21)]) false),(20,.tok 1 i),(21,.tok 1 i)]) (fun i=>gv.length-i) 0 ⟨aG,mixed,aj,CB,aM⟩ (by rfl) (by omega) ?_ ?_
 ·repeat'((conv=>whnf);first|intro _|apply aI|with_reducible exact vM rfl|exact⟨⟩|apply nM|apply fM)
  all_goals((try apply vM);(try simp only[vq]at*);try omega)
  all_goals(try rfl)
 intro i hi;have hbl:(jJ c gv (gv.take i)).length=i∧(jq (gv.take i)).length=i:=by
  constructor
  ·unfold jJ;rw[aif,ag6];omega
  ·unfold jq;rw[aif,ag6];omega
 by_cases hlt:i<gv.length
 ·have e0:=bX hlt
  have ec:∀q:List Int,(if 0<gv.getD i 0 then [gv.getD i 0]else frL c gv)=q→jJ c gv (gv.take (i+1))=jJ c gv (gv.take i)++[q]:=fun q hq=>by
   rw[e0,←hq];unfold jJ;rw[aik];rfl
  have ed:jq (gv.take (i+1))=jq (gv.take i)++[decide (0<gv.getD i 0)]:=by rw[e0];unfold jq;rw[aik];rfl
  repeat'((conv=>whnf);first|(intro hq;(try simp only[vw]at hq);try first|exact absurd hq (by decide)|exfalso;omega)|apply aI|with_reducible exact vM rfl|exact⟨⟩|apply nM|apply fM)
  all_goals((try apply vM);(try simp only[vq]at*);try omega)
  all_goals(try first|omega|(simp only[ahx,agb,af7];omega))
  ·refine⟨i+1,[],⟨by omega,by omega⟩,?_⟩
   rw[ec _ (if_pos hq),ed]
   repeat'((conv=>whnf);first|intro _|apply aI|with_reducible exact vM rfl|exact⟨⟩|apply nM|apply fM)
   all_goals((try apply vM);(try simp only[vq]at*);try omega)
  ·exact .inl trivial
  ·refine⟨i+1,[],⟨by omega,by omega⟩,?_⟩
   rw[ec _ (if_neg hq),ed]
   repeat'((conv=>whnf);first|intro _|apply aI|with_reducible exact vM rfl|exact⟨⟩|apply nM|apply fM)
   all_goals((try apply vM);(try simp only[vq]at*);try omega)
 have e:i=gv.length:=by omega
 subst e;rw[ail]
 repeat'((conv=>whnf);first|(intro hq;(try simp only[vw]at hq);try first|exact absurd hq (by decide)|exfalso;omega)|apply aI|with_reducible exact vM rfl|exact⟨⟩|apply nM|apply fM)
 all_goals((try apply vM);(try simp only[vq]at*);try omega)
 all_goals first|omega|exact Sup.of rfl|skip
theorem PW (s:St) (h1:1≤s.cs.length∧s.cs.length≤1000) (h2:1≤s.ds.length∧s.ds.length≤1000) (h3:∀i,i<s.cs.length→(s.cs.getD i []).length≤1000):
 jM Tryz.prog 137 [stV s] [] [.agg [.rsl 0 0 s.cs.length,.rsl 1 0 s.ds.length]] [.cells (.rows .i64 s.cs) false,.cells (.bools s.ds) false]:=by
 refine bL (md:=1) (rf:=[22,27]) mixed aj aC 0 [(20,0),(8,1)] Tryz.func137 (by rfl) (by rfl) (by rfl) ?_
 repeat'((conv=>whnf);first|(intro hq;(try simp only[vw]at hq);try first|exact absurd hq (by decide)|exfalso;omega)|apply aI|with_reducible exact vM rfl|exact⟨⟩|apply nM|apply fM)
 all_goals((try apply vM);(try simp only[vq]at*);try omega)
 all_goals(try omega)
 conv=>whnf
 refine F9 (X:=Nat) (fun i=>1≤i∧i≤s.cs.length) (fun i=>[(4,.int .i64 i)]) (fun i=>[(2,.cells (.pv [.rsl 20 0 i,.nils]) false),(20,.cells (.rows .i64 (s.cs.take i)) false)]) (fun i=>s.cs.length-i) s.cs.length ⟨aG,mixed,aj,aC,aM⟩ (by rfl) ?_ ?_
 ·have:=h3 (aiI 0) (show 0<s.cs.length by omega)
  have e1:s.cs.take 1=[s.cs.getD (aiI 0) []]:=by
   rw[show aiI 0=0 from rfl];cases h:s.cs with
   |nil=>rw[h]at h1;simp at h1
   |cons a r=>rfl
  repeat'((conv=>whnf);first|(intro hq;(try simp only[vw]at hq);try first|exact absurd hq (by decide)|exfalso;omega)|apply aI|with_reducible exact vM rfl|exact⟨⟩|apply nM|apply fM)
  all_goals((try apply vM);(try simp only[vq]at*);try omega)
  all_goals(try first|omega|exact .inl trivial|(rw[ajL];omega))
  refine⟨1,[(6,20)],⟨⟨by omega,by omega⟩,by omega⟩,?_⟩
  rw[e1]
  repeat'((conv=>whnf);first|intro _|apply aI|with_reducible exact vM rfl|exact⟨⟩|apply nM|apply fM)
  all_goals((try apply vM);(try simp only[vq]at*);try omega)
 ·intro i ⟨hi1,hi2⟩
  by_cases hlt:i<s.cs.length
  ·have:=h3 i hlt
   have e1:(s.cs.take i).length=i:=by rw[ag6];omega
   have e2:s.cs.take i++[s.cs.getD i []]=s.cs.take (i+1):=by rw[aij,agt,agy hlt];rfl
   repeat'((conv=>whnf);first|(intro hq;(try simp only[vw]at hq);try first|exact absurd hq (by decide)|exfalso;omega)|apply aI|with_reducible exact vM rfl|exact⟨⟩|apply nM|apply fM)
   all_goals((try apply vM);(try simp only[vq]at*);try omega)
   all_goals(try first|omega|exact .inl trivial|(rw[ajL];omega))
   refine⟨i+1,[(6,20)],⟨⟨by omega,by omega⟩,by omega⟩,?_⟩
   repeat'((conv=>whnf);first|intro _|apply aI|with_reducible exact vM rfl|exact⟨⟩|apply nM|apply fM)
   all_goals((try apply vM);(try simp only[vq]at*);try omega)
   all_goals(try(rw[bP e1,ajL,e2]))
  ·have:i=s.cs.length:=by omega
   subst this;rw[ail]
   repeat'((conv=>whnf);first|(intro hq;(try simp only[vw]at hq);try first|exact absurd hq (by decide)|exfalso;omega)|apply aI|with_reducible exact vM rfl|exact⟨⟩|apply nM|apply fM)
   all_goals((try apply vM);(try simp only[vq]at*);try omega)
   all_goals(try rfl)
def IW:LSp:=fun xs objs K=>match xs,objs with
 | [.agg [.isl (.rows .i64 CS) .none,.isl (.bools DS) .none]],[]=>VC ((1≤CS.length∧CS.length≤1000)∧(1≤DS.length∧DS.length≤1000)∧∀i,i<CS.length→(CS.getD i []).length≤1000)∧K [.agg [.rsl 0 0 CS.length,.rsl 1 0 DS.length]] [.cells (.rows .i64 CS) false,.cells (.bools DS) false]
 |_,_=>False
theorem V9:LOK Tryz.prog 137 IW:=by
 intro xs objs K hk;unfold IW at hk;split at hk
 ·exact⟨_,_,hk.2,PW ⟨_,_⟩ hk.1.get.1 hk.1.get.2.1 hk.1.get.2.2⟩
 ·exact hk.elim
def PX (b:Bool):PSp:=fun xs K=>match xs with
 | [.str r]=>VC (decide (aQ r≤3)=b)∧K (.bp b)
 |_=>False
theorem abg (b:Bool):POK Tryz.prog 78 (PX b):=by
 intro xs K hk;unfold PX at hk;split at hk
 ·obtain⟨⟨rfl⟩,hk⟩:=hk
  exact⟨_,hk,Eh _⟩
 ·exact hk.elim
noncomputable def afZ (b:Bool):CPT:=aA 78 (aB (PX b)) (aA 137 (eG [] IW) (aA 138 (aB y8) noC))
theorem LK (b:Bool):aV Tryz.prog (afZ b):=ak (au (abg b)) (ak (dF [] V9) (ak (au PS) aC))
def apW (cs:List (List Int)) (y x:Int) (i:Nat):List (List Int):=(agr cs.length).map fun j=>if j<i∧(j:Int)≠y then dw (cs.getD j []) x else cs.getD j []
theorem jH {cs:List (List Int)} {y x:Int} {i:Nat}:(apW cs y x i).length=cs.length:=by simp[apW]
theorem nH {cs:List (List Int)} {y x:Int} {i j:Nat} (hj:j<cs.length):(apW cs y x i).getD j []=if j<i∧(j:Int)≠y then dw (cs.getD j []) x else cs.getD j []:=by
 simp[apW,agt,hj]
theorem Wd {cs:List (List Int)} {y x:Int}:apW cs y x 0=cs:=yX jH fun j hj=>by
 rw[jH]at hj;rw[nH hj,if_neg (by omega)]
theorem Wh {cs:List (List Int)} {y x:Int} {i:Nat} (h:(i:Int)=y):apW cs y x (i+1)=apW cs y x i:=yX (by rw[jH,jH]) fun j hj=>by
 rw[jH]at hj;rw[nH hj,nH hj];by_cases e:j=i
 ·subst e;rw[if_neg (fun q=>q.2 h),if_neg (fun q=>q.2 h)]
 ·by_cases q:j<i∧(j:Int)≠y
  ·rw[if_pos q,if_pos ⟨by omega,q.2⟩]
  ·rw[if_neg q,if_neg (fun q'=>q ⟨by omega,q'.2⟩)]
theorem Wi {cs:List (List Int)} {y x:Int} {i:Nat} (h:(i:Int)≠y) (hi:i<cs.length):(apW cs y x i).set i (dw ((apW cs y x i).getD i []) x)=apW cs y x (i+1):=yX (by rw[agT,jH,jH]) fun j hj=>by
 rw[agT,jH]at hj;rw[nH hj];by_cases e:j=i
 ·subst e
  rw[if_pos ⟨by omega,h⟩,nH hj,if_neg (by omega),agt,List.getElem?_set_self (by rw[jH];exact hj)];rfl
 ·rw[agt,List.getElem?_set_ne (fun q=>e q.symm),←agt,nH hj]
  by_cases q:j<i∧(j:Int)≠y
  ·rw[if_pos q,if_pos ⟨by omega,q.2⟩]
  ·rw[if_neg q,if_neg (fun q'=>q ⟨by omega,q'.2⟩)]
theorem SY (c:Int) (ls:List (List Int)) (sum:Int) (s:St) (h:bB c ls sum s) (r:ByteArray) (y x k:Int) (hd:lD c ls r y x k):aF Tryz.prog 76 [stV s,ddV r y x k] (stV (apl (aQ r).toNat s y x)):=by
 have hc:=h.c1;have hcl:=h.cl;have hdl:=h.dl;have hy:=hd.y;have hg:=hd.g;have h16:∀i,i<s.cs.length→(s.cs.getD i []).length≤1000:=fun i hi=>by have:=lM (h.asc i hi).1;unfold St.cd at this;omega
 have hyl:y.toNat<s.cs.length:=by omega
 have h17:=h16 _ hyl;have e1:aiW (s.cs.length-0) (aiX 0 s.cs)=s.cs:=bP rfl;have e2:aiW (s.ds.length-0) (aiX 0 s.ds)=s.ds:=bP rfl;have t25:Uc.size=1:=by rfl
 have e4:s.cd y.toNat=s.cs.getD y.toNat []:=rfl;by_cases hb:aQ r≤3
 case neg=>
  have hb2:decide (aQ r≤3)=false:=decide_eq_false hb;have ea:apl (aQ r).toNat s y x=⟨s.cs.set y.toNat (dw (s.cd y.toNat) x),s.ds⟩:=by unfold apl;rw[if_neg (by omega)]
  rw[ea];have hC:=LK false;refine av (md:=1) (rf:=[]) mixed aj hC Tryz.func76 (by rfl) (by rfl) (by rfl) ?_
  repeat'((conv=>whnf);first|(intro hq;(try simp only[vw]at hq);try first|exact absurd hq (by decide)|exfalso;omega)|apply aI|with_reducible exact vM rfl|exact⟨⟩|apply nM|apply fM)
  all_goals((try apply vM);(try simp only[vq]at*);try omega)
  all_goals(try rw[t25,agP]at*)
  all_goals(try first|omega|exact⟨⟨by omega,by omega⟩,⟨by omega,by omega⟩,h16⟩|(rw[agT];omega))
  rw[e4];exact Sup.of (by rw[show(CL.rows .i64 (s.cs.set y.toNat (dw (s.cs.getD y.toNat []) x))).sub 0 s.cs.length=.rows .i64 (s.cs.set y.toNat (dw (s.cs.getD y.toNat []) x))from congrArg (CL.rows .i64) (bP (agT ..)),show(CL.bools s.ds).sub 0 s.ds.length=.bools s.ds from congrArg CL.bools e2];rfl)
 have hb2:decide (aQ r≤3)=true:=decide_eq_true hb;have ea:apl (aQ r).toNat s y x=⟨(apW s.cs y x s.cs.length).set y.toNat [x],s.ds.set y.toNat true⟩:=by
  unfold apl;rw[if_pos (by omega)]
  congr 1
  refine aja (by simp[apW]) fun j h1 h2=>?_
  have hj:j<s.cs.length:=by simpa using h1
  by_cases e:j=y.toNat
  ·subst e;simp
  ·rw[ajs (fun q=>e q.symm),ajs (fun q=>e q.symm)]
   simp only[apW,List.getElem_map,List.getElem_range];rw[if_pos ⟨hj,by omega⟩,agt,agy hj];rfl
 rw[ea];have hC:=LK true;refine av (md:=1) (rf:=[]) mixed aj hC Tryz.func76 (by rfl) (by rfl) (by rfl) ?_
 repeat'((conv=>whnf);first|(intro hq;(try simp only[vw]at hq);try first|exact absurd hq (by decide)|exfalso;omega)|apply aI|with_reducible exact vM rfl|exact⟨⟩|apply nM|apply fM)
 all_goals((try apply vM);(try simp only[vq]at*);try omega)
 all_goals(try first|omega|exact⟨⟨by omega,by omega⟩,⟨by omega,by omega⟩,h16⟩)
 conv=>whnf
 refine aJ (X:=Nat) (fun i=>i≤s.cs.length) (fun i=>[(6,.int .i64 i)]) (fun i=>[(3,.cells (.rows .i64 (apW s.cs y x i)) false)]) (fun i=>s.cs.length-i) 0 ⟨aG,mixed,aj,hC,aM⟩ (by rfl) (by omega) ?_ ?_
 ·rw[Wd]
  repeat'((conv=>whnf);first|intro _|apply aI|with_reducible exact vM rfl|exact⟨⟩|apply nM|apply fM)
  all_goals((try apply vM);(try simp only[vq]at*);try omega)
 intro i hi;have hwl:=jH (cs:=s.cs) (y:=y) (x:=x) (i:=i);by_cases hlt:i<s.cs.length
 ·have hw:((apW s.cs y x i).getD i []).length≤1000000:=by rw[nH hlt,if_neg (by omega)];have:=h16 i hlt;omega
  repeat'((conv=>whnf);first|(intro hq;(try simp only[vw]at hq);try first|exact absurd hq (by decide)|exfalso;omega)|apply aI|with_reducible exact vM rfl|exact⟨⟩|apply nM|apply fM)
  all_goals((try apply vM);(try simp only[vq]at*);try omega)
  all_goals(try rw[t25,agP]at*)
  all_goals(try omega)
  ·refine⟨i+1,[],⟨by omega,by omega⟩,?_⟩
   rw[←Wi hq hlt]
   repeat'((conv=>whnf);first|intro _|apply aI|with_reducible exact vM rfl|exact⟨⟩|apply nM|apply fM)
   all_goals((try apply vM);(try simp only[vq]at*);try omega)
  ·refine⟨i+1,[],⟨by omega,by omega⟩,?_⟩
   rw[Wh (by omega)]
   repeat'((conv=>whnf);first|intro _|apply aI|with_reducible exact vM rfl|exact⟨⟩|apply nM|apply fM)
   all_goals((try apply vM);(try simp only[vq]at*);try omega)
 ·have:i=s.cs.length:=by omega
  subst this
  repeat'((conv=>whnf);first|(intro hq;(try simp only[vw]at hq);try first|exact absurd hq (by decide)|exfalso;omega)|apply aI|with_reducible exact vM rfl|exact⟨⟩|apply nM|apply fM)
  all_goals((try apply vM);(try simp only[vq]at*);try omega)
  all_goals(try rw[t25,agP]at*)
  all_goals(try first|omega|(rw[agT];omega))
  obtain⟨A,hA⟩:∃A,apW s.cs y x s.cs.length=A:=⟨_,rfl⟩;rw[hA]at hwl⊢;exact Sup.of (by rw[show(CL.rows .i64 (A.set y.toNat [x])).sub 0 s.cs.length=.rows .i64 (A.set y.toNat [x])from congrArg (CL.rows .i64) (bP ((agT ..).trans hwl)),show(CL.bools (s.ds.set y.toNat true)).sub 0 s.ds.length=.bools (s.ds.set y.toNat true)from congrArg CL.bools (bP (agT ..))];rfl)
end Go.Eng.YtcechbdgokjmgaaGreatDoor
