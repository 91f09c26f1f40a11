/- Contracts of functions of the program: what each returns. Their conditions stand in them. -/
import Derived.Shelf.Strings.BuilderF
import Derived.Test.YtcechbdgokjmgaaGreatDoorHImagesb
open Array renaming length_toList→agG,getElem?_modify→af9
open Bool renaming and_eq_true→ags,or_eq_true→ahA,not_eq_true'→ajb,true_and→aiQ,false_and→air
open Classical renaming not_not→agY
open Int renaming toNat_zero→ajl,toNat→aiw,le_refl→ajt,mul_le_mul→ajy,mul_nonneg→ajz
open List renaming range→agc,ext_getElem→aiY,all_eq_true→ahD,mem_range→ahT,getD_eq_getElem?_getD→agf,getElem?_eq_getElem→agl,mergeSort_perm→ajg,mem_map→aiT,pairwise_map→ajh,length_set→agH,getElem?_set→agF,replicate→agr,length_replicate→aji,pairwise_iff_getElem→ajj,any_eq_true→aiF,length_take→agU,take_length→ah6,foldl_append→ait,take→aiK,drop→aiL,length_map→ah2,length_drop→aiW,length_append→ahl,length_cons→afY,length_nil→afU,mem_append→agh,mem_singleton→aiO,mem_cons→ahu,append_nil→ahZ,map_append→ah5,take_add_one→ah4,splitAt→ajm,all_eq_false→ajn,getElem_of_mem→agk,takeWhile→ajo,dropWhile→ajp,takeWhile_append_dropWhile→ajq,nil_append→ajr,drop_zero→aiM,take_of_length_le→ai2,foldl_cons→ajs,pairwise_cons→ahv,mem_filter→aij,getElem_inj→aju,length_eq_one_iff→ajv,eq_nil_of_length_eq_zero→ajw
open Nat renaming not_lt_zero→ajk,min_eq_left→agM,le_refl→af3,beq→agn,eq_of_beq_eq_true→agt,sub_zero→aiN,beq_refl→ajx,ble→agp
namespace Go.Eng.YtcechbdgokjmgaaGreatDoor
open Go.Proofs
set_option linter.unusedSimpArgs false
set_option linter.unusedVariables false
theorem G8 {l:List Int} (h:mO l=true):bV l=(agc l.length).map fun i:Nat=>(i:Int)+1:=by
 refine aiY (by rw[jG];simp) fun i h1 h2=>?_
 have hi:i<l.length:=by rw[jG]at h1;exact h1
 have:=ahD.1 h i (ahT.2 hi);rw[decide_eq_true_eq,agf,agl h1]at this;rw[show(bV l)[i]=(i:Int)+1 from this];simp
theorem wP {l:List Int} (h:mO l=true):∀x∈l,1≤x∧x≤l.length:=fun x hx=>by
 have hp:x∈bV l:=(ajg l _).mem_iff.2 hx;rw[G8 h,aiT]at hp;obtain⟨i,hi,rfl⟩:=hp;have:=ahT.1 hi;omega
theorem Rk {l:List Int} (h:mO l=true):l.Nodup:=by
 have hp:(bV l).Perm l:=ajg l _;rw[G8 h]at hp;refine hp.nodup_iff.1 ?_;rw[List.Nodup,ajh];exact List.nodup_range.imp fun hne e=>hne (by omega)
def lV (gv nv:List Int):Prop:=gv.length=nv.length∧∀i,i<nv.length→gv.getD i 0=0∨gv.getD i 0=nv.getD i 0
theorem lV.set0 {gv nv:List Int} (h:lV gv nv) (y:Nat):lV (gv.set y 0) nv:=by
 refine⟨by rw[agH];exact h.1,fun i hi=>?_⟩
 rw[agf,agF];split
 ·left;split<;>rfl
 ·rw[←agf];exact h.2 i hi
theorem lV.set1 {gv nv:List Int} (h:lV gv nv) (y:Nat):lV (gv.set y (nv.getD y 0)) nv:=by
 refine⟨by rw[agH];exact h.1,fun i hi=>?_⟩
 rw[agf,agF];split
 ·rename_i e;subst e;right;rw[if_pos (by have:=h.1;omega)];rfl
 ·rw[←agf];exact h.2 i hi
theorem lV.refl (nv:List Int):lV nv nv:=⟨rfl,fun i _=>.inr rfl⟩
theorem Rl {c:Int} {ls:List (List Int)} (hb:eU c ls=0):dF c ls 0 (agr c.toNat 0):=by
 unfold eU at hb;simp only[aJ]at hb;have hsy:fC c ls=0:=by
  by_cases e:fC c ls=0
  ·exact e
  ·rw[if_neg e]at hb;exact absurd hb e
 rw[if_pos hsy]at hb;have hc16:¬16<c:=fun e=>by rw[if_pos e]at hb;simp at hb
 rw[if_neg hc16,if_pos rfl]at hb;have hls:ls.length≠0:=fun e=>by rw[if_pos e]at hb;simp at hb
 unfold fC at hsy;have hcr:¬(c<1∨256<c):=fun e=>by rw[if_pos e]at hsy;cases hsy
 rw[if_neg hcr]at hsy;have hln:¬128<ls.length:=fun e=>by rw[if_pos e]at hsy;cases hsy
 rw[if_neg hln]at hsy;have hlE:=fP hsy;refine⟨by omega,by omega,fun i hi=>?_,by omega,by rw[aji];omega,fun x hx=>?_,fun i j hij hj hpos e=>?_⟩
 ·have hL:=hlE i hi
  unfold gV at hL;have hne:¬(ls.getD i []).length=0:=fun e=>by rw[if_pos e]at hL;cases hL
  rw[if_neg hne]at hL;have hst:cZ (bP c (ls.getD i [])) (ls.getD i []).length=0:=by
   by_cases e:cZ (bP c (ls.getD i [])) (ls.getD i []).length=0
   ·exact e
   ·rw[if_pos e]at hL;exact hL
  have hst:=fP hst;have hk:∀k,k<(ls.getD i []).length→(0≤(ls.getD i []).getD k 0∧(ls.getD i []).getD k 0<c)∧(0<k→(ls.getD i []).getD (k-1) 0<(ls.getD i []).getD k 0):=fun k hk=>by
   have:=hst k hk;unfold bP at this;have h1:¬((ls.getD i []).getD k 0<0∨c≤(ls.getD i []).getD k 0):=fun e=>by rw[if_pos e]at this;cases this
   rw[if_neg h1]at this;refine⟨by omega,fun h0=>?_⟩
   have h2:¬(0<k∧(ls.getD i []).getD k 0≤(ls.getD i []).getD (k-1) 0):=fun e=>by rw[if_pos e]at this;cases this
   omega
  have hr:∀x∈ls.getD i [],0≤x∧x<c:=fun x hx=>by
   obtain⟨k,h1,rfl⟩:=(dM _ x).1 hx;exact(hk k h1).1
  have hp:=xw fun k h0 h1=>(hk k h1).2 h0;have:=GI hp hr (by omega)
  exact⟨by omega,by omega,hr,hp⟩
 ·rw[(List.mem_replicate.1 hx).2];omega
 ·rw[aji]at hj
  rw[agf,List.getElem?_replicate,if_pos hj]at hpos;simp at hpos
theorem adi {c:Int} {ls:List (List Int)} {sum:Int} {gv nv:List Int} (hb:eU c ls=0) (hl:(nv.length:Int)=c) (hn:mO nv=true) (hs: -999999999≤sum∧sum≤999999999) (h:lV gv nv):dF c ls sum gv:=by
 have h0:=Rl hb;have hr:=wP hn;have hd:=Rk hn;have hgl:=h.1;refine⟨h0.c1,h0.ll,h0.ln,hs,by omega,fun x hx=>?_,fun i j hij hj hpos e=>?_⟩
 ·have hc:=h0.c1
  obtain⟨i,hi,rfl⟩:=(dM _ x).1 hx;rcases h.2 i (by omega)with e|e
  ·rw[e];omega
  ·have:=hr (nv.getD i 0) (gu (by omega))
   rw[e];omega
 ·have e1:gv.getD j 0=nv.getD j 0:=by
   rcases h.2 j (by omega)with e'|e'
   ·omega
   ·exact e'
  have e2:gv.getD i 0=nv.getD i 0:=by
   rcases h.2 i (by omega)with e'|e'
   ·omega
   ·exact e'
  rw[e1,e2]at e;have:=ajj.1 hd i j (by omega) (by omega) hij
  rw[agf,agf,agl (show i<nv.length by omega),agl (show j<nv.length by omega)]at e
  exact this e
end Go.Eng.YtcechbdgokjmgaaGreatDoor
namespace Go.Eng.YtcechbdgokjmgaaGreatDoor
open Go.Proofs
set_option linter.unusedSimpArgs false
set_option linter.unusedVariables false
set_option maxHeartbeats 0
set_option maxRecDepth 100000
def Oc:LSp:=fun xs objs K=>match xs,objs with
 | [.agg [.int .i64 c,.isl (.rows .i64 ls) .none,.int .i64 sum,.isl (.ints .i64 gv) .none]],[]=>VC ((1≤gv.length∧gv.length≤1000000)∧ls.length≤5000∧∀i,i<ls.length→1≤(ls.getD i []).length∧(ls.getD i []).length≤5000)∧K [.agg [.int .i64 c,.isl (.rows .i64 ls) .none,.int .i64 sum,.rsl 0 0 gv.length]] [.cells (.ints .i64 gv) false]
 |_,_=>False
theorem aai:LOK Tryz.prog 124 Oc:=by
 intro xs objs K hk;unfold Oc at hk;split at hk
 ·exact⟨_,_,hk.2,xA _ _ _ _ hk.1.get.1 hk.1.get.2.1 hk.1.get.2.2⟩
 ·exact hk.elim
def He:PSp:=fun xs K=>match xs with
 | [.agg [.int .i64 c,.isl (.rows .i64 ls) .none],.isl (.ints .i64 f) .none]=>VC (bK ls∧f.length≤2000000∧sO c ls f=0∧qP f ls)∧K (.tup [.bp (decide (oo (gU f ls ls.length)<0)),.int .i64 0])
 |_=>False
theorem UH:POK Tryz.prog 122 He:=by
 intro xs K hk;unfold He at hk;split at hk
 ·exact⟨_,hk.2,DN _ _ _ hk.1.get.1 hk.1.get.2.1 hk.1.get.2.2.1 hk.1.get.2.2.2⟩
 ·exact hk.elim
def mkS (c:Int) (ls:List (List Int)) (sum:Int) (nv:List Int) (g:Nat) (gv:List Int) (y:Int):List Int:=
 if(sol c ls sum (gv.set y.toNat 0) g).2.2≠0 then(gv.set y.toNat 0).set y.toNat (nv.getD y.toNat 0)else gv.set y.toNat 0
noncomputable def afs:CPT:=aA 88 (aB jf) (aA 89 (aB eG) (aA 93 (aB zP) (aA 98 (aB qo) (aA 99 (jH zX) (aA 121 (aB vH) (aA 122 (aB He) (aA 123 (aB Eo) (aA 124 (dV [] Oc) noC))))))))
theorem mP:aU Tryz.prog afs:=aj (au iI) (aj (au iR) (aj (au Gh) (aj (au xu) (aj (gJ GN) (aj (au Jw) (aj (au UH) (aj (au KA) (aj (dh [] aai) aC))))))))
def BK (c:Int) (ls:List (List Int)) (nv:List Int) (g:Int):Int:=aJ [eU c ls,jl g,if(nv.length:Int)≠c then 2 else 0]
def UJ (ls:List (List Int)) (nv:List Int):Bool:=decide (oo (gU nv ls ls.length)<0)
def Hf (c:Int) (ls:List (List Int)) (nv ov:List Int) (g:Int):(Int × List (List Int) × Int × List Int) × Int:=
 if BK c ls nv g≠0 then((0,[],0,[]),BK c ls nv g)else if(iU nv).2≠0∨(iU nv).1=false then((0,[],0,[]),1)else if UJ ls nv=false then((0,[],0,[]),16)
 else if(ov.length:Int)≠c∨gF 5 ov≠0 then((0,[],0,[]),14)
 else((c,ls,gq nv (ls.getD 0 []) (ls.getD 0 []).length,ov.foldl (mkS c ls (gq nv (ls.getD 0 []) (ls.getD 0 []).length) nv g.toNat) nv),0)
abbrev pzT (p:Int × List (List Int) × Int × List Int):PV:=pzV p.1 p.2.1 p.2.2.1 p.2.2.2
theorem zZ (e:Int):Sup (bE [PV.agg [.int .i64 0,.nils,.int .i64 0,.nils],.int .i64 e]) (.tup [pzT (0,[],0,[]),.int .i64 e]):=by all_goals(refine Sup.via ?_;repeat'((conv=>whnf);first|intro _|apply aI|with_reducible exact vM rfl|exact⟨⟩|apply nM|apply fM);all_goals((try apply vM);(try simp only[vq]at*);try omega);all_goals(try(simp[CL.sub];done)))
theorem Rm (c:Int) (ls:List (List Int)) (nv ov:List Int) (g:Int) (h:bK ls) (hn:nv.length≤5000) (ho:ov.length≤5000):
 aF Tryz.prog 53 [.agg [.int .i64 c,.isl (.rows .i64 ls) .none],.isl (.ints .i64 nv) .none,.isl (.ints .i64 ov) .none,.int .i64 g] (.tup [pzT (Hf c ls nv ov g).1,.int .i64 (Hf c ls nv ov g).2]):=by
 unfold Hf;by_cases h1:BK c ls nv g=0
 case neg=>
  rw[if_pos h1];refine bF (md:=1) (rf:=[]) mixed ak mP Tryz.func53 (by rfl) (by rfl) (by rfl) ?_
  repeat'((conv=>whnf);first|(intro hq;(try simp only[vw]at hq);try first|exact absurd hq (by decide)|exfalso;omega)|apply aI|with_reducible exact vM rfl|exact⟨⟩|apply nM|apply fM)
  all_goals((try apply vM);(try simp only[vq]at*);try omega)
  all_goals first|exact h|exact zZ _|(exfalso;exact ‹¬aJ [_,_,_]≠0› h1)|skip
 rw[if_neg (by rw[h1];simp)]
 have hb:eU c ls=0:=by
  by_cases e:eU c ls=0
  ·exact e
  ·exact absurd ((iQ [eU c ls,jl g,if(nv.length:Int)≠c then 2 else 0] 0 (by simp) (fun i hi=>absurd hi (ajk i)) e).symm.trans h1) e
 by_cases h2:(iU nv).2≠0∨(iU nv).1=false
 ·rw[if_pos h2]
  refine bF (md:=1) (rf:=[]) mixed ak mP Tryz.func53 (by rfl) (by rfl) (by rfl) ?_
  repeat'((conv=>whnf);first|(intro hq;(try simp only[vw]at hq);try first|exact absurd hq (by decide)|exfalso;omega)|apply aI|with_reducible exact vM rfl|exact⟨⟩|apply nM|apply fM)
  all_goals((try apply vM);(try simp only[vq]at*);try omega)
  all_goals first|exact h|exact zZ _|(exfalso;exact ‹aJ [_,_,_]≠0› h1)|omega|(exfalso;rcases h2 with h2|h2<;>simp_all;done)|skip
 rw[if_neg h2];obtain⟨hlc,hnr,hi⟩:(nv.length:Int)=c∧mO nv=true∧iU nv=(true,0):=by
  have a1:(iU nv).2=0:=agY.1 fun e=>h2 (.inl e);have a2:(iU nv).1=true:=by
   cases e:(iU nv).1 with
   |true=>rfl
   |false=>exact absurd (.inr e) h2
  have a3:cfE nv=0:=by
   by_cases e:cfE nv=0
   ·exact e
   ·unfold iU at a1;rw[if_pos e]at a1;exact absurd a1 e
  refine⟨?_,?_,Prod.ext a2 a1⟩
  ·by_cases e:(nv.length:Int)=c
   ·exact e
   ·unfold BK at h1
    rw[if_pos e,hb]at h1;by_cases eg:jl g=0
    ·rw[eg]at h1;simp[aJ]at h1
    ·have:=iQ [0,jl g,2] 1 (by simp) (fun i hi=>by(have:i=0:=by omega);subst this;rfl) eg
     rw[this]at h1;exact absurd h1 eg
  ·unfold iU at a2;rw[if_neg (by rw[a3];simp)]at a2;exact a2
 have hp:=Rl hb;have hfil:bK ls∧nv.length≤2000000∧sO c ls nv=0∧qP nv ls:=by
  have hr:=wP hnr;have hc:=hp.c1;have hN:∀x∈nv,0≤x∧x≤16:=fun x hx=>by have:=hr x hx;omega
  refine⟨h,by omega,?_,⟨hp.ll.1,by have:=hp.ll;omega⟩,fun i hi=>?_⟩
  ·have e1:fC c ls=0:=by
    by_cases e:fC c ls=0
    ·exact e
    ·unfold eU at hb
     exact absurd ((iQ [fC c ls,if 16<c then 20 else 0,if ls.length=0 then 12 else 0] 0 (by simp) (fun i hi=>absurd hi (ajk i)) e).symm.trans hb) e
   have e2:sM nv=0:=by
    unfold sM;rw[if_neg];intro e;rw[aiF]at e;obtain⟨x,hx,e⟩:=e;have:=hN x hx;unfold sK at e;simp at e;omega
   unfold sO;rw[e1,e2,if_neg (by omega)];rfl
  ·have hL:=hp.ln i hi
   refine⟨by have:=hL.len;omega,fun x hx=>by have:=hL.rng x hx;omega,fun k hk=>?_⟩
   have:=wN hN ((ls.getD i []).take k);have e:gq nv (ls.getD i []) k=jN nv ((ls.getD i []).take k):=rfl;rw[agU,agM hk]at this;have:=hL.len;omega
 have hi1:(iU nv).1=true:=by rw[hi]
 have hi2:(iU nv).2=0:=by rw[hi]
 cases h3:UJ ls nv with
 |false=>
  have h3':¬oo (gU nv ls ls.length)<0:=of_decide_eq_false h3;rw[if_pos rfl];refine bF (md:=1) (rf:=[]) mixed ak mP Tryz.func53 (by rfl) (by rfl) (by rfl) ?_
  repeat'((conv=>whnf);first|(intro hq;(try simp only[vw]at hq);try first|exact absurd hq (by decide)|exfalso;omega)|apply aI|with_reducible exact vM rfl|exact⟨⟩|apply nM|apply fM)
  all_goals((try apply vM);(try simp only[vq]at*);try omega)
  all_goals first|exact h|exact hfil|exact zZ _|(exfalso;exact ‹aJ [_,_,_]≠0› h1)|(exfalso;exact h3' (by assumption))|omega|(exfalso;simp_all;done)|skip
 |true=>
  have h3':oo (gU nv ls ls.length)<0:=of_decide_eq_true h3;rw[if_neg (by simp)]
  by_cases h4:(ov.length:Int)≠c∨gF 5 ov≠0
  ·rw[if_pos h4]
   refine bF (md:=1) (rf:=[]) mixed ak mP Tryz.func53 (by rfl) (by rfl) (by rfl) ?_
   repeat'((conv=>whnf);first|(intro hq;(try simp only[vw]at hq);try first|exact absurd hq (by decide)|exfalso;omega)|apply aI|with_reducible exact vM rfl|exact⟨⟩|apply nM|apply fM)
   all_goals((try apply vM);(try simp only[vq]at*);try omega)
   all_goals first|exact h|exact hfil|exact zZ _|(exfalso;exact ‹aJ [_,_,_]≠0› h1)|(exfalso;exact ‹¬oo _<0› h3')|omega|(exfalso;rcases h4 with h4|h4<;>contradiction)|(exfalso;simp_all;done)|skip
  rw[if_neg h4];have h5:(ov.length:Int)=c:=agY.1 fun e=>h4 (.inl e);have h6:gF 5 ov=0:=agY.1 fun e=>h4 (.inr e);have hll:=hp.ll;have hc:=hp.c1;have hcond:(1≤nv.length∧nv.length≤1000000)∧ls.length≤5000∧∀i,i<ls.length→1≤(ls.getD i []).length∧(ls.getD i []).length≤5000:=⟨by omega,by omega,fun i hi=>by have:=hp.ln i hi;have:=this.ne;have:=(hp.ln i hi).len;omega⟩
  refine bF (md:=1) (rf:=[]) mixed ak mP Tryz.func53 (by rfl) (by rfl) (by rfl) ?_
  repeat'((conv=>whnf);first|(intro hq;(try simp only[vw]at hq);try first|exact absurd hq (by decide)|exfalso;omega)|apply aI|with_reducible exact vM rfl|exact⟨⟩|apply nM|apply fM)
  all_goals((try apply vM);(try simp only[vq]at*);try omega)
  all_goals(try first|exact h|exact hfil|exact hcond|(exfalso;exact ‹aJ [_,_,_]≠0› h1)|(exfalso;exact ‹¬oo _<0› h3')|omega|(exfalso;exact ‹gF 5 ov≠0› h6)|(exfalso;simp_all;done))
  conv=>whnf
  refine aM (X:=Nat) (fun k=>k≤(ls.getD 0 []).length) (fun k=>[(84,.int .i64 k)]) (fun k=>[(35,.cells (.pv [.int .i64 c,.isl (.rows .i64 ls) .none,.int .i64 (gq nv (ls.getD 0 []) k),(.rsl 31 0 nv.length)]) false)]) (fun k=>(ls.getD 0 []).length-k) 0 ⟨aK,mixed,ak,mP,aP⟩ (by rfl) (by omega) ?_ ?_
  ·repeat'((conv=>whnf);first|intro _|apply aI|with_reducible exact vM rfl|exact⟨⟩|apply nM|apply fM)
   all_goals((try apply vM);(try simp only[vq]at*);try omega)
  intro k hk;have hL:=hp.ln 0 (by omega)
  have hN:∀x∈nv,0≤x∧x≤16:=fun x hx=>by have:=wP hnr x hx;omega
  have hsb:=wN hN ((ls.getD 0 []).take k);rw[agU,agM hk]at hsb;have esb:gq nv (ls.getD 0 []) k=jN nv ((ls.getD 0 []).take k):=rfl;have hLl:=hL.len;by_cases hlt:k<(ls.getD 0 []).length
  ·have hx:=hL.rng ((ls.getD 0 []).getD k 0) (gu hlt)
   have hv:=hN (nv.getD ((ls.getD 0 []).getD k 0).toNat 0) (gu (by omega))
   have hsx:=zL nv (ls.getD 0 []) k hlt
   repeat'((conv=>whnf);first|(intro hq;(try simp only[vw]at hq);try first|exact absurd hq (by decide)|exfalso;omega)|apply aI|with_reducible exact vM rfl|exact⟨⟩|apply nM|apply fM)
   all_goals((try apply vM);(try simp only[vq]at*);try omega)
   all_goals(try simp only[ajl]at*)
   all_goals(try omega)
   refine⟨k+1,[],⟨by omega,by omega⟩,?_⟩
   rw[hsx]
   repeat'((conv=>whnf);first|intro _|apply aI|with_reducible exact vM rfl|exact⟨⟩|apply nM|apply fM)
   all_goals((try apply vM);(try simp only[vq]at*);try omega)
   all_goals skip
  have e:k=(ls.getD 0 []).length:=by omega
  subst e
  repeat'((conv=>whnf);first|(intro hq;(try simp only[vw]at hq);try first|exact absurd hq (by decide)|exfalso;omega)|apply aI|with_reducible exact vM rfl|exact⟨⟩|apply nM|apply fM)
  all_goals((try apply vM);(try simp only[vq]at*);try omega)
  all_goals(try simp only[ajl]at*)
  all_goals(try(exfalso;omega))
  conv=>whnf
  obtain⟨sm,hsm⟩:∃sm,gq nv (ls.getD 0 []) (ls.getD 0 []).length=sm:=⟨_,rfl⟩;rw[hsm];refine aM (X:=Nat) (fun k=>k≤ov.length) (fun k=>[(99,.int .i64 k)]) (fun k=>[(31,.cells (.ints .i64 ((ov.take k).foldl (mkS c ls sm nv g.toNat) nv)) false)]) (fun k=>ov.length-k) 0 ⟨aK,mixed,ak,mP,aP⟩ (by rfl) (by omega) ?_ ?_
  ·repeat'((conv=>whnf);first|intro _|apply aI|with_reducible exact vM rfl|exact⟨⟩|apply nM|apply fM)
   all_goals((try apply vM);(try simp only[vq]at*);try omega)
  intro k hk;obtain⟨gk,hgk⟩:∃gk,(ov.take k).foldl (mkS c ls sm nv g.toNat) nv=gk:=⟨_,rfl⟩;have hsub:lV gk nv:=by
   rw[←hgk];clear hgk;generalize ov.take k=l
   have:∀(l:List Int) (v:List Int),lV v nv→lV (l.foldl (mkS c ls sm nv g.toNat) v) nv:=by
    intro l;induction l with
    |nil=>exact fun v h=>h
    |cons y l ih=>
     intro v h;refine ih _ ?_;unfold mkS;split
     ·exact(h.set0 _).set1 _
     ·exact h.set0 _
   exact this l nv (lV.refl nv)
  have hgl:=hsub.1;have hsmb: -999999999≤sm∧sm≤999999999:=by
   have:=wN hN (ls.getD 0 []);have e:gq nv (ls.getD 0 []) (ls.getD 0 []).length=jN nv ((ls.getD 0 []).take (ls.getD 0 []).length):=rfl;rw[ah6]at e;omega
  have hg5:1≤g∧g≤5:=by
   unfold BK at h1;rw[hb]at h1;by_cases eg:jl g=0
   ·unfold jl at eg
    by_cases e:g<1∨5<g
    ·rw[if_pos e]at eg;cases eg
    ·omega
   ·have:=iQ [0,jl g,if(nv.length:Int)≠c then 2 else 0] 1 (by simp) (fun i hi=>by(have:i=0:=by omega);subst this;rfl) eg
    rw[this]at h1;exact absurd h1 eg
  by_cases hlk:k<ov.length
  ·have hy:0≤ov.getD k 0∧ov.getD k 0<ov.length:=by
    unfold gF at h6;rw[if_neg (by omega)]at h6
    have:=fP h6 k hlk;unfold nS at this;by_cases e:ov.getD k 0<0∨ov.length≤ov.getD k 0∨ov.getD k 0∈ov.take k
    ·rw[if_pos e]at this;cases this
    ·omega
   have hnext:(ov.take (k+1)).foldl (mkS c ls sm nv g.toNat) nv=mkS c ls sm nv g.toNat gk (ov.getD k 0):=by
    rw[dZ hlk,ait,hgk];rfl
   have hpz:=adi hb hlc hnr hsmb (hsub.set0 (ov.getD k 0).toNat);have hsl:(gk.set (ov.getD k 0).toNat 0).length=nv.length:=by rw[agH];exact hgl
   have tk:aiK (nv.length-0) (aiL 0 (gk.set (ov.getD k 0).toNat 0))=gk.set (ov.getD k 0).toNat 0:=cK hsl;rw[hgk];cases ho:jm (sol c ls sm (gk.set (ov.getD k 0).toNat 0) g.toNat)with
   |none=>
    have he:(sol c ls sm (gk.set (ov.getD k 0).toNat 0) g.toNat).2.2≠0:=by
     unfold jm at ho;by_cases e:(sol c ls sm (gk.set (ov.getD k 0).toNat 0) g.toNat).2.2=21
     ·rw[e];decide
     ·rw[if_neg e]at ho;cases ho
    have hst:mkS c ls sm nv g.toNat gk (ov.getD k 0)=(gk.set (ov.getD k 0).toNat 0).set (ov.getD k 0).toNat (nv.getD (ov.getD k 0).toNat 0):=by unfold mkS;rw[if_pos he]
    repeat'((conv=>whnf);first|refine Exists.intro (none) ?_|(intro hq;(try simp only[vw]at hq);try first|exact absurd hq (by decide)|exfalso;omega)|apply aI|with_reducible exact vM rfl|exact⟨⟩|apply nM|apply fM)
    all_goals((try apply vM);(try simp only[vq]at*);try omega)
    all_goals(try first|omega|exact⟨by rw[tk];exact hpz,by omega,by rw[tk];exact ho⟩)
    refine⟨k+1,[],⟨by omega,by omega⟩,?_⟩
    rw[hnext,hst]
    repeat'((conv=>whnf);first|intro _|apply aI|with_reducible exact vM rfl|exact⟨⟩|apply nM|apply fM)
    all_goals((try apply vM);(try simp only[vq]at*);try omega)
   |some r=>
    have hr:sol c ls sm (gk.set (ov.getD k 0).toNat 0) g.toNat=r:=by
     unfold jm at ho;by_cases e:(sol c ls sm (gk.set (ov.getD k 0).toNat 0) g.toNat).2.2=21
     ·rw[if_pos e]at ho;cases ho
     ·rw[if_neg e]at ho;exact Option.some.inj ho
    have hs1:r.2.2≠0→mkS c ls sm nv g.toNat gk (ov.getD k 0)=(gk.set (ov.getD k 0).toNat 0).set (ov.getD k 0).toNat (nv.getD (ov.getD k 0).toNat 0):=fun e=>by unfold mkS;rw[hr,if_pos e]
    have hs0:¬r.2.2≠0→mkS c ls sm nv g.toNat gk (ov.getD k 0)=gk.set (ov.getD k 0).toNat 0:=fun e=>by unfold mkS;rw[hr,if_neg e]
    repeat'((conv=>whnf);first|refine Exists.intro (some r) ?_|(intro hq;(try simp only[vw]at hq);try first|exact absurd hq (by decide)|exfalso;omega)|apply aI|with_reducible exact vM rfl|exact⟨⟩|apply nM|apply fM)
    all_goals((try apply vM);(try simp only[vq]at*);try omega)
    all_goals(try first|omega|exact⟨by rw[tk];exact hpz,by omega,by rw[tk];exact ho⟩)
    ·refine⟨k+1,[],⟨by omega,by omega⟩,?_⟩
     rw[hnext,hs1 (by assumption)]
     repeat'((conv=>whnf);first|intro _|apply aI|with_reducible exact vM rfl|exact⟨⟩|apply nM|apply fM)
     all_goals((try apply vM);(try simp only[vq]at*);try omega)
    ·refine⟨k+1,[],⟨by omega,by omega⟩,?_⟩
     rw[hnext,hs0 (by assumption)]
     repeat'((conv=>whnf);first|intro _|apply aI|with_reducible exact vM rfl|exact⟨⟩|apply nM|apply fM)
     all_goals((try apply vM);(try simp only[vq]at*);try omega)
  have e:k=ov.length:=by omega
  subst e;rw[ah6]at hgk⊢;rw[hgk];have s2:(CL.ints .i64 gk).sub 0 nv.length=.ints .i64 gk:=congrArg (CL.ints .i64) (cK hgl)
  repeat'((conv=>whnf);first|(intro hq;(try simp only[vw]at hq);try first|exact absurd hq (by decide)|exfalso;omega)|apply aI|with_reducible exact vM rfl|exact⟨⟩|apply nM|apply fM)
  all_goals((try apply vM);(try simp only[vq]at*);try omega)
  rw[s2];exact Sup.of rfl
end Go.Eng.YtcechbdgokjmgaaGreatDoor
namespace Go.Eng.YtcechbdgokjmgaaGreatDoor
open Go.Proofs Go.RowKit
set_option linter.unusedSimpArgs false
set_option linter.unusedVariables false
set_option maxHeartbeats 0
set_option maxRecDepth 100000
theorem KJ {s w:ByteArray} {l:List Int} (h:bZ s w=some l):l.length≤s.size:=by
 unfold bZ at h;split at h
 ·obtain rfl:=Option.some.inj h
  unfold numsL;rw[ah2,aiW];have:=yD 32 s;omega
 ·cases h
structure UK (r:Rd) (n:Nat):Prop where
 ln:r.line=n
 ll:r.L.length≤n
 rw:∀x∈r.L,x.length≤5000
 gl:r.gv.length≤5000
theorem aaj {r:Rd} {n:Nat} {s:ByteArray} (h:UK r n) (hs:s.size≤4096):UK (nxt r s).2 (n+1):=by
 have h1:=h.ln;have h2:=h.ll;have h3:=h.rw;have h4:=h.gl;unfold nxt
 repeat' split
 all_goals refine⟨by simp only;omega,?_,?_,?_⟩
 all_goals simp only
 all_goals first|exact h3|exact h4|omega|(rw[ahl,afY,afU];omega)|(simp;done)|skip
 ·intro x hx
  rcases agh.1 hx with hx|hx
  ·exact h3 _ hx
  ·obtain rfl:=aiO.1 hx
   have:=KJ ‹bZ s En=some _›;omega
 ·have:=KJ ‹bZ s vC=some _›
  omega
noncomputable def rdG:Rd→List ByteArray→Rd × Bool
 |r,[]=>(r,true)
 |r,x::t=>if(nxt r x).1=true then rdG (nxt r x).2 t else((nxt r x).2,false)
def rd0:Rd:=⟨0,[],0,[],0,false⟩
abbrev kNl:ByteArray:=⟨#[10]⟩
def vI (s:ByteArray):Int:=aJ [if 4096<(s.size:Int)then 25 else 0,if FY s kNl=false then 27 else 0]
noncomputable def iC (s:ByteArray):Rd × Bool:=rdG rd0 (dD 10 (jk s kNl))
noncomputable def Od (s:ByteArray):(Int × List (List Int) × Int × List Int) × Int × Int:=
 if vI s≠0 then((0,[],0,[]),0,vI s)
 else if(iC s).2=false then((0,[],0,[]),(iC s).1.line,24)
 else if(iC s).1.done=false then((0,[],0,[]),(iC s).1.line+1,24)
 else if pzE (iC s).1.c (iC s).1.L (iC s).1.sum (iC s).1.gv≠0 then((0,[],0,[]),0,pzE (iC s).1.c (iC s).1.L (iC s).1.sum (iC s).1.gv)
 else(((iC s).1.c,(iC s).1.L,(iC s).1.sum,(iC s).1.gv),0,0)
noncomputable def ad8:CPT:=aA 22 (aB lS) (aA 88 (aB jf) (aA 89 (aB eG) (aA 112 (aB Tp) (aA 113 (aB zI) (aA 114 (aB Tt) (aA 115 (dV [] Ui) noC))))))
theorem yG:aU Tryz.prog ad8:=aj (au kS) (aj (au iI) (aj (au iR) (aj (au acI) (aj (au FX) (aj (au acJ) (aj (dh [] acZ) aC))))))
def adj (r:(Int × List (List Int) × Int × List Int) × Int × Int):PV:=.tup [pzT r.1,.int .i64 r.2.1,.int .i64 r.2.2]
theorem z8 (a b:Int):Sup (bE [PV.agg [.int .i64 0,.nils,.int .i64 0,.nils],.int .i64 a,.int .i64 b]) (adj ((0,[],0,[]),a,b)):=by all_goals(refine Sup.via ?_;repeat'((conv=>whnf);first|intro _|apply aI|with_reducible exact vM rfl|exact⟨⟩|apply nM|apply fM);all_goals((try apply vM);(try simp only[vq]at*);try omega);all_goals(try(simp[CL.sub];done)))
theorem Ro (s:ByteArray) (hs:s.size≤1000000):aF Tryz.prog 44 [.str s] (adj (Od s)):=by
 have hx:aJ [if decide (4096<(s.size:Int))=true then 25 else 0,if(!FY s ⟨#[10]⟩)=true then 27 else 0]=vI s:=by unfold vI;simp
 have htr:(jk s kNl).size≤s.size:=by
  have e3:(jk s kNl).size=(Go.Lib.trimSuffix s.data.toList kNl.data.toList).length:=by
   show(List.toArray _).size=_;rw[List.size_toArray]
  have e1:s.size=s.data.toList.length:=by rw[agG];rfl
  rw[e3,e1];unfold Go.Lib.trimSuffix;split
  ·rw[agU];omega
  ·omega
 unfold Od;by_cases he:vI s=0
 case neg=>
  rw[if_pos he];have he2:=he;unfold vI at he2;refine bF (md:=1) (rf:=[]) mixed ak yG Tryz.func44 (by rfl) (by rfl) (by rfl) ?_
  repeat'((conv=>whnf);first|refine Exists.intro (10) ?_|(intro hq;(try simp only[vw]at hq);try first|exact absurd hq (by decide)|exfalso;omega)|apply aI|with_reducible exact vM rfl|exact⟨⟩|apply nM|apply fM)
  all_goals try refine VC.mk ?_
  all_goals first|omega|(exfalso;exact hq he2)|(exfalso;exact ‹¬aJ [_,_]≠0› he2)|(rw[←hx];exact z8 _ _)|(simp;done)|skip
 rw[if_neg (by rw[he];simp)]
 have he2:=he;unfold vI at he2;have h4:s.size≤4096:=by
  by_cases e:4096<(s.size:Int)
  ·rw[if_pos e]at he2;cases h:FY s kNl<;>simp[aJ,h]at he2
  ·omega
 refine bF (md:=1) (rf:=[]) mixed ak yG Tryz.func44 (by rfl) (by rfl) (by rfl) ?_
 repeat'((conv=>whnf);first|refine Exists.intro (10) ?_|(intro hq;(try simp only[vw]at hq);try first|exact absurd hq (by decide)|exfalso;omega)|apply aI|with_reducible exact vM rfl|exact⟨⟩|apply nM|apply fM)
 all_goals try refine VC.mk ?_
 all_goals(try first|omega|(exfalso;exact hq he2)|(simp;done)|(refine And.intro rfl ?_;show(jk s kNl).size<_;omega))
 conv=>whnf
 have hG:iC s=rdG rd0 (dD 10 (jk s kNl)):=rfl;have hln:=yD 10 (jk s kNl);have hsz:∀j,j<(dD 10 (jk s kNl)).length→((dD 10 (jk s kNl)).getD j .empty).size≤4096:=fun j hj=>by
  have:=Dg (vB hj);omega
 generalize dD 10 (jk s kNl)=W at hG hln hsz⊢
 refine aM (X:=Nat × Rd) (fun x=>x.1≤W.length∧UK x.2 x.1∧iC s=rdG x.2 (W.drop x.1)) (fun x=>[(28,.int .i64 x.1)]) (fun x=>[(18,.cells (.pv [.int .i64 x.2.c,.isl (.rows .i64 x.2.L) (.own 22),.int .i64 x.2.sum,.isl (.ints .i64 x.2.gv) .none,.int .i64 x.2.line,.bp x.2.done]) false),(22,.tok 1 x.2.L.length)]) (fun x=>W.length-x.1) (0,rd0) ⟨aK,mixed,ak,yG,aP⟩ (by rfl) ⟨by omega,⟨rfl,af3 0,fun x hx=>absurd hx (by simp[rd0]),by simp[rd0]⟩,hG⟩ ?_ ?_
 ·repeat'((conv=>whnf);first|intro _|apply aI|with_reducible exact vM rfl|exact⟨⟩|apply nM|apply fM)
  all_goals((try apply vM);(try simp only[vq]at*);try omega)
  all_goals skip
 rintro⟨i,r⟩ ⟨hi,hr,hT⟩
 simp only at hi hr hT;by_cases hlt:i<W.length
 ·have hsi:=hsz i hlt
  have hd:W.drop i=W.getD i .empty::W.drop (i+1):=by rw[agf,agl hlt];simp
  have hr1:=hr.ln;have hr2:=hr.ll;have hok:=aaj hr hsi;rw[hd]at hT;unfold rdG at hT
  repeat'((conv=>whnf);first|refine Exists.intro (10) ?_|(intro hq;(try simp only[vw]at hq);try first|exact absurd hq (by decide)|exfalso;omega)|apply aI|with_reducible exact vM rfl|exact⟨⟩|apply nM|apply fM)
  all_goals((try apply vM);(try simp only[vq]at*);try omega)
  ·have hq:(nxt r (W.getD i .empty)).1=false:=hq
   rw[if_neg (by rw[hq];simp)]at hT
   rw[hT];exact z8 _ _
  have hq:(nxt r (W.getD i .empty)).1=true:=hq;rw[if_pos hq]at hT;refine⟨(i+1,(nxt r (W.getD i .empty)).2),[],⟨⟨by simp only;omega,hok,hT⟩,by simp only;omega⟩,?_⟩
  repeat'((conv=>whnf);first|refine Exists.intro (10) ?_|(intro hq;(try simp only[vw]at hq);try first|exact absurd hq (by decide)|exfalso;omega)|apply aI|with_reducible exact vM rfl|exact⟨⟩|apply nM|apply fM)
  all_goals((try apply vM);(try simp only[vq]at*);try omega)
  all_goals skip
 have e:i=W.length:=by omega
 subst e;have hT2:iC s=(r,true):=by rw[hT,List.drop_length];rfl
 have hr1:=hr.ln;have hr2:=hr.ll;have hLN:bK r.L:=⟨by omega,hr.rw⟩
 have hgl:=hr.gl;rw[hT2]
 repeat'((conv=>whnf);first|refine Exists.intro (10) ?_|(intro hq;(try simp only[vw]at hq);try first|exact absurd hq (by decide)|exfalso;omega)|apply aI|with_reducible exact vM rfl|exact⟨⟩|apply nM|apply fM)
 all_goals((try apply vM);(try simp only[vq]at*);try omega)
 all_goals(try omega)
 ·rw[if_neg (by simp),if_pos hq]
  exact z8 _ _
 ·exact⟨hLN,hgl⟩
 ·rename_i hd
  rw[if_neg (by simp),if_neg (by simp only[hd];simp),if_pos hq]
  exact z8 _ _
 ·rename_i hd
  rw[if_neg (by simp),if_neg (by simp only[hd];simp),if_neg hq]
  exact Sup.of rfl
end Go.Eng.YtcechbdgokjmgaaGreatDoor
namespace Go.Eng.YtcechbdgokjmgaaGreatDoor
open Go.Proofs
set_option linter.unusedSimpArgs false
set_option linter.unusedVariables false
set_option maxHeartbeats 0
set_option maxRecDepth 100000
abbrev lW:ByteArray:=⟨#[99,101,108,108]⟩
abbrev sIs:ByteArray:=⟨#[105,115]⟩
abbrev Hg:ByteArray:=⟨#[110,111,116]⟩
abbrev sBy:ByteArray:=⟨#[98,121]⟩
abbrev BL:ByteArray:=⟨#[111,110,32,108,105,110,101]⟩
def exW (g:Int) (r:ByteArray) (y x k:Int):List ByteArray:=
 [lW,itB y,sIs]++(if g≤3 then []else [Hg])++[itB x,sBy,r]++(if 0≤k then [BL,itB k]else [])
def Oe (c:Int) (ls:List (List Int)) (sum:Int) (gv:List Int) (r:ByteArray) (y x k:Int):ByteArray × Int:=
 if pzE c ls sum gv≠0 then(sP,pzE c ls sum gv)else if fH c ls r y x k≠0 then(sP,fH c ls r y x k)else(joB (exW (bG r) r y x k) kBl,0)
noncomputable def aft:CPT:=aA 22 (aB lS) (aA 101 (aB oI) (aA 107 (aB zF) (aA 126 (aB Uk) (aA 129 (aB Ec) (aA 130 (aB pG) noC)))))
theorem gI:aU Tryz.prog aft:=aj (au kS) (aj (au qx) (aj (au FV) (aj (au ac0) (aj (au JX) (aj (au pI) aC)))))
theorem vJ {g:Int} {r:ByteArray} {y x k:Int} (hy:nN y) (hx:nN x) (hk:nN k) (hr:r.size≤6):Tf (exW g r y x k) 1000000:=by
 have h1:=pq hy;have h2:=pq hx;have h3:=pq hk;refine⟨?_,fun w hw=>?_⟩
 ·unfold exW;split<;>split<;>simp
 ·unfold exW at hw
  simp only[agh,ahu,List.not_mem_nil,or_false]at hw;rcases hw with((((rfl|rfl|rfl)|hw)|(rfl|rfl|rfl))|hw)
  ·decide
  ·omega
  ·decide
  ·split at hw
   ·simp at hw
   ·simp at hw;subst hw;decide
  ·omega
  ·decide
  ·omega
  ·split at hw
   ·simp at hw
    rcases hw with rfl|rfl
    ·decide
    ·omega
   ·simp at hw
theorem Hl (c:Int) (ls:List (List Int)) (sum:Int) (gv:List Int) (h:bK ls) (hg:gv.length≤5000) (r:ByteArray) (y x k:Int):
 aF Tryz.prog 63 [pzV c ls sum gv,ddV r y x k] (.tup [.str (Oe c ls sum gv r y x k).1,.int .i64 (Oe c ls sum gv r y x k).2]):=by
 unfold Oe;by_cases he:pzE c ls sum gv=0
 case neg=>
  rw[if_pos he];refine av (md:=1) (rf:=[]) mixed ak gI Tryz.func63 (by rfl) (by rfl) (by rfl) ?_
  repeat'((conv=>whnf);first|(intro hq;(try simp only[vw]at hq);try first|exact absurd hq (by decide)|exfalso;omega)|apply aI|with_reducible exact vM rfl|exact⟨⟩|apply nM|apply fM)
  all_goals((try apply vM);(try simp only[vq]at*);try omega)
  all_goals first|exact⟨h,hg⟩|exact h|exact Sup.of rfl|(exfalso;exact he (by assumption))|(exfalso;contradiction)|skip
 rw[if_neg (by rw[he];simp)]
 by_cases hd:fH c ls r y x k=0
 case neg=>
  rw[if_pos hd];refine av (md:=1) (rf:=[]) mixed ak gI Tryz.func63 (by rfl) (by rfl) (by rfl) ?_
  repeat'((conv=>whnf);first|(intro hq;(try simp only[vw]at hq);try first|exact absurd hq (by decide)|exfalso;omega)|apply aI|with_reducible exact vM rfl|exact⟨⟩|apply nM|apply fM)
  all_goals((try apply vM);(try simp only[vq]at*);try omega)
  all_goals first|exact⟨h,hg⟩|exact h|exact Sup.of rfl|(exfalso;exact hd (by assumption))|(exfalso;contradiction)|skip
 rw[if_neg (by rw[hd];simp)]
 have hp:=dF.of he;have hc:=hp.c1;have hll:=hp.ll;have ho:=Bp.of hd;have hy:=ho.y;have hx:=ho.x;have hte:=zD;have hk:k= -1∨(0≤k∧k<128):=by
  unfold fH at hd;by_cases h1:bG r=0
  ·rw[if_pos h1]at hd;cases hd
  rw[if_neg h1]at hd;by_cases h2:y<0∨c≤y
  ·rw[if_pos h2]at hd;cases hd
  rw[if_neg h2]at hd;by_cases h3:x<1∨c<x
  ·rw[if_pos h3]at hd;cases hd
  rw[if_neg h3]at hd;by_cases h4:bG r=2∨bG r=3
  ·rw[if_pos h4]at hd
   by_cases h5:k= -1
   ·exact .inl h5
   ·rw[if_pos h5]at hd;cases hd
  ·rw[if_neg h4]at hd
   by_cases h5:k<0∨ls.length≤k∨y∉ls.getD k.toNat []
   ·rw[if_pos h5]at hd;cases hd
   ·have h6:¬k<0:=fun e=>h5 (.inl e)
    have h7:¬(ls.length:Int)≤k:=fun e=>h5 (.inr (.inl e));omega
 have b1:nN y:=⟨by omega,by omega⟩
 have b2:nN x:=⟨by omega,by omega⟩
 have b3:nN k:=⟨by omega,by omega⟩
 obtain⟨rfl,hg'⟩|⟨rfl,hg'⟩|⟨rfl,hg'⟩|⟨rfl,hg'⟩|⟨rfl,hg'⟩|hg':=sQ r
 ·rw[hg']
  have hw:=vJ (g:=1) (r:=bM) (k:=k) b1 b2 b3 (by decide)
  rcases hk with hk0|hk0
  ·have e:exW 1 bM y x k=([lW,itB y,sIs]++[itB x,sBy,bM]):=by unfold exW;rw[if_pos (show(1:Int)≤3 by decide),if_neg (show¬(0:Int)≤k by omega),ahZ];(try rfl)
   rw[e]at hw⊢;refine av (md:=1) (rf:=[]) mixed ak gI Tryz.func63 (by rfl) (by rfl) (by rfl) ?_
   repeat'((conv=>whnf);first|refine Exists.intro (1) ?_|(intro hq;(try simp only[vw]at hq);try first|exact absurd hq (by decide)|exfalso;omega)|apply aI|with_reducible exact vM rfl|exact⟨⟩|apply nM|apply fM)
   all_goals((try apply vM);(try simp only[vq]at*);try omega)
   all_goals first|exact⟨h,hg⟩|exact h|exact hg'|exact hd|exact he|exact b1|exact b2|exact b3|(rw[hte];decide)|exact hw|(simp;done)|(exfalso;contradiction)|(exfalso;omega)|exact Sup.of rfl|skip
  ·have e:exW 1 bM y x k=([lW,itB y,sIs]++[itB x,sBy,bM])++[BL,itB k]:=by unfold exW;rw[if_pos (show(1:Int)≤3 by decide),if_pos (show(0:Int)≤k by omega)];(try rfl)
   rw[e]at hw⊢;refine av (md:=1) (rf:=[]) mixed ak gI Tryz.func63 (by rfl) (by rfl) (by rfl) ?_
   repeat'((conv=>whnf);first|refine Exists.intro (1) ?_|(intro hq;(try simp only[vw]at hq);try first|exact absurd hq (by decide)|exfalso;omega)|apply aI|with_reducible exact vM rfl|exact⟨⟩|apply nM|apply fM)
   all_goals((try apply vM);(try simp only[vq]at*);try omega)
   all_goals first|exact⟨h,hg⟩|exact h|exact hg'|exact hd|exact he|exact b1|exact b2|exact b3|(rw[hte];decide)|exact hw|(simp;done)|(exfalso;contradiction)|(exfalso;omega)|exact Sup.of rfl|skip
 ·rw[hg']
  have hw:=vJ (g:=2) (r:=bT) (k:=k) b1 b2 b3 (by decide)
  rcases hk with hk0|hk0
  ·have e:exW 2 bT y x k=([lW,itB y,sIs]++[itB x,sBy,bT]):=by unfold exW;rw[if_pos (show(2:Int)≤3 by decide),if_neg (show¬(0:Int)≤k by omega),ahZ];(try rfl)
   rw[e]at hw⊢;refine av (md:=1) (rf:=[]) mixed ak gI Tryz.func63 (by rfl) (by rfl) (by rfl) ?_
   repeat'((conv=>whnf);first|refine Exists.intro (2) ?_|(intro hq;(try simp only[vw]at hq);try first|exact absurd hq (by decide)|exfalso;omega)|apply aI|with_reducible exact vM rfl|exact⟨⟩|apply nM|apply fM)
   all_goals((try apply vM);(try simp only[vq]at*);try omega)
   all_goals first|exact⟨h,hg⟩|exact h|exact hg'|exact hd|exact he|exact b1|exact b2|exact b3|(rw[hte];decide)|exact hw|(simp;done)|(exfalso;contradiction)|(exfalso;omega)|exact Sup.of rfl|skip
  ·have e:exW 2 bT y x k=([lW,itB y,sIs]++[itB x,sBy,bT])++[BL,itB k]:=by unfold exW;rw[if_pos (show(2:Int)≤3 by decide),if_pos (show(0:Int)≤k by omega)];(try rfl)
   rw[e]at hw⊢;refine av (md:=1) (rf:=[]) mixed ak gI Tryz.func63 (by rfl) (by rfl) (by rfl) ?_
   repeat'((conv=>whnf);first|refine Exists.intro (2) ?_|(intro hq;(try simp only[vw]at hq);try first|exact absurd hq (by decide)|exfalso;omega)|apply aI|with_reducible exact vM rfl|exact⟨⟩|apply nM|apply fM)
   all_goals((try apply vM);(try simp only[vq]at*);try omega)
   all_goals first|exact⟨h,hg⟩|exact h|exact hg'|exact hd|exact he|exact b1|exact b2|exact b3|(rw[hte];decide)|exact hw|(simp;done)|(exfalso;contradiction)|(exfalso;omega)|exact Sup.of rfl|skip
 ·rw[hg']
  have hw:=vJ (g:=3) (r:=bU) (k:=k) b1 b2 b3 (by decide)
  rcases hk with hk0|hk0
  ·have e:exW 3 bU y x k=([lW,itB y,sIs]++[itB x,sBy,bU]):=by unfold exW;rw[if_pos (show(3:Int)≤3 by decide),if_neg (show¬(0:Int)≤k by omega),ahZ];(try rfl)
   rw[e]at hw⊢;refine av (md:=1) (rf:=[]) mixed ak gI Tryz.func63 (by rfl) (by rfl) (by rfl) ?_
   repeat'((conv=>whnf);first|refine Exists.intro (3) ?_|(intro hq;(try simp only[vw]at hq);try first|exact absurd hq (by decide)|exfalso;omega)|apply aI|with_reducible exact vM rfl|exact⟨⟩|apply nM|apply fM)
   all_goals((try apply vM);(try simp only[vq]at*);try omega)
   all_goals first|exact⟨h,hg⟩|exact h|exact hg'|exact hd|exact he|exact b1|exact b2|exact b3|(rw[hte];decide)|exact hw|(simp;done)|(exfalso;contradiction)|(exfalso;omega)|exact Sup.of rfl|skip
  ·have e:exW 3 bU y x k=([lW,itB y,sIs]++[itB x,sBy,bU])++[BL,itB k]:=by unfold exW;rw[if_pos (show(3:Int)≤3 by decide),if_pos (show(0:Int)≤k by omega)];(try rfl)
   rw[e]at hw⊢;refine av (md:=1) (rf:=[]) mixed ak gI Tryz.func63 (by rfl) (by rfl) (by rfl) ?_
   repeat'((conv=>whnf);first|refine Exists.intro (3) ?_|(intro hq;(try simp only[vw]at hq);try first|exact absurd hq (by decide)|exfalso;omega)|apply aI|with_reducible exact vM rfl|exact⟨⟩|apply nM|apply fM)
   all_goals((try apply vM);(try simp only[vq]at*);try omega)
   all_goals first|exact⟨h,hg⟩|exact h|exact hg'|exact hd|exact he|exact b1|exact b2|exact b3|(rw[hte];decide)|exact hw|(simp;done)|(exfalso;contradiction)|(exfalso;omega)|exact Sup.of rfl|skip
 ·rw[hg']
  have hw:=vJ (g:=4) (r:=bR) (k:=k) b1 b2 b3 (by decide)
  rcases hk with hk0|hk0
  ·have e:exW 4 bR y x k=([lW,itB y,sIs]++[Hg]++[itB x,sBy,bR]):=by unfold exW;rw[if_neg (show¬(4:Int)≤3 by decide),if_neg (show¬(0:Int)≤k by omega),ahZ];(try rfl)
   rw[e]at hw⊢;refine av (md:=1) (rf:=[]) mixed ak gI Tryz.func63 (by rfl) (by rfl) (by rfl) ?_
   repeat'((conv=>whnf);first|refine Exists.intro (4) ?_|(intro hq;(try simp only[vw]at hq);try first|exact absurd hq (by decide)|exfalso;omega)|apply aI|with_reducible exact vM rfl|exact⟨⟩|apply nM|apply fM)
   all_goals((try apply vM);(try simp only[vq]at*);try omega)
   all_goals first|exact⟨h,hg⟩|exact h|exact hg'|exact hd|exact he|exact b1|exact b2|exact b3|(rw[hte];decide)|exact hw|(simp;done)|(exfalso;contradiction)|(exfalso;omega)|exact Sup.of rfl|skip
  ·have e:exW 4 bR y x k=([lW,itB y,sIs]++[Hg]++[itB x,sBy,bR])++[BL,itB k]:=by unfold exW;rw[if_neg (show¬(4:Int)≤3 by decide),if_pos (show(0:Int)≤k by omega)];(try rfl)
   rw[e]at hw⊢;refine av (md:=1) (rf:=[]) mixed ak gI Tryz.func63 (by rfl) (by rfl) (by rfl) ?_
   repeat'((conv=>whnf);first|refine Exists.intro (4) ?_|(intro hq;(try simp only[vw]at hq);try first|exact absurd hq (by decide)|exfalso;omega)|apply aI|with_reducible exact vM rfl|exact⟨⟩|apply nM|apply fM)
   all_goals((try apply vM);(try simp only[vq]at*);try omega)
   all_goals first|exact⟨h,hg⟩|exact h|exact hg'|exact hd|exact he|exact b1|exact b2|exact b3|(rw[hte];decide)|exact hw|(simp;done)|(exfalso;contradiction)|(exfalso;omega)|exact Sup.of rfl|skip
 ·rw[hg']
  have hw:=vJ (g:=5) (r:=bS) (k:=k) b1 b2 b3 (by decide)
  rcases hk with hk0|hk0
  ·have e:exW 5 bS y x k=([lW,itB y,sIs]++[Hg]++[itB x,sBy,bS]):=by unfold exW;rw[if_neg (show¬(5:Int)≤3 by decide),if_neg (show¬(0:Int)≤k by omega),ahZ];(try rfl)
   rw[e]at hw⊢;refine av (md:=1) (rf:=[]) mixed ak gI Tryz.func63 (by rfl) (by rfl) (by rfl) ?_
   repeat'((conv=>whnf);first|refine Exists.intro (5) ?_|(intro hq;(try simp only[vw]at hq);try first|exact absurd hq (by decide)|exfalso;omega)|apply aI|with_reducible exact vM rfl|exact⟨⟩|apply nM|apply fM)
   all_goals((try apply vM);(try simp only[vq]at*);try omega)
   all_goals first|exact⟨h,hg⟩|exact h|exact hg'|exact hd|exact he|exact b1|exact b2|exact b3|(rw[hte];decide)|exact hw|(simp;done)|(exfalso;contradiction)|(exfalso;omega)|exact Sup.of rfl|skip
  ·have e:exW 5 bS y x k=([lW,itB y,sIs]++[Hg]++[itB x,sBy,bS])++[BL,itB k]:=by unfold exW;rw[if_neg (show¬(5:Int)≤3 by decide),if_pos (show(0:Int)≤k by omega)];(try rfl)
   rw[e]at hw⊢;refine av (md:=1) (rf:=[]) mixed ak gI Tryz.func63 (by rfl) (by rfl) (by rfl) ?_
   repeat'((conv=>whnf);first|refine Exists.intro (5) ?_|(intro hq;(try simp only[vw]at hq);try first|exact absurd hq (by decide)|exfalso;omega)|apply aI|with_reducible exact vM rfl|exact⟨⟩|apply nM|apply fM)
   all_goals((try apply vM);(try simp only[vq]at*);try omega)
   all_goals first|exact⟨h,hg⟩|exact h|exact hg'|exact hd|exact he|exact b1|exact b2|exact b3|(rw[hte];decide)|exact hw|(simp;done)|(exfalso;contradiction)|(exfalso;omega)|exact Sup.of rfl|skip
 have:=ho.g;omega
end Go.Eng.YtcechbdgokjmgaaGreatDoor
namespace Go.Eng
open Go.Proofs Go.Shelf Go.RowKit
set_option linter.unusedSimpArgs false
set_option linter.unusedVariables false
theorem wS {P:Program} {w:World} {ops:Array Oper} {rest:List Oper} {o:Oper} {a:Act} {Q:Exit→Act→World→Prop} (hgd:o.guard=none) (sl x:Operand) (t u:TypeId)
 (ho:o.op=.call {callee:=.builtin .append,args:= #[sl,x],argTypes:= #[t,u]})
 (e:TypeId) (i:TypeInfo) (ht:P.underlying t=some (.slice e)) (hu:P.underlying u=some .string) (hi:P.info? e=some i) (hz:i.zero=some (.int .u8 0)) (hsize:i.size=1) (hby:i.bytes=1)
 (v:Value) (n:Nat) (xs:List Value) (hs:a.eval sl=v) (hown:w.ownsRowF 0 e 1 v n xs) (s:ByteArray) (hx:a.eval x=.string s) (h63:n+s.size≤maxLen) (hbytes:n+s.size≤140737488355328)
 (h:∀v' w',w'.ownsRowF 0 e 1 v' (n+s.size) (xs++Lib.strCells s)→w.grownBy w' v.ownBlock→(∀b,b<w.heap.size→bsz w' b=bsz w b)→(∀g,v'.ownBlock=some g→v.ownBlock=some g∨w.heap.size≤g)→wpList P ops Q rest (a.put o.dst v') w'):
 wpList P ops Q (o::rest) a w:=by
 refine wpList_plain hgd fun K hK=>?_;obtain⟨v',w',hr,h2,h3,h4,h5⟩:=MG (P:=P) w t u o.type e i ht hu hi hz hsize hby v n xs hown s h63 hbytes;unfold Oper.wp execOp;simp only[ho,resolve,invoke,builtin,Sem.run_bind,Sem.run_pure,Result.andThen_ok,List.map_toArray,List.map_cons,List.map_nil,hs,hx,hr];exact hK _ _ (h v' w' h2 h3 h4 h5)
theorem xB (w:World) (a:Addr) (x:Value) (b:Nat):bsz (w.setCell a x) b=bsz w b:=by
 unfold bsz World.setCell;rw[af9];by_cases e:a.block=b
 ·rw[if_pos e]
  cases w.heap[b]? with
  |none=>rfl
  |some o=>
   cases o with
   |cells c t f=>simp only[Option.map_some];split<;>simp
   |_=>rfl
 ·rw[if_neg e]
theorem Ho (a b:ByteArray):Lib.strCells a++Lib.strCells b=Lib.strCells (a++b):=by
 unfold Lib.strCells;rw[←ah5];congr 1
theorem Rp {P:Program} {ρ:Ren} (L:Lays.n240 P ρ) (X:Builder.X72 P ρ) (b:Nat) (p v:Value) (w:World) (hbk:w.heap[b]? =some (.cells #[p,v] (ρ.t 72) (0,0))) (hp:p=.pointer none∨p=.pointer (some ⟨b,0,none⟩)):
 Calls P (ρ.f 240) #[.pointer (some ⟨b,0,none⟩)] w fun e w'=>e=.returned (.tuple #[])∧w'.heap[b]? =some (.cells #[.pointer (some ⟨b,0,none⟩),v] (ρ.t 72) (0,0))∧w'.os=w.os∧w'.tape=w.tape∧w'.output=w.output∧w'.heap.size=w.heap.size∧
  (∀b',b'≠b→w'.heap[b']? =w.heap[b']?)∧∀b',bsz w' b'=bsz w b':=by
 rcases hp with rfl|rfl
 ·refine(Any.Builder_copyCheck_fresh L X b w (by rw[Lib.cell_of_heap hbk];rfl) (by simp[World.shape?,hbk]) (Lib.frozen_of_heap hbk 0)).mono ?_
  rintro e w' ⟨rfl,rfl⟩
  exact⟨rfl,by simp[World.setCell,af9,hbk],rfl,rfl,rfl,by simp[World.setCell],fun b' hb'=>Below.heap_setCell _ _ _ _ hb',fun b'=>xB _ _ _ _⟩
 ·refine(Any.Builder_copyCheck_used L X b w (by rw[Lib.cell_of_heap hbk];rfl)).mono ?_
  rintro e w' ⟨rfl,rfl⟩
  exact⟨rfl,hbk,rfl,rfl,rfl,rfl,fun _ _=>rfl,fun _=>rfl⟩
set_option maxHeartbeats 4000000 in
set_option maxRecDepth 100000 in
theorem Rq {P:Program} {ρ:Ren} (L:Lays.n166 P ρ) (X:Builder.Extra P ρ) (b:Nat) (p v:Value) (bs s:ByteArray) (w:World) (hbk:w.heap[b]? =some (.cells #[p,v] (ρ.t 72) (0,0))) (hp:p=.pointer none∨p=.pointer (some ⟨b,0,none⟩))
 (hne:v.ownBlock≠some b) (hown:w.ownsRowF 0 (ρ.t 5) 1 v bs.size (Lib.strCells bs)) (hlen:bs.size+s.size≤140737488355328):
 Calls P (ρ.f 166) #[.pointer (some ⟨b,0,none⟩),.string s] w fun ex w'=>∃val v',ex=.returned val∧uY (ρ.t 72) (ρ.t 5) b v w w' (bs++s) v'∧val=.tuple #[.int .i64 s.size,.nilIface]:=by
 obtain⟨i0,hi,hz0,hz1,hz2⟩:=info_parts X.infoByte;have mixed:=L.mixed;have t72:=L.t72;have a72:=L.a72;have z72:=L.z72;have v72:=L.v72;have u72:=run_underlying L.t72;have t70:=L.t70;have a70:=L.a70;have z70:=L.z70;have v70:=L.v70;have u70:=run_underlying L.t70;have t37:=L.t37;have a37:=L.a37;have z37:=L.z37;have v37:=L.v37;have u37:=run_underlying L.t37;have t3:=L.t3;have a3:=L.a3;have z3:=L.z3;have v3:=L.v3;have u3:=run_underlying L.t3;have t9:=L.t9;have a9:=L.a9;have z9:=L.z9;have v9:=L.v9;have u9:=run_underlying L.t9;have t4:=L.t4;have a4:=L.a4;have z4:=L.z4;have v4:=L.v4;have u4:=run_underlying L.t4;have t164:=L.t164;have a164:=L.a164;have z164:=L.z164;have v164:=L.v164;have u164:=run_underlying L.t164;have t5:=X.t5;have a5:=X.a5;have z5:=X.z5;have v5:=X.v5;have u5:=run_underlying X.t5;have e240:∀args w,(callFunc (ρ.f 240) args).run P w=.ok (.enter (ρ.f 240) args) w:=enters_of L.f240 (by kernel_rfl) rfl
 go_enter L.f166,Body.n166_ntmps ρ
 go_wp2_with (go_at_fn (ρ.f 240);refine(Rp {L with} X.toX72 b p v _ hbk hp).mono ?_)
 rintro e w1 ⟨rfl,hb1,o1,tp1,ou1,sz1,oth1,bz1⟩
 have hown1:w1.ownsRowF 0 (ρ.t 5) 1 v bs.size (Lib.strCells bs):=l9 hown fun g hg=>oth1 g (fun e=>hne (by rw[hg,e]))
 have c0:w1.cell? ⟨b,0,none⟩=some (.pointer (some ⟨b,0,none⟩)):=by rw[Lib.cell_of_heap hb1];rfl
 have c1:w1.cell? ⟨b,1,none⟩=some v:=by rw[Lib.cell_of_heap hb1];rfl
 go_wp2_with (at_builtin;refine wS rfl _ _ (ρ.t 37) (ρ.t 9) rfl (ρ.t 5) i0 L.t37 L.t9 hi hz0 hz1 hz2 _ _ _ rfl hown1 s rfl ?c3 ?c4 ?_)
 case c3=>unfold maxLen;omega
 case c4=>omega
 intro v' w2 hown' hgrow hbz hnew;have hlt:b<w1.heap.size:=lt_of_heap hb1;have hb2:w2.heap[b]? =some (.cells #[.pointer (some ⟨b,0,none⟩),v] (ρ.t 72) (0,0)):=by
  rw[hgrow.block b hlt (fun e=>hne e.symm)];exact hb1
 have d0:w2.cell? ⟨b,0,none⟩=some (.pointer (some ⟨b,0,none⟩)):=by rw[Lib.cell_of_heap hb2];rfl
 have d1:w2.cell? ⟨b,1,none⟩=some v:=by rw[Lib.cell_of_heap hb2];rfl
 have f1:w2.frozen? ⟨b,1,none⟩=false:=Lib.frozen_of_heap hb2 1;have hvb:v'.ownBlock≠some b:=fun e=>by
  rcases hnew b e with h|h
  ·exact hne h
  ·omega
 obtain⟨ao,n',cap,rfl⟩:∃ao n' cap,v'=.slice ao n' cap:=by
  rcases hown'.2 with⟨hv,_⟩|⟨g,cap,cur,fz,hv,_⟩
  ·exact⟨_,_,_,hv⟩
  ·exact⟨_,_,_,hv⟩
 go_wp2
 go_ret2
 refine⟨_,.slice ao n' cap,rfl,⟨⟨_,?_,.inr rfl⟩,hvb,?_,?_,?_,?_,?_,?_,?_,?_⟩,rfl⟩
 ·simp[World.setCell,af9,hb2]
 ·rw[←Ho,ByteArray.size_append]
  exact l9 hown' fun g hg=>Below.heap_setCell _ _ _ _ (fun e=>hvb (by rw[hg,e]))
 ·intro g hg
  rcases hnew g hg with h|h
  ·exact .inl h
  ·exact .inr (by omega)
 ·exact hgrow.os.trans o1
 ·exact hgrow.tape.trans tp1
 ·exact hgrow.output.trans ou1
 ·have:=hgrow.size;simp[World.setCell];omega
 ·intro b' h1 h2 h3
  rw[Below.heap_setCell _ _ _ _ h2,hgrow.block b' (by omega) (fun e=>h3 e.symm)]
  exact oth1 b' h2
 ·intro b' h1
  rw[xB,hbz b' (by omega)]
set_option maxHeartbeats 4000000 in
set_option maxRecDepth 100000 in
theorem Og {P:Program} {ρ:Ren} (L:Lays.n169 P ρ) (X:Builder.Extra P ρ) (b:Nat) (p v:Value) (s:ByteArray) (w:World) (hbk:w.heap[b]? =some (.cells #[p,v] (ρ.t 72) (0,0))) (hp:p=.pointer none∨p=.pointer (some ⟨b,0,none⟩))
 (hne:v.ownBlock≠some b) (hown:w.ownsRowF 0 (ρ.t 5) 1 v s.size (Lib.strCells s)) (h0:0<s.size):
 Calls P (ρ.f 169) #[.pointer (some ⟨b,0,none⟩)] w fun ex w'=>∃val v',ex=.returned val∧uY (ρ.t 72) (ρ.t 5) b v w w' s v'∧val=.string s:=by
 obtain⟨g,cap,cur,fz,rfl,hbg,hg,hfz,hnc,hcm,hcs,htake⟩:∃g cap cur fz,v=.slice (some ⟨g,0,none⟩) s.size cap∧0≤g∧w.heap[g]? =some (.cells cur (ρ.t 5) fz)∧fz.2≤s.size*1∧s.size≤cap∧cap≤maxLen∧cur.size=cap*1∧cur.toList.take (s.size*1)=Lib.strCells s:=by
  rcases hown.2 with⟨_,hz⟩|⟨g,cap,cur,fz,hv,r⟩
  ·omega
  ·exact⟨g,cap,cur,fz,hv,r⟩
 have hgb:g≠b:=fun e=>hne (by simp[Value.ownBlock,e])
 have hls:s.data.toList.length=s.size:=by rw[agG];rfl
 have c1:w.drew.cell? ⟨b,1,none⟩=some (.slice (some ⟨g,0,none⟩) s.size cap):=by
  have:w.drew.heap[b]? =some (.cells #[p,.slice (some ⟨g,0,none⟩) s.size cap] (ρ.t 72) (0,0)):=hbk;rw[Lib.cell_of_heap this];rfl
 have hSD:(Builtin.unsafeSliceData_ #[(ρ.t 37)] (ρ.t 127) #[.slice (some ⟨g,0,none⟩) s.size cap]).run P w.drew=.ok (.pointer (some ⟨g,0,none⟩)) w.drew:=
  Lib.run_unsafeSliceData_row _ _ _ _ _ _ (by omega)
 have hUS:(Builtin.unsafeString_ #[(ρ.t 127),(ρ.t 3)] (ρ.t 9) #[.pointer (some ⟨g,0,none⟩),.int .i64 s.size]).run P w.drew=.ok (.string s) (w.drew.freeze ⟨g,0,none⟩ s.size):=by
  have:=Lib.run_unsafeString_row (P:=P) w.drew (ρ.t 127) (ρ.t 3) (ρ.t 9) (ρ.t 5) L.t127 X.cellsByte g cur.size (by have hg':w.drew.heap[g]? =some (.cells cur (ρ.t 5) fz):=hg;simp[World.shape?,hg']) s.data.toList (by intro e;rw[e]at hls;exact absurd hls (by rw[afU];omega)) (by omega) (by unfold maxLen at hcm;omega) (by
   intro j x hx;exact hown.cells (g:=g) rfl j (.int .u8 x.toNat) (by simp[Lib.strCells,hx]))
  rw[hls]at this;exact this
 have hfin:uY (ρ.t 72) (ρ.t 5) b (.slice (some ⟨g,0,none⟩) s.size cap) w (w.drew.freeze ⟨g,0,none⟩ s.size) s (.slice (some ⟨g,0,none⟩) s.size cap):=by
  have hgn:(w.drew.freeze ⟨g,0,none⟩ s.size).heap[g]? =some (.cells cur (ρ.t 5) (if fz.1==fz.2 then(0,0+s.size)else(min fz.1 0,max fz.2 (0+s.size)))):=by
   unfold World.freeze;rw[if_neg (by omega)]
   have hg':w.drew.heap[g]? =some (.cells cur (ρ.t 5) fz):=hg;simp[af9,hg']
  have hoth:∀b',b'≠g→(w.drew.freeze ⟨g,0,none⟩ s.size).heap[b']? =w.heap[b']? :=fun b' hb'=>by
   unfold World.freeze;rw[if_neg (by omega)]
   simp only[af9];rw[if_neg (fun e=>hb' e.symm)];rfl
  refine⟨⟨p,(hoth b (fun e=>hgb e.symm)).trans hbk,hp⟩,hne,⟨hown.1,.inr ⟨g,cap,cur,_,rfl,hbg,hgn,?_,hnc,hcm,hcs,htake⟩⟩,fun g' hg'=>.inl hg',?_,?_,?_,?_,fun b' _ _ h3=>hoth b' (fun e=>h3 (by simp[Value.ownBlock,e])),fun b' _=>?_⟩
  ·split
   ·simp
   ·simp;omega
  ·unfold World.freeze;split<;>rfl
  ·unfold World.freeze;split<;>rfl
  ·unfold World.freeze;split<;>rfl
  ·unfold World.freeze
   split
   ·exact af3 _
   ·exact Nat.le_of_eq (Array.size_modify ..).symm
  ·by_cases e:b'=g
   ·subst e;unfold bsz;rw[hgn,hg]
   ·exact eu (hoth b' e)
 have mixed:=L.mixed;have t72:=L.t72;have a72:=L.a72;have z72:=L.z72;have v72:=L.v72;have u72:=run_underlying L.t72;have t70:=L.t70;have a70:=L.a70;have z70:=L.z70;have v70:=L.v70;have u70:=run_underlying L.t70;have t37:=L.t37;have a37:=L.a37;have z37:=L.z37;have v37:=L.v37;have u37:=run_underlying L.t37;have t127:=L.t127;have a127:=L.a127;have z127:=L.z127;have v127:=L.v127;have u127:=run_underlying L.t127;have t3:=L.t3;have a3:=L.a3;have z3:=L.z3;have v3:=L.v3;have u3:=run_underlying L.t3;have t9:=L.t9;have a9:=L.a9;have z9:=L.z9;have v9:=L.v9;have u9:=run_underlying L.t9;have t5:=X.t5;have a5:=X.a5;have z5:=X.z5;have v5:=X.v5;have u5:=run_underlying X.t5
 go_enter L.f169,Body.n169_ntmps ρ
 go_wp2
 go_region_o
 all_goals(go_wp2;go_ret;exact⟨_,_,rfl,hfin,rfl⟩)
end Go.Eng
namespace Go.Eng.YtcechbdgokjmgaaGreatDoor
open Go.Proofs Go.RowKit
set_option linter.unusedSimpArgs false
set_option linter.unusedVariables false
set_option maxHeartbeats 0
set_option maxRecDepth 100000
def Oh:CT:=fun args n H K=>match args with
 | [p,x]=>match p with
  |.rp k off=>match x with
   |.str s=>bQ H k fun o=>match o with
    |.bld t e acc=>ifK (agn off 0&&agn t 163&&agn e 5) (VC (acc.size+s.size≤140737488355328)∧K (.tup [.int .i64 s.size,.nili]) [(k,.bld t e (acc++s))] [k] [])
    |_=>False
   |_=>False
  |_=>False
 |_=>False
def Oi:CT:=fun args n H K=>match args with
 | [p]=>match p with
  |.rp k off=>bQ H k fun o=>match o with
   |.bld t e acc=>ifK (agn off 0&&agn t 163&&agn e 5) (K (.int .i64 acc.size) [(k,.bld t e acc)] [k] [])
   |_=>False
  |_=>False
 |_=>False
def Oj:CT:=fun args n H K=>match args with
 | [p]=>match p with
  |.rp k off=>bQ H k fun o=>match o with
   |.bld t e acc=>ifK (agn off 0&&agn t 163&&agn e 5) (VC (0<acc.size)∧K (.str acc) [(k,.bld t e acc)] [k] [])
   |_=>False
  |_=>False
 |_=>False
theorem BM {S:Imm} {w:World} {ι:Ix} {k b:Nat} {v:Value} (h:Rep S w ι (.rp k 0) v) (hb:ι.o k=some b):v=.pointer (some ⟨b,0,none⟩):=by
 cases h with
 |rp _ _ _ b' hk=>rw[hb]at hk;cases hk;rfl
theorem UL {S:Imm} {w:World} {ι:Ix} {s:ByteArray} {v:Value} (h:Rep S w ι (.str s) v):v=.string s:=by cases h;rfl
theorem UM:COK Tryz.prog 106 Oh:=by
 intro args n H K hk;unfold Oh at hk;split at hk
 ·split at hk
  ·rename_i k off
   split at hk
   ·rename_i s
    rw[aV]at hk;obtain⟨o,hob,hk⟩:=hk;split at hk
    ·rename_i t e acc
     simp only[aL,ags]at hk;obtain⟨⟨⟨h1,h2⟩,h3⟩,⟨hsz⟩,hk⟩:=hk;have h1:=agt h1;have h2:=agt h2;have h3:=agt h3;subst h1;subst h2;subst h3;refine⟨_,_,_,[],hk,xX (enters' Tryz.func106 (by rfl) (by rfl)) hob fun S w ι vs b p v hr ho h0 hp hne hown=>?_⟩
     obtain⟨v1,v2,rfl,r1,r2⟩:=FI hr;obtain rfl:=BM r1 ho;obtain rfl:=UL r2;refine(Rq (P:=Tryz.prog) (ρ:=Tryz.lays156_ren) {Tryz.lays156 with} Tryz.Builder_Extra_156 b p v acc s w h0 hp hne hown hsz).mono ?_
     rintro ex w' ⟨val,v',rfl,B,rfl⟩
     exact⟨_,v',rfl,B,fun S' ι'=>.tup _ _ _ rfl fun i hi=>by
      match i,hi with
      |0,_=>exact .int _ _ _
      |1,_=>exact .nili _⟩
    ·exact hk.elim
   ·exact hk.elim
  ·exact hk.elim
 ·exact hk.elim
theorem UN:COK Tryz.prog 110 Oj:=by
 intro args n H K hk;unfold Oj at hk;split at hk
 ·split at hk
  ·rename_i k off
   rw[aV]at hk;obtain⟨o,hob,hk⟩:=hk;split at hk
   ·rename_i t e acc
    simp only[aL,ags]at hk;obtain⟨⟨⟨h1,h2⟩,h3⟩,⟨hsz⟩,hk⟩:=hk;have h1:=agt h1;have h2:=agt h2;have h3:=agt h3;subst h1;subst h2;subst h3;refine⟨_,_,_,[],hk,xX (enters' Tryz.func110 (by rfl) (by rfl)) hob fun S w ι vs b p v hr ho h0 hp hne hown=>?_⟩
    obtain⟨v1,rfl,r1⟩:=xY hr;obtain rfl:=BM r1 ho;refine(Og (P:=Tryz.prog) (ρ:=Tryz.lays156_ren) {Tryz.lays156 with} Tryz.Builder_Extra_156 b p v acc w h0 hp hne hown hsz).mono ?_
    rintro ex w' ⟨val,v',rfl,B,rfl⟩
    exact⟨_,v',rfl,B,fun S' ι'=>.str _ _⟩
   ·exact hk.elim
  ·exact hk.elim
 ·exact hk.elim
set_option maxRecDepth 100000 in
theorem aak (b:Nat) (p v:Value) (s:ByteArray) (w:World) (hbk:w.heap[b]? =some (.cells #[p,v] 163 (0,0))) (hown:w.ownsRowF 0 5 1 v s.size (Lib.strCells s)):
 Calls Tryz.prog 109 #[.pointer (some ⟨b,0,none⟩)] w fun ex w'=>ex=.returned (.int .i64 s.size)∧w'=w:=by
 obtain⟨ao,cap,rfl⟩:∃ao cap,v=.slice ao s.size cap:=by
  rcases hown.2 with⟨hv,h0⟩|⟨g,cap,cur,fz,hv,_⟩
  ·exact⟨none,0,by rw[hv,h0]⟩
  ·exact⟨_,_,hv⟩
 have c1:w.cell? ⟨b,1,none⟩=some (.slice ao s.size cap):=by rw[Lib.cell_of_heap hbk];rfl
 have mixed:=Tryz.lays156.mixed;have t72:=Tryz.underlying163;have u72:=run_underlying Tryz.underlying163
 go_enter Tryz.func109,Tryz.ntmps109
 go_wp2
 go_ret
 exact⟨rfl,rfl⟩
theorem UO:COK Tryz.prog 109 Oi:=by
 intro args n H K hk;unfold Oi at hk;split at hk
 ·split at hk
  ·rename_i k off
   rw[aV]at hk;obtain⟨o,hob,hk⟩:=hk;split at hk
   ·rename_i t e acc
    simp only[aL,ags]at hk;obtain⟨⟨⟨h1,h2⟩,h3⟩,hk⟩:=hk;have h1:=agt h1;have h2:=agt h2;have h3:=agt h3;subst h1;subst h2;subst h3;refine⟨_,_,_,[],hk,xX (enters' Tryz.func109 (by rfl) (by rfl)) hob fun S w ι vs b p v hr ho h0 hp hne hown=>?_⟩
    obtain⟨v1,rfl,r1⟩:=xY hr;obtain rfl:=BM r1 ho;refine(aak b p v acc w h0 hown).mono ?_
    rintro ex w' ⟨rfl,rfl⟩
    exact⟨_,v,rfl,⟨⟨p,h0,hp⟩,hne,hown,fun g hg=>.inl hg,rfl,rfl,rfl,af3 _,fun _ _ _ _=>rfl,fun _ _=>rfl⟩,fun S' ι'=>.int _ _ _⟩
   ·exact hk.elim
  ·exact hk.elim
 ·exact hk.elim
def sNl:ByteArray:=⟨#[10]⟩
def lnB (w:ByteArray) (l:List Int):ByteArray:=joB ([w]++l.map itB) kBl++sNl
theorem mQ {w:ByteArray} {l:List Int} (hw:w.size≤10) (h:∀x∈l,nN x):(lnB w l).size≤22*(l.length+1)+1:=by
 have:=FU (xs:=[w]++l.map itB) (b:=21) fun x hx=>by
  rcases agh.1 hx with hx|hx
  ·simp at hx;subst hx;omega
  ·obtain⟨n,hn,rfl⟩:=aiT.1 hx
   exact pq (h n hn)
 unfold lnB;rw[ByteArray.size_append];have e:sNl.size=1:=rfl;simp only[ahl,afY,afU,ah2]at this;omega
noncomputable def afu:CPT:=aA 106 Oh (aA 107 (aB zF) (aA 108 (aB FW) noC))
theorem aal:aU Tryz.prog afu:=aj UM (aj (au FV) (aj (au Ti) aC))
structure BN (acc w:ByteArray) (l:List Int):Prop where
 sa:acc.size≤1000000000
 sw:w.size≤10
 sl:1≤l.length∧l.length≤100000
 sn:∀x∈l,nN x
theorem UQ (acc w:ByteArray) (l:List Int) (h:BN acc w l):iM Tryz.prog 105 [.str w,.isl (.ints .i64 l) .none,.rp 0 0] [.bld 163 5 acc] [] [.bld 163 5 (acc++lnB w l)]:=by
 obtain⟨h1,h2,h3,h4⟩:=h;have hs:=mQ h2 h4;have hT:Tg l:=⟨by omega,fun i hi=>h4 _ (cB hi)⟩
 have hW:Tf ([w]++l.map itB) 1000000:=⟨by simp;omega,fun x hx=>by
  rcases agh.1 hx with hx|hx
  ·simp at hx;subst hx;omega
  ·obtain⟨n,hn,rfl⟩:=aiT.1 hx
   have:=pq (h4 n hn);omega⟩
 have e1:(joB ([w]++l.map itB) kBl).size+1=(lnB w l).size:=by
  unfold lnB;rw[ByteArray.size_append];rfl
 unfold lnB sNl;unfold lnB sNl at hs e1;refine bH (md:=1) (rf:=[]) mixed ak aal 1 [] Tryz.func105 (by rfl) (by rfl) (by rfl) ?_
 repeat'((conv=>whnf);first|intro _|apply aI|with_reducible exact vM rfl|exact⟨⟩|apply nM|apply fM)
 all_goals((try apply vM);(try simp only[vq]at*);try omega)
 all_goals first|exact hT|exact hW|(simp only[ahl,ah2,afY,afU];omega)|(rw[ByteArray.size_append]at*;omega)|skip
def UR:LSp:=fun xs objs K=>match xs,objs with
 | [.str w,.isl (.ints .i64 l) .none,.rp 0 0],[.bld 163 5 acc]=>VC (BN acc w l)∧K [] [.bld 163 5 (acc++lnB w l)]
 |_,_=>False
theorem adk:LOK Tryz.prog 105 UR:=by
 intro xs objs K hk;unfold UR at hk;split at hk
 ·exact⟨_,_,hk.2,UQ _ _ _ hk.1.get⟩
 ·exact hk.elim
abbrev qW:ByteArray:=⟨#[99,101,108,108,115]⟩
abbrev Ol:ByteArray:=⟨#[115,117,109]⟩
abbrev Es:ByteArray:=⟨#[108,105,110,101]⟩
abbrev vK:ByteArray:=⟨#[103,105,118,101,110]⟩
def prA (c:Int) (ls:List (List Int)) (sum:Int) (k:Nat):ByteArray:=(ls.take k).foldl (fun a l=>a++lnB Es l) (.empty++lnB qW [c]++lnB Ol [sum])
def vL (c:Int) (ls:List (List Int)) (sum:Int) (gv:List Int):ByteArray:=prA c ls sum ls.length++lnB vK gv
def Om (c:Int) (ls:List (List Int)) (sum:Int) (gv:List Int):ByteArray × Int:=
 if pzE c ls sum gv≠0 then(sP,pzE c ls sum gv)else if 4096<(vL c ls sum gv).size then(sP,25)else(vL c ls sum gv,0)
theorem Hq (c:Int) (ls:List (List Int)) (sum:Int) (k:Nat) (h:k<ls.length):prA c ls sum (k+1)=prA c ls sum k++lnB Es (ls.getD k []):=by
 unfold prA;rw[ah4,agl h,ait,agf,agl h];rfl
noncomputable def afv:CPT:=aA 22 (aB lS) (aA 105 (dV [] UR) (aA 109 Oi (aA 110 Oj noC)))
theorem BO:aU Tryz.prog afv:=aj (au kS) (aj (dh [] adk) (aj UO (aj UN aC)))
theorem UU {c:Int} {ls:List (List Int)} {sum:Int} {gv:List Int} (hp:dF c ls sum gv):∀k,k≤ls.length→(prA c ls sum k).size≤5000+1000*k:=by
 intro k;induction k with
 |zero=>
  intro _;have h1:=mQ (w:=qW) (l:=[c]) (by decide) (fun x hx=>by simp at hx;subst hx;have:=hp.c1;exact⟨by omega,by omega⟩)
  have h2:=mQ (w:=Ol) (l:=[sum]) (by decide) (fun x hx=>by simp at hx;subst hx;have:=hp.sm;exact⟨by omega,by omega⟩)
  show(ByteArray.empty++lnB qW [c]++lnB Ol [sum]).size≤_;rw[ByteArray.size_append,ByteArray.size_append];simp at h1 h2⊢;omega
 |succ k ih=>
  intro hk;have hL:=hp.ln k (by omega)
  have h1:=mQ (w:=Es) (l:=ls.getD k []) (by decide) (fun x hx=>by have:=hL.rng x hx;have:=hp.c1;exact⟨by omega,by omega⟩)
  rw[Hq _ _ _ _ (by omega),ByteArray.size_append]
  have:=ih (by omega)
  have:=hL.len;omega
theorem Oo (c:Int) (ls:List (List Int)) (sum:Int) (gv:List Int) (h:bK ls) (hg:gv.length≤5000):
 aF Tryz.prog 42 [pzV c ls sum gv] (.tup [.str (Om c ls sum gv).1,.int .i64 (Om c ls sum gv).2]):=by
 unfold Om;by_cases he:pzE c ls sum gv=0
 case neg=>
  rw[if_pos he];refine av (md:=1) (rf:=[2163]) mixed ak BO Tryz.func42 (by rfl) (by rfl) (by rfl) ?_
  repeat'((conv=>whnf);first|(intro hq;(try simp only[vw]at hq);try first|exact absurd hq (by decide)|exfalso;omega)|apply aI|with_reducible exact vM rfl|exact⟨⟩|apply nM|apply fM)
  all_goals((try apply vM);(try simp only[vq]at*);try omega)
  all_goals first|exact⟨h,hg⟩|exact Sup.of rfl|(exfalso;exact he (by assumption))|(exfalso;contradiction)|skip
 rw[if_neg (by rw[he];simp)]
 have hp:=dF.of he;have hc:=hp.c1;have hs:=hp.sm;have hgl:=hp.gl;have hll:=hp.ll;have hA:=UU hp;have k1:BN .empty qW [c]:=⟨by decide,by decide,by simp,fun x hx=>by simp at hx;subst hx;exact⟨by omega,by omega⟩⟩
 have k2:BN (.empty++lnB qW [c]) Ol [sum]:=⟨by
  have h1:=mQ (w:=qW) (l:=[c]) (by decide) (fun x hx=>by simp at hx;subst hx;exact⟨by omega,by omega⟩)
  rw[ByteArray.size_append];simp at h1⊢;omega,by decide,by simp,fun x hx=>by simp at hx;subst hx;exact⟨by omega,by omega⟩⟩
 have k3:∀k,k<ls.length→BN (prA c ls sum k) Es (ls.getD k []):=fun k hk=>⟨by have:=hA k (by omega);omega,by decide,by have:=(hp.ln k hk).ne;have:=(hp.ln k hk).len;omega,fun x hx=>by have:=(hp.ln k hk).rng x hx;exact⟨by omega,by omega⟩⟩
 have k4:BN (prA c ls sum ls.length) vK gv:=⟨by have:=hA ls.length (af3 _);omega,by decide,by omega,fun x hx=>by have:=hp.gr x hx;exact⟨by omega,by omega⟩⟩
 have hT:0<(vL c ls sum gv).size∧(vL c ls sum gv).size≤1000000:=by
  have h1:=hA ls.length (af3 _);have h2:=mQ (w:=vK) (l:=gv) (by decide) k4.sn
  have h3:0<(lnB vK gv).size:=by unfold lnB;rw[ByteArray.size_append];exact Nat.lt_of_lt_of_le (by decide:0<sNl.size) (Nat.le_add_left _ _)
  unfold vL;rw[ByteArray.size_append];omega
 have fin:∀r:ByteArray × Int,r=(if 4096<(vL c ls sum gv).size then(sP,(25:Int))else(vL c ls sum gv,0))→aF Tryz.prog 42 [pzV c ls sum gv] (.tup [.str r.1,.int .i64 r.2]):=by
  intro r hr;refine av (md:=1) (rf:=[2163]) mixed ak BO Tryz.func42 (by rfl) (by rfl) (by rfl) ?_
  repeat'((conv=>whnf);first|(intro hq;(try simp only[vw]at hq);try first|exact absurd hq (by decide)|exfalso;omega)|apply aI|with_reducible exact vM rfl|exact⟨⟩|apply nM|apply fM)
  all_goals((try apply vM);(try simp only[vq]at*);try omega)
  all_goals(try first|exact⟨h,hg⟩|exact k1|exact k2|(exfalso;contradiction))
  all_goals(try exact(rfl:MJ.zero.cells= #[Value.pointer none,Value.slice none 0 0]))
  conv=>whnf
  refine aM (X:=Nat) (fun k=>k≤ls.length) (fun k=>[(30,.int .i64 k)]) (fun k=>[(5,.bld 163 5 (prA c ls sum k))]) (fun k=>ls.length-k) 0 ⟨aK,mixed,ak,BO,aP⟩ (by rfl) (by omega) ?_ ?_
  ·repeat'((conv=>whnf);first|intro _|apply aI|with_reducible exact vM rfl|exact⟨⟩|apply nM|apply fM)
   all_goals((try apply vM);(try simp only[vq]at*);try omega)
  intro k hk;by_cases hlt:k<ls.length
  ·have hs:=Hq c ls sum k hlt
   repeat'((conv=>whnf);first|(intro hq;(try simp only[vw]at hq);try first|exact absurd hq (by decide)|exfalso;omega)|apply aI|with_reducible exact vM rfl|exact⟨⟩|apply nM|apply fM)
   all_goals((try apply vM);(try simp only[vq]at*);try omega)
   all_goals(try first|exact k3 k hlt|omega)
   refine⟨k+1,[],⟨by omega,by omega⟩,?_⟩
   repeat'((conv=>whnf);first|intro _|apply aI|with_reducible exact vM rfl|exact⟨⟩|apply nM|apply fM)
   all_goals((try apply vM);(try simp only[vq]at*);try omega)
   all_goals(try(rw[hs]))
  have e:k=ls.length:=by omega
  subst e;have e2:prA c ls sum ls.length++lnB vK gv=vL c ls sum gv:=rfl
  repeat'((conv=>whnf);first|(intro hq;(try simp only[vw]at hq);try first|exact absurd hq (by decide)|exfalso;omega)|apply aI|with_reducible exact vM rfl|exact⟨⟩|apply nM|apply fM)
  all_goals((try apply vM);(try simp only[vq]at*);try omega)
  all_goals(try first|exact k4|omega)
  all_goals(try rw[e2]at*)
  ·rw[hr,if_pos (by omega)];exact Sup.of rfl
  ·exact hT.1
  ·rw[hr,if_neg (by omega)];exact Sup.of rfl
 exact fin _ rfl
def L9:List (List Int):=[[0,1,2],[3,4,5],[6,7,8],[0,3,6],[1,4,7],[2,5,8],[0,4,8],[2,4,6]]
def G9:List Int:=[2,7,0,0,5,0,0,0,0]
def G9b:List Int:=[2,7,5,0,0,0,0,0,0]
def N9:List Int:=[2,7,6,9,5,1,4,3,8]
def O9:List Int:=[8,7,6,5,4,3,2,1,0]
theorem adl:pzE 9 L9 15 G9=0:=by decide+kernel
theorem ad9:(sol 9 L9 15 G9 1).1.length=6∧(sol 9 L9 15 G9 1).2.1.cs.getD 3 []=[9]∧(sol 9 L9 15 G9 1).2.1.cs.length=9∧(sol 9 L9 15 G9 1).2.2=0:=by decide+kernel
theorem adn:Er 9 L9 15 G9 5=([N9],0):=by decide+kernel
theorem aea:GR 9 L9 15 G9=[6,0,0,0,0]:=by decide+kernel
theorem Oq:(kU 9 L9 15 G9).1=1∧(kU 9 L9 15 G9).2.2=0:=by decide+kernel
instance aeA:DecidableEq Dd:=fun a b=>match a,b with
 |⟨g,y,x,k⟩,⟨g',y',x',k'⟩=>decidable_of_iff (g=g'∧y=y'∧x=x'∧k=k') ⟨fun h=>by obtain⟨rfl,rfl,rfl,rfl⟩:=h;rfl,fun h=>by cases h;exact⟨rfl,rfl,rfl,rfl⟩⟩
theorem ado:sU 9 L9 15 G9=(some ⟨1,2,6,0⟩,0):=by decide+kernel
abbrev UW:ByteArray:=⟨#[99,101,108,108,32,50,32,105,115,32,54,32,98,121,32,108,97,115,116,32,111,110,32,108,105,110,101,32,48]⟩
theorem aeb:Oe 9 L9 15 G9 ⟨#[108,97,115,116]⟩ 2 6 0=(UW,0):=by decide+kernel
theorem aec:bV N9=[1,2,3,4,5,6,7,8,9]:=by
 unfold bV;simp[N9,List.mergeSort,List.MergeSort.Internal.splitInTwo,ajm,ajm.go,List.merge]
theorem afw:iU N9=(true,0):=by
 have h:mO N9=true:=by unfold mO;rw[aec];decide
 unfold iU;rw[if_neg (by decide),h]
theorem Ot:BK 9 L9 N9 1=0∧UJ L9 N9=true∧gF 5 O9=0:=by decide+kernel
theorem Xp:O9.foldl (mkS 9 L9 15 N9 1) N9=[2,7,0,9,0,0,0,0,0]∧gq N9 (L9.getD 0 []) (L9.getD 0 []).length=15:=by decide+kernel
theorem aed:Hf 9 L9 N9 O9 1=((9,L9,15,[2,7,0,9,0,0,0,0,0]),0):=by
 unfold Hf;rw[if_neg (by rw[Ot.1];simp),if_neg (by rw[afw];simp),if_neg (by rw[Ot.2.1];simp),if_neg (by rw[Ot.2.2];decide),Xp.2]
 rw[show(1:Int).toNat=1 from rfl,Xp.1]
abbrev kC:ByteArray:=⟨#[99,101,108,108,115,32,57,10,115,117,109,32,49,53,10,108,105,110,101,32,48,32,49,32,50,10,108,105,110,101,32,51,32,52,32,53,10,108,105,110,101,32,54,32,55,32,56,10,108,105,110,101,32,48,32,51,32,54,10,108,105,110,101,32,49,32,52,32,55,10,108,105,110,101,32,50,32,53,32,56,10,108,105,110,101,32,48,32,52,32,56,10,108,105,110,101,32,50,32,52,32,54,10,103,105,118,101,110,32,50,32,55,32,48,32,48,32,53,32,48,32,48,32,48,32,48,10]⟩
theorem aee:Om 9 L9 15 G9=(kC,0):=by decide+kernel
def Ou (z:ByteArray):Bool:=decide (0<z.size)&&decide (z.size≤9)&&(decide (z.size=1)||!decide (((z.data.getD 0 0).toNat:Int)=48))&&(dA z).all dgI
theorem yH (z:ByteArray):Bn z↔Ou z=true:=by
 unfold Bn Ou;simp only[ags,ahA,decide_eq_true_eq,ajb,decide_eq_false_iff_not];constructor
 ·rintro⟨⟨h1,h2,h3⟩,h4⟩;exact⟨⟨⟨h1,h2⟩,h3⟩,h4⟩
 ·rintro⟨⟨⟨h1,h2⟩,h3⟩,h4⟩;exact⟨⟨h1,h2,h3⟩,h4⟩
def Ov (s:ByteArray) (sg:Bool):Bool:=preB s kMi&&(!sg||decide (kr s kMi=kZe))
theorem Hr (s:ByteArray) (sg:Bool):NK s sg↔Ov s sg=true:=by
 unfold NK Ov;simp
def BP (s:ByteArray) (sg:Bool):Option Int:=if(Ou (kr s kMi)&&!Ov s sg)=true then Go.Lib.atoi s.data.toList else none
theorem BQ (s:ByteArray) (sg:Bool):fG s sg=BP s sg:=by
 unfold fG BP;by_cases h:Ou (kr s kMi)=true<;>by_cases h2:Ov s sg=true
 ·rw[if_neg (fun e=>e.2 ((Hr _ _).2 h2)),if_neg (by simp[h,h2])]
 ·rw[if_pos ⟨(yH _).2 h,fun e=>h2 ((Hr _ _).1 e)⟩,if_pos (by simp[h,h2])]
 ·rw[if_neg (fun e=>h ((yH _).1 e.1)),if_neg (by simp[h,h2])]
 ·rw[if_neg (fun e=>h ((yH _).1 e.1)),if_neg (by simp[h,h2])]
def Ht (s w:ByteArray):Option (List Int):=
 if(decide ((dD 32 s).getD 0 .empty=w)&&((dD 32 s).drop 1).all fun x=>(BP x (decide (w=iT))).isSome)=true then some (((dD 32 s).drop 1).map fun x=>(BP x (decide (w=iT))).getD 0)else none
theorem KL (sg:Bool) (ws:List ByteArray):okW sg ws↔(ws.all fun x=>(BP x sg).isSome)=true:=by
 unfold okW;rw[ahD];constructor
 ·intro h x hx
  obtain⟨j,hj,rfl⟩:=List.mem_iff_getElem.1 hx;have:=h j hj;rw[agf,agl hj,BQ]at this;exact this
 ·intro h j hj
  rw[BQ];exact h _ (vB hj)
theorem aam (s w:ByteArray):bZ s w=Ht s w:=by
 unfold bZ Ht numsL;simp only[BQ];by_cases h:(dD 32 s).getD 0 .empty=w<;>by_cases h2:(((dD 32 s).drop 1).all fun x=>(BP x (decide (w=iT))).isSome)=true
 ·rw[if_pos ⟨h,(KL _ _).2 h2⟩,if_pos (by rw[h2];simp only[h];simp)]
 ·rw[if_neg (fun e=>h2 ((KL _ _).1 e.2)),if_neg (fun e=>h2 (by rw[ags]at e;exact e.2))]
 ·rw[if_neg (fun e=>h e.1),if_neg (fun e=>h (by rw[ags,decide_eq_true_eq]at e;exact e.1))]
 ·rw[if_neg (fun e=>h e.1),if_neg (fun e=>h (by rw[ags,decide_eq_true_eq]at e;exact e.1))]
def Hu (r:Rd) (s:ByteArray):Bool × Rd:=
 if r.line+1≤2 then
  match Ht s (if r.line=0 then Gt else iT)with
  |none=>(false,{r with line:=r.line+1})
  |some l=>if l.length≠1 then(false,{r with line:=r.line+1})else if r.line=0 then(true,{r with line:=r.line+1,c:=l.getD 0 0})else(true,{r with line:=r.line+1,sum:=l.getD 0 0})
 else if r.done=true then(false,{r with line:=r.line+1})
 else match Ht s En with
  |some l=>(true,{r with line:=r.line+1,L:=r.L++[l]})
  |none=>match Ht s vC with
   |some l=>(true,{r with line:=r.line+1,gv:=l,done:=true})
   |none=>(false,{r with line:=r.line+1,gv:=[],done:=false})
theorem aan (r:Rd) (s:ByteArray):nxt r s=Hu r s:=by
 unfold nxt Hu;simp only[aam];rfl
def rdC:Rd→List ByteArray→Rd × Bool
 |r,[]=>(r,true)
 |r,x::t=>if(Hu r x).1=true then rdC (Hu r x).2 t else((Hu r x).2,false)
theorem adp:∀(l:List ByteArray) (r:Rd),rdG r l=rdC r l:=by
 intro l;induction l with
 |nil=>intro r;rfl
 |cons x t ih=>
  intro r;unfold rdG rdC;rw[aan,ih]
theorem afx:((rdC rd0 (dD 10 (jk kC kNl))).1.c,(rdC rd0 (dD 10 (jk kC kNl))).1.L,(rdC rd0 (dD 10 (jk kC kNl))).1.sum,(rdC rd0 (dD 10 (jk kC kNl))).1.gv,(rdC rd0 (dD 10 (jk kC kNl))).1.done,(rdC rd0 (dD 10 (jk kC kNl))).2)=(9,L9,15,G9,true,true):=by decide+kernel
theorem aef:vI kC=0:=by decide+kernel
theorem adq:Od kC=((9,L9,15,G9),0,0):=by
 have h:=afx;have hG:iC kC=rdC rd0 (dD 10 (jk kC kNl)):=adp _ _;rw[←hG]at h;simp only[Prod.mk.injEq]at h;obtain⟨h1,h2,h3,h4,h5,h6⟩:=h;unfold Od;rw[if_neg (by rw[aef];simp),if_neg (by rw[h6];simp),if_neg (by rw[h5];simp),h1,h2,h3,h4,if_neg (by rw[adl];simp)]
theorem adr (l:List Dd):Sup (.isl (dlC l) .none) (.isl (.recs 4 (l.map ddC)) .none):=⟨fun{S w ι v} hr=>by
 have hn:(CL.recs 4 (l.map ddC)).ncell=(dlC l).ncell:=by simp[CL.ncell]
 have hc:(CL.recs 4 (l.map ddC)).cnt=(dlC l).cnt:=by simp[CL.cnt]
 have hg:∀j,j<(dlC l).ncell→(CL.recs 4 (l.map ddC)).get j=(dlC l).get j:=fun j hj=>by
  simp only[CL.ncell]at hj;have:j / 4<l.length:=by omega
  simp only[CL.get];rw[agf,List.getElem?_map,agf,agl this];rfl
 cases hr with
 |islnil _ _ _ h=>exact .islnil _ _ _ (by rw[hc];exact h)
 |isl _ _ _ b off cap h1 h2 h3 h4 h5=>
  rw[←hc];exact .isl _ _ _ _ _ _ (by rw[hc];exact h1) (fun j hj=>h2 j (by rw[←hn];exact hj)) (fun j hj=>by rw[hg j (by rw[←hn];exact hj)];exact h3 j (by rw[←hn];exact hj)) (fun h=>by cases h) (fun k h=>by cases h)⟩
theorem Jy:aF Tryz.prog 84 [] (.agg [.int .i64 9,.isl (.rows .i64 L9) .none]):=by
 refine bF (md:=1) (rf:=[]) mixed ak aC Tryz.func84 (by rfl) (by rfl) (by rfl) ?_
 repeat'((conv=>whnf);first|(intro hq;(try simp only[vw]at hq);try first|exact absurd hq (by decide)|exfalso;omega)|apply aI|with_reducible exact vM rfl|exact⟨⟩|apply nM|apply fM)
 all_goals((try apply vM);(try simp only[vq]at*);try omega)
 unfold L9;all_goals(refine Sup.via ?_;repeat'((conv=>whnf);first|intro _|apply aI|with_reducible exact vM rfl|exact⟨⟩|apply nM|apply fM);all_goals((try apply vM);(try simp only[vq]at*);try omega);all_goals(try(simp[CL.sub];done)))
theorem UY:aF Tryz.prog 85 [] (.isl (.ints .i64 N9) .none):=by
 refine av (md:=1) (rf:=[]) mixed ak aC Tryz.func85 (by rfl) (by rfl) (by rfl) ?_
 repeat'((conv=>whnf);first|(intro hq;(try simp only[vw]at hq);try first|exact absurd hq (by decide)|exfalso;omega)|apply aI|with_reducible exact vM rfl|exact⟨⟩|apply nM|apply fM)
 all_goals((try apply vM);(try simp only[vq]at*);try omega)
 unfold N9;all_goals(refine Sup.via ?_;repeat'((conv=>whnf);first|intro _|apply aI|with_reducible exact vM rfl|exact⟨⟩|apply nM|apply fM);all_goals((try apply vM);(try simp only[vq]at*);try omega);all_goals(try(simp[CL.sub];done)))
def BR:PSp:=fun xs K=>match xs with
 | []=>VC (True)∧K (.agg [.int .i64 9,.isl (.rows .i64 L9) .none])
 |_=>False
theorem Rs:POK Tryz.prog 84 BR:=by
 intro xs K h;unfold BR at h;split at h
 ·exact⟨_,h.2,Jy⟩
 ·exact h.elim
def UZ:PSp:=fun xs K=>match xs with
 | []=>VC (True)∧K (.isl (.ints .i64 N9) .none)
 |_=>False
theorem ads:POK Tryz.prog 85 UZ:=by
 intro xs K h;unfold UZ at h;split at h
 ·exact⟨_,h.2,UY⟩
 ·exact h.elim
theorem ni:bK L9:=⟨by decide,by decide⟩
def C9:List (List Int):=[[2],[7],[1,3,4,6,8,9],[1,3,4,6,8,9],[5],[1,3,4,6,8,9],[1,3,4,6,8,9],[1,3,4,6,8,9],[1,3,4,6,8,9]]
def D9:List Bool:=[true,true,false,false,true,false,false,false,false]
def T9:List (List PV):=[(6,2,0),(3,7,4),(8,8,6),(4,6,2),(9,3,3),(1,5,1)].map fun d:Int × Int × Int=>[.str bM,.int .i64 d.2.1,.int .i64 d.1,.int .i64 d.2.2]
theorem aeg:vF 9 L9 15 G9=⟨C9,D9⟩:=by
 have h1:(vF 9 L9 15 G9).cs=C9:=by decide+kernel
 have h2:(vF 9 L9 15 G9).ds=D9:=by decide+kernel
 rw[←h1,←h2]
theorem afy:aF Tryz.prog 20 [pzV 9 L9 15 G9] (.tup [.agg [.isl (.rows .i64 C9) .none,.isl (.bools D9) .none],.int .i64 0]):=by
 have h:=NV 9 L9 15 G9 ni (by decide)
 rw[aeg,adl]at h;exact h
theorem aeh:aF Tryz.prog 21 [pzV 9 L9 15 G9] (.tup [ddV bM 2 6 0,.int .i64 0]):=by
 have h:=QW 9 L9 15 G9 ni (by decide)
 rw[ado]at h;exact h
theorem aei:aF Tryz.prog 63 [pzV 9 L9 15 G9,ddV bM 2 6 0] (.tup [.str UW,.int .i64 0]):=by
 have h:=Hl 9 L9 15 G9 ni (by decide) bM 2 6 0
 rw[aeb]at h;exact h
theorem aej:(sol 9 L9 15 G9 1).1.map ddC=T9:=by
 have h:(sol 9 L9 15 G9 1).1=[⟨1,2,6,0⟩,⟨1,7,3,4⟩,⟨1,8,8,6⟩,⟨1,6,4,2⟩,⟨1,3,9,3⟩,⟨1,5,1,1⟩]:=by decide+kernel
 rw[h];rfl
def S9:List (List Int):=[[2],[7],[6],[9],[5],[1],[4],[3],[8]]
theorem adt:aF Tryz.prog 30 [pzV 9 L9 15 G9,.int .i64 1] (.tup [.isl (.recs 4 T9) .none,.agg [.isl (.rows .i64 S9) .none,.isl (.bools (agr 9 true)) .none],.int .i64 0]):=by
 have h:=zY 9 L9 15 G9 1 ni (by decide)
 have h1:sV 9 L9 15 G9 1=sol 9 L9 15 G9 1:=by
  have e:aJ [pzE 9 L9 15 G9,jl 1]=0∧(sol 9 L9 15 G9 (1:Int).toNat).2.2≠21:=by decide+kernel
  unfold sV;rw[if_neg (by rw[e.1];simp),if_neg e.2]
  rfl
 rw[h1]at h;have h2:(sol 9 L9 15 G9 1).2.2=0:=ad9.2.2.2;have h3:(sol 9 L9 15 G9 1).2.1.cs=S9:=by decide+kernel
 have h4:(sol 9 L9 15 G9 1).2.1.ds=agr 9 true:=by decide+kernel
 rw[←aej];refine fK h (wM rfl fun i hi=>?_)
 match i,hi with
 |0,_=>exact adr _
 |1,_=>
  show Sup (stV _) _;rw[show stV (sol 9 L9 15 G9 1).2.1=.agg [.isl (.rows .i64 (sol 9 L9 15 G9 1).2.1.cs) .none,.isl (.bools (sol 9 L9 15 G9 1).2.1.ds) .none]from rfl,h3];rw[h4];exact dw _
 |2,_=>show Sup (.int .i64 _) _;rw[h2];exact dw _
theorem adu:aF Tryz.prog 31 [pzV 9 L9 15 G9] (.tup [.int .i64 1,.int .i64 0]):=by
 have h:=NW 9 L9 15 G9 ni (by decide)
 rw[Oq.1,Oq.2]at h;exact h
theorem adv:aF Tryz.prog 32 [pzV 9 L9 15 G9] (.tup [.isl (.ints .i64 [6,0,0,0,0]) .none,.int .i64 0]):=by
 have h:=NY 9 L9 15 G9 ni (by decide)
 rw[aea,Oq.2]at h;exact h
theorem aek:aF Tryz.prog 53 [.agg [.int .i64 9,.isl (.rows .i64 L9) .none],.isl (.ints .i64 N9) .none,.isl (.ints .i64 O9) .none,.int .i64 1] (.tup [pzV 9 L9 15 [2,7,0,9,0,0,0,0,0],.int .i64 0]):=by
 have h:=Rm 9 L9 N9 O9 1 ni (by decide) (by decide)
 rw[aed]at h;exact h
theorem ael:aF Tryz.prog 39 [pzV 9 L9 15 G9,.int .i64 5] (.tup [.isl (.rows .i64 [N9]) .none,.int .i64 0]):=by
 have h:=BG 9 L9 15 G9 5 ni (by decide)
 rw[adn]at h;exact h
theorem adw:aF Tryz.prog 42 [pzV 9 L9 15 G9] (.tup [.str kC,.int .i64 0]):=by
 have h:=Oo 9 L9 15 G9 ni (by decide)
 rw[aee]at h;exact h
theorem aem:aF Tryz.prog 44 [.str kC] (.tup [pzV 9 L9 15 G9,.int .i64 0,.int .i64 0]):=by
 have h:=Ro kC (by decide+kernel)
 rw[adq]at h;exact h
theorem adx:aF Tryz.prog 30 [pzV 9 L9 15 G9b,.int .i64 5] (.tup [.any,.agg [.isl (.rows .i64 []) .none,.isl (.bools []) .none],.int .i64 21]):=by
 have h:=zY 9 L9 15 G9b 5 ni (by decide)
 have h1:sV 9 L9 15 G9b 5=([],noS,21):=by
  have e:aJ [pzE 9 L9 15 G9b,jl 5]=0∧(sol 9 L9 15 G9b (5:Int).toNat).2.2=21:=by decide+kernel
  unfold sV;rw[if_neg (by rw[e.1];simp),if_pos e.2]
 rw[h1]at h;refine fK h (wM rfl fun i hi=>?_)
 match i,hi with
 |0,_=>exact⟨fun _=>.any _ _⟩
 |1,_=>exact dw _
 |2,_=>exact dw _
def Ow:PSp:=fun xs K=>match xs with
 | [.agg [.int .i64 c,.isl (.rows .i64 ls) .none,.int .i64 s,.isl (.ints .i64 gv) .none]]=>VC (c=9∧ls=L9∧s=15∧gv=G9)∧K (.tup [.agg [.isl (.rows .i64 C9) .none,.isl (.bools D9) .none],.int .i64 0])
 |_=>False
theorem aao:POK Tryz.prog 20 Ow:=by
 intro xs K h;unfold Ow at h;split at h
 ·exact⟨_,h.2,(by obtain⟨rfl,rfl,rfl,rfl⟩:=h.1.get;exact afy)⟩
 ·exact h.elim
def Hw:PSp:=fun xs K=>match xs with
 | [.agg [.int .i64 c,.isl (.rows .i64 ls) .none,.int .i64 s,.isl (.ints .i64 gv) .none]]=>VC (c=9∧ls=L9∧s=15∧gv=G9)∧K (.tup [ddV bM 2 6 0,.int .i64 0])
 |_=>False
theorem U0:POK Tryz.prog 21 Hw:=by
 intro xs K h;unfold Hw at h;split at h
 ·exact⟨_,h.2,(by obtain⟨rfl,rfl,rfl,rfl⟩:=h.1.get;exact aeh)⟩
 ·exact h.elim
def Hy:PSp:=fun xs K=>match xs with
 | [.agg [.int .i64 c,.isl (.rows .i64 ls) .none,.int .i64 s,.isl (.ints .i64 gv) .none],.agg [.str r,.int .i64 y,.int .i64 x,.int .i64 k]]=>VC ((c=9∧ls=L9∧s=15∧gv=G9)∧r=bM∧y=2∧x=6∧k=0)∧K (.tup [.str UW,.int .i64 0])
 |_=>False
theorem U2:POK Tryz.prog 63 Hy:=by
 intro xs K h;unfold Hy at h;split at h
 ·exact⟨_,h.2,(by obtain⟨⟨rfl,rfl,rfl,rfl⟩,rfl,rfl,rfl,rfl⟩:=h.1.get;exact aei)⟩
 ·exact h.elim
def BS:PSp:=fun xs K=>match xs with
 | [.agg [.int .i64 c,.isl (.rows .i64 ls) .none,.int .i64 s,.isl (.ints .i64 gv) .none],.int .i64 g]=>match decide (g=1)with
  |true=>VC (g=1∧c=9∧ls=L9∧s=15∧gv=G9)∧K (.tup [.isl (.recs 4 T9) .none,.agg [.isl (.rows .i64 S9) .none,.isl (.bools (agr 9 true)) .none],.int .i64 0])
  |false=>VC (g=5∧c=9∧ls=L9∧s=15∧gv=G9b)∧K (.tup [.any,.agg [.isl (.rows .i64 []) .none,.isl (.bools []) .none],.int .i64 21])
 |_=>False
theorem Rt:POK Tryz.prog 30 BS:=by
 intro xs K hk;unfold BS at hk;split at hk
 ·split at hk
  ·obtain⟨⟨rfl,rfl,rfl,rfl,rfl⟩,hk⟩:=hk;exact⟨_,hk,adt⟩
  ·obtain⟨⟨rfl,rfl,rfl,rfl,rfl⟩,hk⟩:=hk;exact⟨_,hk,adx⟩
 ·exact hk.elim
def BU:PSp:=fun xs K=>match xs with
 | [.agg [.int .i64 c,.isl (.rows .i64 ls) .none,.int .i64 s,.isl (.ints .i64 gv) .none]]=>VC (c=9∧ls=L9∧s=15∧gv=G9)∧K (.tup [.int .i64 1,.int .i64 0])
 |_=>False
theorem Ru:POK Tryz.prog 31 BU:=by
 intro xs K h;unfold BU at h;split at h
 ·exact⟨_,h.2,(by obtain⟨rfl,rfl,rfl,rfl⟩:=h.1.get;exact adu)⟩
 ·exact h.elim
def BX:PSp:=fun xs K=>match xs with
 | [.agg [.int .i64 c,.isl (.rows .i64 ls) .none,.int .i64 s,.isl (.ints .i64 gv) .none]]=>VC (c=9∧ls=L9∧s=15∧gv=G9)∧K (.tup [.isl (.ints .i64 [6,0,0,0,0]) .none,.int .i64 0])
 |_=>False
theorem Rv:POK Tryz.prog 32 BX:=by
 intro xs K h;unfold BX at h;split at h
 ·exact⟨_,h.2,(by obtain⟨rfl,rfl,rfl,rfl⟩:=h.1.get;exact adv)⟩
 ·exact h.elim
def Hz:PSp:=fun xs K=>match xs with
 | [.agg [.int .i64 c,.isl (.rows .i64 ls) .none],.isl (.ints .i64 nv) .none,.isl (.ints .i64 ov) .none,.int .i64 g]=>VC (c=9∧ls=L9∧nv=N9∧ov=O9∧g=1)∧K (.tup [pzV 9 L9 15 [2,7,0,9,0,0,0,0,0],.int .i64 0])
 |_=>False
theorem U3:POK Tryz.prog 53 Hz:=by
 intro xs K h;unfold Hz at h;split at h
 ·exact⟨_,h.2,(by obtain⟨rfl,rfl,rfl,rfl,rfl⟩:=h.1.get;exact aek)⟩
 ·exact h.elim
def HV:PSp:=fun xs K=>match xs with
 | [.agg [.int .i64 c,.isl (.rows .i64 ls) .none,.int .i64 s,.isl (.ints .i64 gv) .none],.int .i64 lim]=>VC ((c=9∧ls=L9∧s=15∧gv=G9)∧lim=5)∧K (.tup [.isl (.rows .i64 [N9]) .none,.int .i64 0])
 |_=>False
theorem U4:POK Tryz.prog 39 HV:=by
 intro xs K h;unfold HV at h;split at h
 ·exact⟨_,h.2,(by obtain⟨⟨rfl,rfl,rfl,rfl⟩,rfl⟩:=h.1.get;exact ael)⟩
 ·exact h.elim
def BZ:PSp:=fun xs K=>match xs with
 | [.agg [.int .i64 c,.isl (.rows .i64 ls) .none,.int .i64 s,.isl (.ints .i64 gv) .none]]=>VC (c=9∧ls=L9∧s=15∧gv=G9)∧K (.tup [.str kC,.int .i64 0])
 |_=>False
theorem Rx:POK Tryz.prog 42 BZ:=by
 intro xs K h;unfold BZ at h;split at h
 ·exact⟨_,h.2,(by obtain⟨rfl,rfl,rfl,rfl⟩:=h.1.get;exact adw)⟩
 ·exact h.elim
def HY:PSp:=fun xs K=>match xs with
 | [.str s]=>VC (s=kC)∧K (.tup [pzV 9 L9 15 G9,.int .i64 0,.int .i64 0])
 |_=>False
theorem U5:POK Tryz.prog 44 HY:=by
 intro xs K h;unfold HY at h;split at h
 ·exact⟨_,h.2,(by obtain rfl:=h.1.get;exact aem)⟩
 ·exact h.elim
noncomputable def aen:CPT:=aA 20 (kG Ow) (aA 21 (kG Hw) (aA 30 (kG BS) (aA 31 (kG BU) (aA 32 (kG BX) (aA 36 (aB lg) (aA 39 (kG HV) (aA 42 (kG BZ) (aA 44 (aB HY) (aA 53 (aB Hz) (aA 63 (kG Hy) (aA 84 (aB BR) (aA 85 (aB UZ) noC))))))))))))
theorem U6:aU Tryz.prog aen:=aj (iH aao) (aj (iH U0) (aj (iH Rt) (aj (iH Ru) (aj (iH Rv) (aj (au ng) (aj (iH U4) (aj (iH Rx) (aj (au U5) (aj (au U3) (aj (iH U2) (aj (au Rs) (aj (au ads) aC))))))))))))
theorem Ox:aF Tryz.prog 17 [] (.bp true):=by
 refine bF (md:=1) (rf:=[28]) mixed ak U6 Tryz.func17 (by rfl) (by rfl) (by rfl) ?_
 repeat'((conv=>whnf);first|(intro hq;(try simp only[vw]at hq);try first|exact absurd hq (by decide)|exfalso;omega)|apply aI|with_reducible exact vM rfl|exact⟨⟩|apply nM|apply fM)
 all_goals((try apply vM);(try simp only[vq]at*);try omega)
 all_goals(try rfl)
 all_goals(try decide+kernel)
 all_goals(try(exfalso;exact absurd hq (by decide+kernel)))
 have hb:∀b,b=true→Sup (bE ([PV.bp b]++[])) (PV.bp true):=fun b e=>by subst e;exact Sup.of rfl
 exact hb _ (by decide+kernel)
def HZ:PSp:=fun xs K=>match xs with
 | []=>VC (True)∧K (.bp true)
 |_=>False
theorem U7:POK Tryz.prog 17 HZ:=by
 intro xs K h;unfold HZ at h;split at h
 ·exact⟨_,h.2,Ox⟩
 ·exact h.elim
end Go.Eng.YtcechbdgokjmgaaGreatDoor
namespace Go.Eng.YtcechbdgokjmgaaGreatDoor
open Go.Proofs
set_option linter.unusedSimpArgs false
set_option linter.unusedVariables false
set_option maxHeartbeats 0
set_option maxRecDepth 100000
theorem U8 (c:Int) (ls:List (List Int)) (sum:Int) (gv:List Int):aF Tryz.prog 19 [pzV c ls sum gv] (pzV c ls sum gv):=by
 refine av (md:=1) (rf:=[]) mixed ak aC Tryz.func19 (by rfl) (by rfl) (by rfl) ?_
 repeat'((conv=>whnf);first|intro _|apply aI|with_reducible exact vM rfl|exact⟨⟩|apply nM|apply fM)
 all_goals((try apply vM);(try simp only[vq]at*);try omega)
 all_goals exact Sup.of rfl
def Oy:PSp:=fun xs K=>match xs with
 | [.agg [.int .i64 c,.isl (.rows .i64 ls) .none,.int .i64 sum,.isl (.ints .i64 gv) .none]]=>VC (True)∧K (.agg [.int .i64 c,.isl (.rows .i64 ls) .none,.int .i64 sum,.isl (.ints .i64 gv) .none])
 |_=>False
theorem Ry:POK Tryz.prog 19 Oy:=by
 intro xs K h;unfold Oy at h;split at h
 ·exact⟨_,h.2,U8 _ _ _ _⟩
 ·exact h.elim
def shB (ls:List (List Int)) (k n:Nat):Bool:=decide (ls.length≤n)&&ls.all fun l=>decide (l.length≤k)
theorem Rz {ls:List (List Int)} {k n:Nat} (h:shB ls k n=true):ls.length≤n∧∀l∈ls,l.length≤k:=by
 unfold shB at h;rw[ags,decide_eq_true_eq,ahD]at h;exact⟨h.1,fun l hl=>of_decide_eq_true (h.2 l hl)⟩
theorem Oz (c:Int) (ls:List (List Int)) (k n:Nat) (hn:n≤1000000):aF Tryz.prog 50 [.agg [.int .i64 c,.isl (.rows .i64 ls) .none],.int .i64 (k:Int),.int .i64 (n:Int)] (.bp (shB ls k n)):=by
 by_cases h1:ls.length≤n
 case neg=>
  rw[show shB ls k n=false by unfold shB;rw[decide_eq_false h1];rfl]
  refine av (md:=1) (rf:=[]) mixed ak aC Tryz.func50 (by rfl) (by rfl) (by rfl) ?_
  repeat'((conv=>whnf);first|(intro hq;(try simp only[vw]at hq);try first|exact absurd hq (by decide)|exfalso;omega)|apply aI|with_reducible exact vM rfl|exact⟨⟩|apply nM|apply fM)
  all_goals((try apply vM);(try simp only[vq]at*);try omega)
  all_goals first|omega|exact d9 false|skip
 refine av (md:=1) (rf:=[]) mixed ak aC Tryz.func50 (by rfl) (by rfl) (by rfl) ?_
 repeat'((conv=>whnf);first|(intro hq;(try simp only[vw]at hq);try first|exact absurd hq (by decide)|exfalso;omega)|apply aI|with_reducible exact vM rfl|exact⟨⟩|apply nM|apply fM)
 all_goals((try apply vM);(try simp only[vq]at*);try omega)
 all_goals(try omega)
 conv=>whnf
 refine aM (X:=Nat) (fun i=>i≤ls.length∧∀j,j<i→(ls.getD j []).length≤k) (fun i=>[(7,.int .i64 i)]) (fun i=>[]) (fun i=>ls.length-i) 0 ⟨aK,mixed,ak,aC,aP⟩ (by rfl) ⟨by omega,fun j hj=>by omega⟩ ?_ ?_
 ·repeat'((conv=>whnf);first|intro _|apply aI|with_reducible exact vM rfl|exact⟨⟩|apply nM|apply fM)
  all_goals((try apply vM);(try simp only[vq]at*);try omega)
 intro i ⟨hi,hok⟩;by_cases hlt:i<ls.length
 ·repeat'((conv=>whnf);first|(intro hq;(try simp only[vw]at hq);try first|exact absurd hq (by decide)|exfalso;omega)|apply aI|with_reducible exact vM rfl|exact⟨⟩|apply nM|apply fM)
  all_goals((try apply vM);(try simp only[vq]at*);try omega)
  all_goals(try omega)
  ·have:shB ls k n=false:=by
    unfold shB;rw[ajn.2 ⟨ls.getD i [],kZ hlt,by rw[decide_eq_false (by omega)];simp⟩,Bool.and_false]
   rw[this];exact d9 false
  ·refine⟨i+1,[],⟨⟨by omega,fun j hj=>?_⟩,by omega⟩,?_⟩
   ·by_cases e:j=i
    ·subst e;omega
    ·exact hok j (by omega)
   repeat'((conv=>whnf);first|intro _|apply aI|with_reducible exact vM rfl|exact⟨⟩|apply nM|apply fM)
   all_goals((try apply vM);(try simp only[vq]at*);try omega)
 have e:i=ls.length:=by omega
 subst e;have:shB ls k n=true:=by
  unfold shB;rw[decide_eq_true h1,aiQ,ahD];intro l hl;obtain⟨j,hj,rfl⟩:=agk hl;have:=hok j hj;rw[agf,agl hj]at this;exact decide_eq_true this
 rw[this]
 repeat'((conv=>whnf);first|(intro hq;(try simp only[vw]at hq);try first|exact absurd hq (by decide)|exfalso;omega)|apply aI|with_reducible exact vM rfl|exact⟨⟩|apply nM|apply fM)
 all_goals((try apply vM);(try simp only[vq]at*);try omega)
 all_goals first|omega|exact d9 true
def Aa:PSp:=fun xs K=>match xs with
 | [.agg [.int .i64 c,.isl (.rows .i64 ls) .none],.int .i64 k,.int .i64 n]=>VC (0≤k∧0≤n∧n≤1000000)∧K (.bp (shB ls k.toNat n.toNat))
 |_=>False
theorem H6:POK Tryz.prog 50 Aa:=by
 intro xs K hk;unfold Aa at hk;split at hk
 ·rename_i c ls k n
  obtain⟨⟨h1,h2,h3⟩,hk⟩:=hk;obtain⟨k',rfl⟩:∃k':Nat,k=k':=⟨k.toNat,by omega⟩
  obtain⟨n',rfl⟩:∃n':Nat,n=n':=⟨n.toNat,by omega⟩
  exact⟨_,hk,Oz _ _ _ _ (by omega)⟩
 ·exact hk.elim
noncomputable def afz:CPT:=aA 50 (aB Aa) noC
theorem KM:aU Tryz.prog afz:=aj (au H6) aC
def qF (ls:List (List Int)) (gv:List Int):Bool:=shB ls 20 130&&decide ((gv.length:Int)≤260)
theorem Jz (c:Int) (ls:List (List Int)) (sum:Int) (gv:List Int):aF Tryz.prog 41 [pzV c ls sum gv] (.bp (qF ls gv)):=by
 unfold qF;cases h:shB ls 20 130 with
 |true=>
  refine av (md:=1) (rf:=[]) mixed ak KM Tryz.func41 (by rfl) (by rfl) (by rfl) ?_
  repeat'((conv=>whnf);first|(intro hq;(try simp only[vw]at hq);try first|exact absurd hq (by decide)|exfalso;omega)|apply aI|with_reducible exact vM rfl|exact⟨⟩|apply nM|apply fM)
  all_goals((try apply vM);(try simp only[vq]at*);try omega)
  ·rw[aiQ];exact Sup.of rfl
  ·exact absurd (h.symm.trans hq) (by decide)
 |false=>
  refine av (md:=1) (rf:=[]) mixed ak KM Tryz.func41 (by rfl) (by rfl) (by rfl) ?_
  repeat'((conv=>whnf);first|(intro hq;(try simp only[vw]at hq);try first|exact absurd hq (by decide)|exfalso;omega)|apply aI|with_reducible exact vM rfl|exact⟨⟩|apply nM|apply fM)
  all_goals((try apply vM);(try simp only[vq]at*);try omega)
  ·exact absurd (hq.symm.trans h) (by decide)
  ·exact d9 false
def Ca:PSp:=fun xs K=>match xs with
 | [.agg [.int .i64 c,.isl (.rows .i64 ls) .none,.int .i64 sum,.isl (.ints .i64 gv) .none]]=>VC (True)∧K (.bp (qF ls gv))
 |_=>False
theorem RB:POK Tryz.prog 41 Ca:=by
 intro xs K h;unfold Ca at h;split at h
 ·exact⟨_,h.2,Jz _ _ _ _⟩
 ·exact h.elim
theorem KO {ls:List (List Int)} {gv:List Int} (h:qF ls gv=true):bK ls∧gv.length≤260:=by
 unfold qF at h;rw[ags,decide_eq_true_eq]at h;obtain⟨h1,h2⟩:=Rz h.1;exact⟨⟨by omega,fun l hl=>by have:=h2 l hl;omega⟩,by omega⟩
def vN (c:Int) (ls:List (List Int)) (k n:Nat):Bool:=shB ls k n&&(decide (fC c ls=0)&&decide (c≤k))
noncomputable def afA:CPT:=aA 50 (aB Aa) (aA 120 (aB Em) noC)
theorem Cb:aU Tryz.prog afA:=aj (au H6) (aj (au Kj) aC)
theorem KP {ls:List (List Int)} {k n:Nat} (h:shB ls k n=true) (hk:k≤5000) (hn:n≤1000000):bK ls:=by
 obtain⟨h1,h2⟩:=Rz h;exact⟨by omega,fun l hl=>by have:=h2 l hl;omega⟩
theorem U9 (c:Int) (ls:List (List Int)) (k n:Nat) (hk:k≤5000) (hn:n≤1000000):aF Tryz.prog 52 [.agg [.int .i64 c,.isl (.rows .i64 ls) .none],.int .i64 (k:Int),.int .i64 (n:Int)] (.bp (vN c ls k n)):=by
 unfold vN;cases h:shB ls k n with
 |false=>
  rw[air];refine av (md:=1) (rf:=[]) mixed ak Cb Tryz.func52 (by rfl) (by rfl) (by rfl) ?_
  repeat'((conv=>whnf);first|(intro hq;(try simp only[vw]at hq);try first|exact absurd hq (by decide)|exfalso;omega)|apply aI|with_reducible exact vM rfl|exact⟨⟩|apply nM|apply fM)
  all_goals((try apply vM);(try simp only[vq]at*);try omega)
  all_goals first|omega|exact d9 false|exact absurd (hq.symm.trans h) (by decide)|(exfalso;exact absurd (h.symm.trans (‹shB ls _ _=true›)) (by decide))|skip
 |true=>
  have hL:=KP h hk hn;rw[aiQ];by_cases h1:fC c ls=0
  ·rw[decide_eq_true h1,aiQ]
   refine av (md:=1) (rf:=[]) mixed ak Cb Tryz.func52 (by rfl) (by rfl) (by rfl) ?_
   repeat'((conv=>whnf);first|(intro hq;(try simp only[vw]at hq);try first|exact absurd hq (by decide)|exfalso;omega)|apply aI|with_reducible exact vM rfl|exact⟨⟩|apply nM|apply fM)
   all_goals((try apply vM);(try simp only[vq]at*);try omega)
   all_goals first|omega|exact hL|exact Sup.of rfl|exact absurd (h.symm.trans hq) (by decide)|(exfalso;exact hq h1)|skip
  ·rw[decide_eq_false h1,air]
   refine av (md:=1) (rf:=[]) mixed ak Cb Tryz.func52 (by rfl) (by rfl) (by rfl) ?_
   repeat'((conv=>whnf);first|(intro hq;(try simp only[vw]at hq);try first|exact absurd hq (by decide)|exfalso;omega)|apply aI|with_reducible exact vM rfl|exact⟨⟩|apply nM|apply fM)
   all_goals((try apply vM);(try simp only[vq]at*);try omega)
   all_goals first|omega|exact hL|exact d9 false|exact absurd (h.symm.trans hq) (by decide)|(exfalso;exact h1 hq)|skip
def Va:PSp:=fun xs K=>match xs with
 | [.agg [.int .i64 c,.isl (.rows .i64 ls) .none],.int .i64 k,.int .i64 n]=>VC ((0≤k∧k≤5000)∧0≤n∧n≤1000000)∧K (.bp (vN c ls k.toNat n.toNat))
 |_=>False
theorem ady:POK Tryz.prog 52 Va:=by
 intro xs K hk;unfold Va at hk;split at hk
 ·rename_i c ls k n
  obtain⟨⟨h1,h2,h3⟩,hk⟩:=hk;obtain⟨k',rfl⟩:∃k':Nat,k=k':=⟨k.toNat,by omega⟩
  obtain⟨n',rfl⟩:∃n':Nat,n=n':=⟨n.toNat,by omega⟩
  exact⟨_,hk,U9 _ _ _ _ (by omega) (by omega)⟩
 ·exact hk.elim
def OA (c:Int) (ls:List (List Int)) (sum:Int) (gv:List Int) (k n:Nat):Bool:=vN c ls k n&&(decide ((gv.length:Int)≤k)&&decide (pzE c ls sum gv=0))
noncomputable def afB:CPT:=aA 18 (aB Gz) (aA 52 (aB Va) noC)
theorem Cc:aU Tryz.prog afB:=aj (au GA) (aj (au ady) aC)
theorem Vb {c:Int} {ls:List (List Int)} {k n:Nat} (h:vN c ls k n=true) (hk:k≤5000) (hn:n≤1000000):bK ls:=by
 unfold vN at h;rw[ags]at h;exact KP h.1 hk hn
theorem RD (c:Int) (ls:List (List Int)) (sum:Int) (gv:List Int) (k n:Nat) (hk:k≤5000) (hn:n≤1000000):aF Tryz.prog 29 [pzV c ls sum gv,.int .i64 (k:Int),.int .i64 (n:Int)] (.bp (OA c ls sum gv k n)):=by
 unfold OA;cases h:vN c ls k n with
 |false=>
  rw[air];refine av (md:=1) (rf:=[]) mixed ak Cc Tryz.func29 (by rfl) (by rfl) (by rfl) ?_
  repeat'((conv=>whnf);first|(intro hq;(try simp only[vw]at hq);try first|exact absurd hq (by decide)|exfalso;omega)|apply aI|with_reducible exact vM rfl|exact⟨⟩|apply nM|apply fM)
  all_goals((try apply vM);(try simp only[vq]at*);try omega)
  all_goals first|omega|exact d9 false|exact absurd (hq.symm.trans h) (by decide)|(exfalso;exact absurd (h.symm.trans (‹vN c ls _ _=true›)) (by decide))|skip
 |true=>
  have hL:=Vb h hk hn;rw[aiQ];by_cases h1:(gv.length:Int)≤k
  ·rw[decide_eq_true h1,aiQ]
   refine av (md:=1) (rf:=[]) mixed ak Cc Tryz.func29 (by rfl) (by rfl) (by rfl) ?_
   repeat'((conv=>whnf);first|(intro hq;(try simp only[vw]at hq);try first|exact absurd hq (by decide)|exfalso;omega)|apply aI|with_reducible exact vM rfl|exact⟨⟩|apply nM|apply fM)
   all_goals((try apply vM);(try simp only[vq]at*);try omega)
   all_goals first|omega|exact⟨hL,by omega⟩|exact Sup.of rfl|exact absurd (h.symm.trans hq) (by decide)|(exfalso;exact hq h1)|skip
  ·rw[decide_eq_false h1,air]
   refine av (md:=1) (rf:=[]) mixed ak Cc Tryz.func29 (by rfl) (by rfl) (by rfl) ?_
   repeat'((conv=>whnf);first|(intro hq;(try simp only[vw]at hq);try first|exact absurd hq (by decide)|exfalso;omega)|apply aI|with_reducible exact vM rfl|exact⟨⟩|apply nM|apply fM)
   all_goals((try apply vM);(try simp only[vq]at*);try omega)
   all_goals first|omega|exact⟨hL,by omega⟩|exact d9 false|exact absurd (h.symm.trans hq) (by decide)|(exfalso;exact h1 hq)|skip
def OB:PSp:=fun xs K=>match xs with
 | [.agg [.int .i64 c,.isl (.rows .i64 ls) .none,.int .i64 sum,.isl (.ints .i64 gv) .none],.int .i64 k,.int .i64 n]=>VC ((0≤k∧k≤5000)∧0≤n∧n≤1000000)∧K (.bp (OA c ls sum gv k.toNat n.toNat))
 |_=>False
theorem aap:POK Tryz.prog 29 OB:=by
 intro xs K hk;unfold OB at hk;split at hk
 ·rename_i c ls sum gv k n
  obtain⟨⟨h1,h2,h3⟩,hk⟩:=hk;obtain⟨k',rfl⟩:∃k':Nat,k=k':=⟨k.toNat,by omega⟩
  obtain⟨n',rfl⟩:∃n':Nat,n=n':=⟨n.toNat,by omega⟩
  exact⟨_,hk,RD _ _ _ _ _ _ (by omega) (by omega)⟩
 ·exact hk.elim
noncomputable def afC:CPT:=aA 18 (aB Gz) (aA 19 (aB Oy) (aA 29 (aB OB) (aA 41 (aB Ca) noC)))
theorem Ce:aU Tryz.prog afC:=aj (au GA) (aj (au Ry) (aj (au aap) (aj (au RB) aC)))
def Cg (c:Int) (ls:List (List Int)) (sum:Int) (gv:List Int):Bool:=!qF ls gv||(decide (pzE c ls sum gv=0)&&!OA c ls sum gv 12 12)
theorem OC (c:Int) (ls:List (List Int)) (sum:Int) (gv:List Int):aF Tryz.prog 16 [pzV c ls sum gv] (.bp (Cg c ls sum gv)):=by
 unfold Cg;cases h:qF ls gv with
 |false=>
  rw[Bool.not_false,Bool.true_or];refine av (md:=1) (rf:=[]) mixed ak Ce Tryz.func16 (by rfl) (by rfl) (by rfl) ?_
  repeat'((conv=>whnf);first|(intro hq;(try simp only[vw]at hq);try first|exact absurd hq (by decide)|exfalso;omega)|apply aI|with_reducible exact vM rfl|exact⟨⟩|apply nM|apply fM)
  all_goals((try apply vM);(try simp only[vq]at*);try omega)
  all_goals first|omega|exact d9 true|exact absurd (hq.symm.trans h) (by decide)|(exfalso;exact absurd ((‹qF ls gv=true›).symm.trans h) (by decide))|skip
 |true=>
  obtain⟨hL,hg⟩:=KO h;rw[Bool.not_true,Bool.false_or];by_cases h1:pzE c ls sum gv=0
  ·rw[decide_eq_true h1,aiQ]
   refine av (md:=1) (rf:=[]) mixed ak Ce Tryz.func16 (by rfl) (by rfl) (by rfl) ?_
   repeat'((conv=>whnf);first|(intro hq;(try simp only[vw]at hq);try first|exact absurd hq (by decide)|exfalso;omega)|apply aI|with_reducible exact vM rfl|exact⟨⟩|apply nM|apply fM)
   all_goals((try apply vM);(try simp only[vq]at*);try omega)
   all_goals first|omega|exact⟨hL,by omega⟩|exact Sup.of rfl|exact absurd (h.symm.trans hq) (by decide)|(exfalso;exact hq h1)|skip
  ·rw[decide_eq_false h1,air]
   refine av (md:=1) (rf:=[]) mixed ak Ce Tryz.func16 (by rfl) (by rfl) (by rfl) ?_
   repeat'((conv=>whnf);first|(intro hq;(try simp only[vw]at hq);try first|exact absurd hq (by decide)|exfalso;omega)|apply aI|with_reducible exact vM rfl|exact⟨⟩|apply nM|apply fM)
   all_goals((try apply vM);(try simp only[vq]at*);try omega)
   all_goals first|omega|exact⟨hL,by omega⟩|exact d9 false|exact absurd (h.symm.trans hq) (by decide)|(exfalso;exact h1 hq)|skip
def H7:PSp:=fun xs K=>match xs with
 | [.agg [.int .i64 c,.isl (.rows .i64 ls) .none,.int .i64 sum,.isl (.ints .i64 gv) .none]]=>VC (True)∧K (.bp (Cg c ls sum gv))
 |_=>False
theorem Vd:POK Tryz.prog 16 H7:=by
 intro xs K h;unfold H7 at h;split at h
 ·exact⟨_,h.2,OC _ _ _ _⟩
 ·exact h.elim
end Go.Eng.YtcechbdgokjmgaaGreatDoor
namespace Go.Eng.YtcechbdgokjmgaaGreatDoor
open Go.Proofs Go.RowKit
set_option linter.unusedSimpArgs false
set_option linter.unusedVariables false
set_option maxHeartbeats 0
set_option maxRecDepth 100000
def wQ (p:PSp) (u:PV):PSp:=fun xs K=>p xs (fun v=>VC (Sup v u))∧K u
theorem qX {g:FuncId} {p:PSp} (h:POK Tryz.prog g p) (u:PV):POK Tryz.prog g (wQ p u):=by
 intro xs K hk;obtain⟨v,hv,hp⟩:=h _ _ hk.1;exact⟨u,hk.2,fK hp hv.get⟩
theorem vO {a b:Bool} (h:a=b):Sup (.bp a) (.bool b):=⟨fun hr=>by cases hr;subst h;exact .bool _ _⟩
theorem kI {a b:Int} (h:a=b):Sup (.int .i64 a) (.int .i64 b):=Sup.of (by rw[h])
theorem OD {g:FuncId} {xs ys:List PV} {v:PV} (h:aF Tryz.prog g xs v) (hl:ys.length=xs.length) (hs:∀i,i<ys.length→Sup (aD ys i) (aD xs i)):aF Tryz.prog g ys v:=
 ⟨h.1,fun S w vs hB hI hA=>h.2 S w vs hB hI ⟨hl.symm.trans hA.1,fun i hi=>(hs i (by omega)).get (hA.2 i (by omega))⟩⟩
theorem aaq {S:Imm} {w:World} {ι:Ix} {c:CL} {v:Value} (h:Rep S w ι (.isl (.ints .i64 []) .none) v) (hc:c.cnt=0):Rep S w ι (.isl c .none) v:=by
 cases h with
 |islnil _ _ _ h=>exact .islnil _ _ _ hc
 |isl _ _ _ b off cap h1 hs h hf ho=>exact iD _ hc (.inr ⟨b,off,rfl⟩) _
end Go.Eng.YtcechbdgokjmgaaGreatDoor
namespace Go.Eng.YtcechbdgokjmgaaGreatDoor
open Go.Proofs
set_option linter.unusedSimpArgs false
set_option linter.unusedVariables false
set_option maxHeartbeats 0
set_option maxRecDepth 100000
def jo (n:Int):Int:=if n<0∨256<n then 3 else 0
theorem RF (n:Int):aF Tryz.prog 143 [.int .i64 n] (.int .i64 (jo n)):=by
 unfold jo;by_cases h:n<0∨256<n
 ·rw[if_pos h]
  refine av (md:=1) (rf:=[]) mixed ak aC Tryz.func143 (by rfl) (by rfl) (by rfl) ?_
  repeat'((conv=>whnf);first|(intro hq;(try simp only[vw]at hq);try first|exact absurd hq (by decide)|exfalso;omega)|apply aI|with_reducible exact vM rfl|exact⟨⟩|apply nM|apply fM)
  all_goals((try apply vM);(try simp only[vq]at*);try omega)
  all_goals first|omega|exact Sup.of rfl
 ·rw[if_neg h]
  refine av (md:=1) (rf:=[]) mixed ak aC Tryz.func143 (by rfl) (by rfl) (by rfl) ?_
  repeat'((conv=>whnf);first|(intro hq;(try simp only[vw]at hq);try first|exact absurd hq (by decide)|exfalso;omega)|apply aI|with_reducible exact vM rfl|exact⟨⟩|apply nM|apply fM)
  all_goals((try apply vM);(try simp only[vq]at*);try omega)
  all_goals first|omega|exact Sup.of rfl
def OE:PSp:=fun xs K=>match xs with
 | [.int .i64 n]=>VC (True)∧K (.int .i64 (jo n))
 |_=>False
theorem aar:POK Tryz.prog 143 OE:=by
 intro xs K h;unfold OE at h;split at h
 ·exact⟨_,h.2,RF _⟩
 ·exact h.elim
def jO (q:List Int) (n:Int):Int:=if jo n≠0 then 3 else if(q.length:Int)≠n then 2 else gF 5 q
noncomputable def afD:CPT:=aA 56 (aB GH) (aA 143 (aB OE) noC)
theorem Ch:aU Tryz.prog afD:=aj (au Ur) (aj (au aar) aC)
theorem RG (q:List Int) (b:Bool) (n:Int) (h:q.length≤5000):aF Tryz.prog 80 [.agg [.isl (.ints .i64 q) .none,.bp b],.int .i64 n] (.int .i64 (jO q n)):=by
 unfold jO;by_cases h1:jo n=0
 case neg=>
  rw[if_pos h1];refine av (md:=1) (rf:=[]) mixed ak Ch Tryz.func80 (by rfl) (by rfl) (by rfl) ?_
  repeat'((conv=>whnf);first|(intro hq;(try simp only[vw]at hq);try first|exact absurd hq (by decide)|exfalso;omega)|apply aI|with_reducible exact vM rfl|exact⟨⟩|apply nM|apply fM)
  all_goals((try apply vM);(try simp only[vq]at*);try omega)
  all_goals first|omega|exact Sup.of rfl|(exfalso;exact hq h1)|(exfalso;exact h1 hq)|skip
 rw[if_neg (by rw[h1];simp)]
 by_cases h2:(q.length:Int)=n
 case neg=>
  rw[if_pos h2];refine av (md:=1) (rf:=[]) mixed ak Ch Tryz.func80 (by rfl) (by rfl) (by rfl) ?_
  repeat'((conv=>whnf);first|(intro hq;(try simp only[vw]at hq);try first|exact absurd hq (by decide)|exfalso;omega)|apply aI|with_reducible exact vM rfl|exact⟨⟩|apply nM|apply fM)
  all_goals((try apply vM);(try simp only[vq]at*);try omega)
  all_goals first|omega|exact Sup.of rfl|(exfalso;exact hq h1)|skip
 rw[if_neg (by simpa using h2)]
 refine av (md:=1) (rf:=[]) mixed ak Ch Tryz.func80 (by rfl) (by rfl) (by rfl) ?_
 repeat'((conv=>whnf);first|(intro hq;(try simp only[vw]at hq);try first|exact absurd hq (by decide)|exfalso;omega)|apply aI|with_reducible exact vM rfl|exact⟨⟩|apply nM|apply fM)
 all_goals((try apply vM);(try simp only[vq]at*);try omega)
 all_goals first|omega|exact h|exact Sup.of rfl|(exfalso;exact hq h1)|skip
def OG:PSp:=fun xs K=>match xs with
 | [.agg [.isl (.ints .i64 q) .none,.bp b],.int .i64 n]=>VC (q.length≤5000)∧K (.int .i64 (jO q n))
 |_=>False
theorem aas:POK Tryz.prog 80 OG:=by
 intro xs K h;unfold OG at h;split at h
 ·exact⟨_,h.2,RG _ _ _ h.1.get⟩
 ·exact h.elim
def gQ (ls:List (List Int)):Bool:=ls.all fun l=>decide (l.length=(ls.getD 0 []).length)
theorem RH (c:Int) (ls:List (List Int)) (h:ls.length≤1000000):aF Tryz.prog 145 [.agg [.int .i64 c,.isl (.rows .i64 ls) .none]] (.bp (gQ ls)):=by
 refine av (md:=1) (rf:=[]) mixed ak aC Tryz.func145 (by rfl) (by rfl) (by rfl) ?_
 repeat'((conv=>whnf);first|(intro hq;(try simp only[vw]at hq);try first|exact absurd hq (by decide)|exfalso;omega)|apply aI|with_reducible exact vM rfl|exact⟨⟩|apply nM|apply fM)
 all_goals((try apply vM);(try simp only[vq]at*);try omega)
 conv=>whnf
 refine aM (X:=Nat) (fun i=>i≤ls.length∧∀j,j<i→(ls.getD j []).length=(ls.getD 0 []).length) (fun i=>[(3,.int .i64 i)]) (fun i=>[]) (fun i=>ls.length-i) 0 ⟨aK,mixed,ak,aC,aP⟩ (by rfl) ⟨by omega,fun j hj=>by omega⟩ ?_ ?_
 ·repeat'((conv=>whnf);first|intro _|apply aI|with_reducible exact vM rfl|exact⟨⟩|apply nM|apply fM)
  all_goals((try apply vM);(try simp only[vq]at*);try omega)
 intro i ⟨hi,hall⟩;by_cases hlt:i<ls.length
 ·have hno:(ls.getD i []).length≠(ls.getD 0 []).length→gQ ls=false:=fun e=>ajn.2 ⟨ls.getD i [],gu hlt,by simpa using e⟩
  by_cases e:(ls.getD i []).length=(ls.getD (aiw 0) []).length
  ·repeat'((conv=>whnf);first|(intro hq;(try simp only[vw]at hq);try first|exact absurd hq (by decide)|exfalso;omega)|apply aI|with_reducible exact vM rfl|exact⟨⟩|apply nM|apply fM)
   all_goals((try apply vM);(try simp only[vq]at*);try omega)
   all_goals(try omega)
   refine⟨i+1,[],⟨⟨by omega,fun j hj=>?_⟩,by omega⟩,?_⟩
   ·by_cases q:j=i
    ·rw[q];exact e
    ·exact hall j (by omega)
   repeat'((conv=>whnf);first|intro _|apply aI|with_reducible exact vM rfl|exact⟨⟩|apply nM|apply fM)
   all_goals((try apply vM);(try simp only[vq]at*);try omega)
  ·rw[hno e]
   repeat'((conv=>whnf);first|(intro hq;(try simp only[vw]at hq);try first|exact absurd hq (by decide)|exfalso;omega)|apply aI|with_reducible exact vM rfl|exact⟨⟩|apply nM|apply fM)
   all_goals((try apply vM);(try simp only[vq]at*);try omega)
   all_goals first|omega|exact Sup.of rfl|exact d9 false|skip
 ·have:i=ls.length:=by omega
  subst this;have ht:gQ ls=true:=ahD.2 fun l hl=>by
   obtain⟨j,hj,rfl⟩:=agk hl;have:=hall j hj;rw[agf,agl hj]at this;exact decide_eq_true this
  rw[ht]
  repeat'((conv=>whnf);first|(intro hq;(try simp only[vw]at hq);try first|exact absurd hq (by decide)|exfalso;omega)|apply aI|with_reducible exact vM rfl|exact⟨⟩|apply nM|apply fM)
  all_goals((try apply vM);(try simp only[vq]at*);try omega)
  all_goals first|omega|exact Sup.of rfl|exact d9 true|skip
def OH:PSp:=fun xs K=>match xs with
 | [.agg [.int .i64 c,.isl (.rows .i64 ls) .none]]=>VC (ls.length≤1000000)∧K (.bp (gQ ls))
 |_=>False
theorem aat:POK Tryz.prog 145 OH:=by
 intro xs K h;unfold OH at h;split at h
 ·exact⟨_,h.2,RH _ _ h.1.get⟩
 ·exact h.elim
def kV (x:Int) (o:List Int):List Int:=o.takeWhile (fun y=>decide (y<x))++x::o.dropWhile (fun y=>decide (y<x))
theorem aau {x:Int}:∀{o:List Int} {k:Nat},k≤o.length→(∀j,j<k→o.getD j 0<x)→(k<o.length→¬o.getD k 0<x)→kV x o=o.take k++x::o.drop k:=by
 intro o;induction o with
 |nil=>intro k hk _ _;simp at hk;subst hk;rfl
 |cons a r ih=>
  intro k hk h1 h2;cases k with
  |zero=>
   have:¬a<x:=h2 (by simp)
   unfold kV;simp[ajo,ajp,this]
  |succ k=>
   have ha:a<x:=h1 0 (by omega)
   have:=ih (k:=k) (by simpa using hk) (fun j hj=>h1 (j+1) (by omega)) (fun hj=>h2 (by simpa using hj))
   unfold kV at this⊢;simp only[ajo,ajp,decide_eq_true ha,List.cons_append,List.take_succ_cons,List.drop_succ_cons];rw[this]
theorem Ve (x:Int) (o:List Int):(kV x o).length=o.length+1:=by
 unfold kV;have:=congrArg List.length (ajq (p:=fun y=>decide (y<x)) (l:=o));rw[ahl]at this;rw[ahl,afY];omega
def lX (p line:List Int) (k:Nat):List Int:=(line.take k).foldl (fun o a=>kV (p.getD a.toNat 0) o) []
theorem vP (p line:List Int) (k:Nat) (h:k<line.length):lX p line (k+1)=kV (p.getD (line.getD k 0).toNat 0) (lX p line k):=by
 unfold lX;have e:line.take (k+1)=line.take k++[line.getD k 0]:=by rw[ah4,agf,agl h];rfl
 rw[e,ait];rfl
theorem Vf (p line:List Int):∀k,k≤line.length→(lX p line k).length=k:=by
 intro k;induction k with
 |zero=>intro _;rfl
 |succ k ih=>intro h;rw[vP _ _ _ (by omega),Ve,ih (by omega)]
theorem OI (p line:List Int) (hl:line.length≤5000) (h:∀x∈line,0≤x∧x<p.length):aF Tryz.prog 187 [.isl (.ints .i64 p) .none,.isl (.ints .i64 line) .none] (.isl (.ints .i64 (lX p line line.length)) .none):=by
 refine av (md:=1) (rf:=[]) mixed ak aC Tryz.func187 (by rfl) (by rfl) (by rfl) ?_
 repeat'((conv=>whnf);first|(intro hq;(try simp only[vw]at hq);try first|exact absurd hq (by decide)|exfalso;omega)|apply aI|with_reducible exact vM rfl|exact⟨⟩|apply nM|apply fM)
 all_goals((try apply vM);(try simp only[vq]at*);try omega)
 conv=>whnf
 refine aM (X:=Nat) (fun i=>i≤line.length) (fun i=>[(6,.int .i64 i),(5,.isl (.ints .i64 (lX p line i)) (.own 22))]) (fun i=>[(22,.tok 1 i)]) (fun i=>line.length-i) 0 ⟨aK,mixed,ak,aC,aP⟩ (by rfl) (by omega) ?_ ?_
 ·repeat'((conv=>whnf);first|intro _|apply aI|with_reducible exact vM rfl|exact⟨⟩|apply nM|apply fM)
  all_goals((try apply vM);(try simp only[vq]at*);try omega)
  all_goals skip
 intro i hi;have hil:=Vf p line i hi;by_cases hlt:i<line.length
 ·have hx:=h (line.getD i 0) (gu hlt)
  have hs:=vP p line i hlt;obtain⟨x,hxe⟩:∃x,p.getD (line.getD i 0).toNat 0=x:=⟨_,rfl⟩;obtain⟨o,hoe⟩:∃o,lX p line i=o:=⟨_,rfl⟩;rw[hxe,hoe]at hs;rw[hoe]at hil;rw[hoe]
  repeat'((conv=>whnf);first|(intro hq;(try simp only[vw]at hq);try first|exact absurd hq (by decide)|exfalso;omega)|apply aI|with_reducible exact vM rfl|exact⟨⟩|apply nM|apply fM)
  all_goals((try apply vM);(try simp only[vq]at*);try omega)
  all_goals(try omega)
  all_goals(try rw[hxe])
  conv=>whnf
  refine aM (X:=Nat) (fun k=>k≤o.length∧∀j,j<k→o.getD j 0<x) (fun k=>[(8,.int .i64 k)]) (fun k=>[]) (fun k=>o.length-k) 0 ⟨aK,mixed,ak,aC,aP⟩ (by rfl) ⟨by omega,fun j hj=>by omega⟩ ?_ ?_
  ·repeat'((conv=>whnf);first|intro _|apply aI|with_reducible exact vM rfl|exact⟨⟩|apply nM|apply fM)
   all_goals((try apply vM);(try simp only[vq]at*);try omega)
   all_goals skip
  intro k ⟨hk,hb⟩;by_cases h2:k<o.length∧o.getD k 0<x
  ·repeat'((conv=>whnf);first|(intro hq;(try simp only[vw]at hq);try first|exact absurd hq (by decide)|exfalso;omega)|apply aI|with_reducible exact vM rfl|exact⟨⟩|apply nM|apply fM)
   all_goals((try apply vM);(try simp only[vq]at*);try omega)
   all_goals(try first|exact absurd h2.1 ‹_› |exact absurd h2.2 ‹_› |omega)
   refine⟨k+1,[],⟨⟨by omega,fun j hj=>?_⟩,by omega⟩,?_⟩
   ·by_cases e:j=k
    ·rw[e];exact h2.2
    ·exact hb j (by omega)
   repeat'((conv=>whnf);first|intro _|apply aI|with_reducible exact vM rfl|exact⟨⟩|apply nM|apply fM)
   all_goals((try apply vM);(try simp only[vq]at*);try omega)
  ·have hins:kV x o=o.take k++x::o.drop k:=aau hk hb fun h3 h4=>h2 ⟨h3,h4⟩
   have hfin:([]++aiK (k-0) (aiL 0 o)++[p.getD (line.getD i 0).toNat 0])++aiK (o.length-k) (aiL k o)=lX p line (i+1):=by
    rw[hs,hins,hxe,ajr,aiN,aiM,ai2 (l:=o.drop k) (by rw[aiW];omega),List.append_assoc];rfl
   repeat'((conv=>whnf);first|(intro hq;(try simp only[vw]at hq);try first|exact absurd hq (by decide)|exfalso;omega)|apply aI|with_reducible exact vM rfl|exact⟨⟩|apply nM|apply fM)
   all_goals((try apply vM);(try simp only[vq]at*);try omega)
   all_goals(try first|exact .inl trivial|omega|(simp only[ahl,afY,afU];done)|(simp only[ajr,aiN,aiM,ahl,agU,aiW,afY,afU];omega))
   ·refine⟨i+1,[(1,22)],⟨by omega,by omega⟩,?_⟩
    repeat'((conv=>whnf);first|intro _|apply aI|with_reducible exact vM rfl|exact⟨⟩|apply nM|apply fM)
    all_goals((try apply vM);(try simp only[vq]at*);try omega)
    all_goals first|exact congrArg (CL.ints .i64) hfin|(simp only[ajr,aiN,aiM,ahl,agU,aiW,afY,afU];omega)
   ·refine⟨i+1,[(1,22)],⟨by omega,by omega⟩,?_⟩
    repeat'((conv=>whnf);first|intro _|apply aI|with_reducible exact vM rfl|exact⟨⟩|apply nM|apply fM)
    all_goals((try apply vM);(try simp only[vq]at*);try omega)
    all_goals first|exact congrArg (CL.ints .i64) hfin|(simp only[ajr,aiN,aiM,ahl,agU,aiW,afY,afU];omega)
 ·have:i=line.length:=by omega
  subst this
  repeat'((conv=>whnf);first|(intro hq;(try simp only[vw]at hq);try first|exact absurd hq (by decide)|exfalso;omega)|apply aI|with_reducible exact vM rfl|exact⟨⟩|apply nM|apply fM)
  all_goals((try apply vM);(try simp only[vq]at*);try omega)
  all_goals first|omega|exact Sup.of rfl|skip
end Go.Eng.YtcechbdgokjmgaaGreatDoor
namespace Go.Eng.YtcechbdgokjmgaaGreatDoor
set_option linter.unusedSimpArgs false
set_option linter.unusedVariables false
def sF (g:Int→Int):List Int→Int
 | []=>0
 |x::r=>g x+sF g r
theorem Ci (g:Int→Int):∀(l:List Int) (a:Int),l.foldl (fun a x=>a+g x) a=a+sF g l:=by
 intro l;induction l with
 |nil=>intro a;simp[sF]
 |cons x r ih=>intro a;rw[ajs,ih];simp only[sF];omega
theorem Et {g h:Int→Int}:∀{l:List Int},(∀x∈l,g x≤h x)→sF g l≤sF h l:=by
 intro l;induction l with
 |nil=>intro _;exact ajt _
 |cons x r ih=>
  intro hh;have h1:=hh x (by simp)
  have h2:=ih fun y hy=>hh y (by simp[hy])
  simp only[sF];omega
theorem sZ {g h:Int→Int} {l:List Int} (hh:∀x∈l,g x=h x):sF g l=sF h l:=by
 have h1:=Et (g:=g) (h:=h) fun x hx=>by rw[hh x hx];exact ajt _
 have h2:=Et (g:=h) (h:=g) fun x hx=>by rw[hh x hx];exact ajt _
 omega
theorem RI (g h:Int→Int):∀(l:List Int),sF (fun x=>g x+h x) l=sF g l+sF h l:=by
 intro l;induction l with
 |nil=>rfl
 |cons x r ih=>simp only[sF,ih];omega
theorem RJ (g:Int→Int) (p:Int→Bool):∀(l:List Int),sF g (l.filter p)=sF (fun x=>if p x then g x else 0) l:=by
 intro l;induction l with
 |nil=>rfl
 |cons x r ih=>
  rw[List.filter_cons];cases hp:p x with
  |true=>rw[if_pos rfl];simp only[sF,ih,hp];rfl
  |false=>rw[if_neg (by simp)];simp only[sF,ih,hp];simp
theorem aav:∀(l:List Int),sF (fun _=>0) l=0:=by
 intro l;induction l with
 |nil=>rfl
 |cons x r ih=>simp only[sF,ih];rfl
theorem adz {y a:Int}:∀{l:List Int},l.Pairwise (·< ·)→y∈l→sF (fun x=>if x=y then a else 0) l=a:=by
 intro l;induction l with
 |nil=>intro _ h;simp at h
 |cons x r ih=>
  intro hp hy;have hp':=ahv.1 hp;simp only[sF];by_cases e:x=y
  ·subst e
   have:sF (fun z=>if z=x then a else 0) r=sF (fun _=>0) r:=sZ fun z hz=>by
    have:=hp'.1 z hz;rw[if_neg (by omega)]
   rw[if_pos rfl,this,aav];omega
  ·rw[if_neg e,ih hp'.2 (by rcases ahu.1 hy with h|h;exact absurd h.symm e;exact h)];omega
theorem Vg (s:St):∀(l:List Int) (a:Int),l.foldl (fun a x=>if s.dc x.toNat then a-hd0 (s.cd x.toNat)else a) a=a-sF (fun x=>if s.dc x.toNat then hd0 (s.cd x.toNat)else 0) l:=by
 intro l;induction l with
 |nil=>intro a;simp[sF]
 |cons x r ih=>
  intro a;rw[ajs,ih];simp only[sF];split<;>omega
theorem adA (s:St) (sum:Int) (l:List Int):rst s sum l=sum-sF (fun x=>if s.dc x.toNat then hd0 (s.cd x.toNat)else 0) l:=Vg s l sum
theorem aaw (s:St) (o:List Int):qC s o=sF (fun y=>hd0 (s.cd y.toNat)) o:=by
 unfold qC;rw[Ci (fun y=>hd0 (s.cd y.toNat))];omega
theorem aax (s:St) (o:List Int):qD s o=sF (fun y=>ls0 (s.cd y.toNat)) o:=by
 unfold qD;rw[Ci (fun y=>ls0 (s.cd y.toNat))];omega
theorem aay (N l:List Int):jN N l=sF (fun x=>N.getD x.toNat 0) l:=by
 unfold jN;rw[Ci (fun x=>N.getD x.toNat 0)];omega
theorem adB (s:St) (l:List Int) (but:Int) (g:Int→Int):sF g (opn s l but)=sF (fun x=>if !(s.dc x.toNat)&&decide (x≠but)then g x else 0) l:=by
 unfold opn;exact RJ g _ l
theorem iV {s:St} {l:List Int} {but z:Int}:z∈opn s l but↔z∈l∧s.dc z.toNat=false∧z≠but:=by
 unfold opn;rw[aij];simp
theorem adC {s:St} {l:List Int} {but:Int} (h:l.Pairwise (·< ·)):(opn s l but).Pairwise (·< ·):=h.filter _
def ChF (s:St) (o used:List Int) (sum:Int) (h:Int→Int):Prop:=
 (∀y∈o,h y∈s.cd y.toNat∧h y∉used)∧(∀y∈o,∀z∈o,y≠z→h y≠h z)∧sF h o=sum
theorem aaz (s:St):∀(o used:List Int) (sum:Int),o.Pairwise (·< ·)→(chs s o used sum=true↔∃h,ChF s o used sum h):=by
 intro o;induction o with
 |nil=>
  intro used sum _;simp only[chs,decide_eq_true_eq,ChF];constructor
  ·rintro rfl
   exact⟨fun _=>0,fun y hy=>by simp at hy,fun y hy=>by simp at hy,rfl⟩
  ·rintro⟨h,_,_,h3⟩
   exact h3.symm
 |cons y r ih=>
  intro used sum hp;have hp':=ahv.1 hp;simp only[chs,aiF,aij,ajb,decide_eq_false_iff_not];constructor
  ·rintro⟨x,⟨hx,hu⟩,hc⟩
   obtain⟨h,h1,h2,h3⟩:=(ih _ _ hp'.2).1 hc;have hne:∀z∈r,z≠y:=fun z hz=>by have:=hp'.1 z hz;omega
   refine⟨fun z=>if z=y then x else h z,fun z hz=>?_,fun z hz w hw hzw=>?_,?_⟩
   ·rcases ahu.1 hz with rfl|hz
    ·simp only[if_true];exact⟨hx,hu⟩
    ·simp only[if_neg (hne z hz)]
     exact⟨(h1 z hz).1,fun hm=>(h1 z hz).2 (by simp[hm])⟩
   ·rcases ahu.1 hz with rfl|hz2<;>rcases ahu.1 hw with rfl|hw2
    ·exact absurd rfl hzw
    ·simp only[if_true,if_neg (hne w hw2)]
     exact fun e=>(h1 w hw2).2 (by simp[←e])
    ·simp only[if_true,if_neg (hne z hz2)]
     exact fun e=>(h1 z hz2).2 (by simp[e])
    ·simp only[if_neg (hne z hz2),if_neg (hne w hw2)]
     exact h2 z hz2 w hw2 hzw
   ·simp only[sF,if_true]
    have:sF (fun z=>if z=y then x else h z) r=sF h r:=sZ fun z hz=>by simp only[if_neg (hne z hz)]
    rw[this,h3];omega
  ·rintro⟨h,h1,h2,h3⟩
   refine⟨h y,h1 y (by simp),(ih _ _ hp'.2).2 ⟨h,fun z hz=>⟨(h1 z (by simp[hz])).1,fun hm=>?_⟩,fun z hz w hw=>h2 z (by simp[hz]) w (by simp[hw]),?_⟩⟩
   ·rcases agh.1 hm with hm|hm
    ·exact(h1 z (by simp[hz])).2 hm
    ·have:=hp'.1 z hz
     exact h2 z (by simp[hz]) y (by simp) (by omega) (aiO.1 hm)
   ·simp only[sF]at h3;omega
structure qG (c:Int) (ls:List (List Int)) (sum:Int) (f:List Int):Prop where
 len:(f.length:Int)=c
 nrm:mO f=true
 sum:∀i,i<ls.length→jN f (ls.getD i [])=sum
structure Alw (s:St) (f:List Int):Prop where
 len:s.cs.length=f.length
 mem:∀i,i<f.length→f.getD i 0∈s.cd i
theorem qG.rng {c:Int} {ls:List (List Int)} {sum:Int} {f:List Int} (h:qG c ls sum f) {i:Nat} (hi:i<f.length):1≤f.getD i 0∧f.getD i 0≤c:=by
 have h1:=wP h.nrm (f.getD i 0) (gu hi);have:=h.len;omega
theorem qG.inj {c:Int} {ls:List (List Int)} {sum:Int} {f:List Int} (h:qG c ls sum f) {i j:Nat} (hi:i<f.length) (hj:j<f.length) (e:f.getD i 0=f.getD j 0):i=j:=by
 have hn:=Rk h.nrm;rw[ji hi,ji hj]at e;exact(aju hn).1 e
theorem qG.sur {c:Int} {ls:List (List Int)} {sum:Int} {f:List Int} (h:qG c ls sum f) {x:Int} (hx:1≤x∧x≤c):∃i,i<f.length∧f.getD i 0=x:=by
 have hl:=h.len;have h1:x∈bV f:=by
  rw[G8 h.nrm];exact aiT.2 ⟨(x-1).toNat,ahT.2 (by omega),by omega⟩
 have h2:x∈f:=(ajg f _).mem_iff.1 h1;obtain⟨i,hi,rfl⟩:=(dM _ x).1 h2;exact⟨i,hi,rfl⟩
theorem Alw.dec {c:Int} {ls:List (List Int)} {sum:Int} {s:St} {f:List Int} (hB:bL c ls sum s) (hA:Alw s f) {i:Nat} (hi:i<f.length) (hd:s.dc i=true):s.cd i=[f.getD i 0]:=by
 have h1:=hB.dec i (by rw[hA.len];exact hi) hd
 obtain⟨z,hz⟩:=ajv.1 h1;have:=hA.mem i hi;rw[hz,aiO]at this;rw[hz,this]
theorem Vh {c:Int} {ls:List (List Int)} {sum:Int} {s:St} {f:List Int} (hB:bL c ls sum s) (hA:Alw s f) (hf:qG c ls sum f) {k:Nat} (hk:k<ls.length):
 rst s sum (ls.getD k [])=sF (fun x=>if !(s.dc x.toNat)then f.getD x.toNat 0 else 0) (ls.getD k []):=by
 have h1:=hf.sum k hk;rw[aay]at h1;rw[adA];have h2:sF (fun x=>f.getD x.toNat 0) (ls.getD k [])=sF (fun x=>(if s.dc x.toNat then hd0 (s.cd x.toNat)else 0)+(if !(s.dc x.toNat)then f.getD x.toNat 0 else 0)) (ls.getD k []):=sZ fun x hx=>by
  have hr:=(hB.ln k hk).rng x hx;have hl:=hf.len;cases hd:s.dc x.toNat with
  |true=>
   rw[hA.dec hB (by omega) hd]
   simp[hd0]
  |false=>simp
 rw[RI]at h2;omega
theorem yI {c:Int} {ls:List (List Int)} {sum:Int} {s:St} {f:List Int} (hB:bL c ls sum s) (hA:Alw s f) (hf:qG c ls sum f) {k:Nat} (hk:k<ls.length) {y:Int} (hy:y∈ls.getD k []) (hd:s.dc y.toNat=false):
 rst s sum (ls.getD k [])=f.getD y.toNat 0+sF (fun x=>f.getD x.toNat 0) (opn s (ls.getD k []) y):=by
 rw[Vh hB hA hf hk,adB];have h1:sF (fun x=>if !(s.dc x.toNat)then f.getD x.toNat 0 else 0) (ls.getD k [])=sF (fun x=>(if x=y then f.getD y.toNat 0 else 0)+(if !(s.dc x.toNat)&&decide (x≠y)then f.getD x.toNat 0 else 0)) (ls.getD k []):=sZ fun x hx=>by
  by_cases e:x=y
  ·subst e;simp[hd]
  ·simp[e]
 rw[h1,RI,adz (hB.ln k hk).pw hy]
structure OJ (c:Int) (ls:List (List Int)) (g:Nat) (y x k:Int):Prop where
 gg:1≤g∧g≤5
 yy:0≤y∧y<c
 xx:1≤x∧x≤c
 kk:lnG g=true→(0≤k∧k<ls.length)∧y∈ls.getD k.toNat []
theorem Ab {g:Nat} {s:St} {sum:Int} {l:List Int} {y x:Int}:okJ g s sum l y x=true↔s.dc y.toNat=false∧x∈s.cd y.toNat∧jst g s sum l y x=true:=by
 unfold okJ;simp
theorem sound {c:Int} {ls:List (List Int)} {sum:Int} {s:St} {f:List Int} (hB:bL c ls sum s) (hA:Alw s f) (hf:qG c ls sum f) {g:Nat} {y x k:Int} (hL:OJ c ls g y x k) (h:okJ g s sum (ls.getD k.toNat []) y x=true):
 g≤3↔f.getD y.toNat 0=x:=by
 obtain⟨hd,hx,hj⟩:=Ab.1 h;have hc:=hB.c1;have hfl:=hf.len;have hsl:=hB.cl;have hyf:y.toNat<f.length:=by have:=hL.yy;omega
 have hfy:=hA.mem _ hyf;have hg:=hL.gg;obtain rfl|rfl|rfl|rfl|rfl:g=1∨g=2∨g=3∨g=4∨g=5:=by omega
 ·refine⟨fun _=>?_,fun _=>by omega⟩
  obtain⟨hk,hm⟩:=hL.kk rfl;have:=yI hB hA hf (k:=k.toNat) (by omega) hm hd
  simp only[jst,AQ,ags,decide_eq_true_eq]at hj;rw[ajw hj.1]at this;simp only[sF]at this;omega
 ·refine⟨fun _=>?_,fun _=>by omega⟩
  simp only[jst,AU,decide_eq_true_eq]at hj;obtain⟨z,hz⟩:=ajv.1 hj;rw[hz,aiO]at hx hfy;rw[hx,hfy]
 ·refine⟨fun _=>?_,fun _=>by omega⟩
  simp only[jst,sJ,ahD,ahT,ahA,decide_eq_true_eq,ajb,decide_eq_false_iff_not]at hj;obtain⟨i,hi,e⟩:=hf.sur hL.xx;have h1:=hA.mem i hi;rw[e]at h1;rcases hj i (by rw[hA.len];exact hi)with h2|h2
  ·rw[←h2];simpa using e
  ·exact absurd h1 h2
 ·refine⟨fun h=>by omega,fun e=>?_⟩
  exfalso
  obtain⟨hk,hm⟩:=hL.kk rfl;have h1:=yI hB hA hf (k:=k.toNat) (by omega) hm hd
  have hr:=fun z (hz:z∈opn s (ls.getD k.toNat []) y)=>(hB.ln k.toNat (by omega)).rng z (iV.1 hz).1
  have hz:=fun z (hz:z∈opn s (ls.getD k.toNat []) y)=>hA.mem z.toNat (by have:=hr z hz;omega)
  have hasc:=fun z (hz:z∈opn s (ls.getD k.toNat []) y)=>(hB.asc z.toNat (by have:=hr z hz;omega)).1.pw
  have h2:qC s (opn s (ls.getD k.toNat []) y)≤sF (fun x=>f.getD x.toNat 0) (opn s (ls.getD k.toNat []) y):=by
   rw[aaw];exact Et fun z hzz=>Qe (hasc z hzz) _ (hz z hzz)
  have h3:sF (fun x=>f.getD x.toNat 0) (opn s (ls.getD k.toNat []) y)≤qD s (opn s (ls.getD k.toNat []) y):=by
   rw[aax];exact Et fun z hzz=>FZ (hasc z hzz) _ (hz z hzz)
  simp only[jst,AV,ahA,aiF,decide_eq_true_eq]at hj;rcases hj with⟨z,hzz,e0⟩|hj
  ·have:=hz z hzz
   rw[e0]at this;simp at this
  ·omega
 ·refine⟨fun h=>by omega,fun e=>?_⟩
  exfalso
  obtain⟨hk,hm⟩:=hL.kk rfl;have h1:=yI hB hA hf (k:=k.toNat) (by omega) hm hd
  have hr:=fun z (hz:z∈opn s (ls.getD k.toNat []) y)=>(hB.ln k.toNat (by omega)).rng z (iV.1 hz).1
  simp only[jst,AX,ags,decide_eq_true_eq,ajb]at hj;have:chs s (opn s (ls.getD k.toNat []) y) [x] (rst s sum (ls.getD k.toNat [])-x)=true:=by
   refine(aaz s _ _ _ (adC (hB.ln k.toNat (by omega)).pw)).2 ⟨fun z=>f.getD z.toNat 0,fun z hz=>⟨hA.mem _ (by have:=hr z hz;omega),fun hm=>?_⟩,fun z hz w hw hne e1=>?_,by omega⟩
   ·have h2:=hr z hz
    have:=hf.inj (i:=z.toNat) (j:=y.toNat) (by omega) hyf (by rw[e];exact aiO.1 hm)
    exact(iV.1 hz).2.2 (by have:=hL.yy;omega)
   ·have h2:=hr z hz
    have h3:=hr w hw;have:=hf.inj (i:=z.toNat) (j:=w.toNat) (by omega) (by omega) e1
    omega
  rw[this]at hj;exact absurd hj.2 (by simp)
def okP (ls:List (List Int)) (sum:Int) (f:List Int):Bool:=ls.all fun l=>!decide (l.getD (l.length-1) 0<f.length)||decide (jN f l=sum)
structure afQ (c:Int) (ls:List (List Int)) (sum:Int) (gv F:List Int):Prop where
 s:qG c ls sum F
 g:∀i,i<gv.length→0<gv.getD i 0→gv.getD i 0=F.getD i 0
theorem H8 {F:List Int} {i:Nat} {x:Int} (hi:i≤F.length):x∈F.take i↔∃j,j<i∧F.getD j 0=x:=by
 constructor
 ·intro h
  obtain⟨j,hj,e⟩:=(dM _ _).1 h;rw[agU]at hj;refine⟨j,by omega,?_⟩
  rw[←e,agf,agf,List.getElem?_take_of_lt (by omega)]
 ·rintro⟨j,hj,e⟩
  rw[←e];exact qE hj hi
structure SrJ (c:Int) (ls:List (List Int)) (sum:Int) (gv:List Int) (f:Nat) (N U:List Int):Prop where
 fl:f≤gv.length
 nl:N.length=gv.length
 tl:∀j,gv.length-f≤j→j<gv.length→N.getD j 0=gv.getD j 0
 us:∀x:Int,1≤x→(x∈U↔x∈gv∨x∈N.take (gv.length-f))
 gd:∀i,i<gv.length-f→(0<gv.getD i 0→N.getD i 0=gv.getD i 0)∧(gv.getD i 0=0→N.getD i 0∉gv)
 pv:1≤gv.length-f→okP ls sum (N.take (gv.length-f-1))=true
structure LeS (t s:St):Prop where
 len:t.cs.length=s.cs.length
 cd:∀i,i<s.cs.length→∀x∈t.cd i,x∈s.cd i
 dc:∀i,i<s.cs.length→s.dc i=true→t.dc i=true
def NeS (t:St):Prop:=∀i,i<t.cs.length→1≤(t.cd i).length
structure TS (c:Int) (ls:List (List Int)) (sum:Int) (t s:St):Prop where
 bt:bL c ls sum t
 it:StI t
 ne:NeS t
 bs:bL c ls sum s
 le:LeS t s
theorem TS.at {c:Int} {ls:List (List Int)} {sum:Int} {t s:St} (h:TS c ls sum t s) {z:Int} (hz:0≤z∧z<c):z.toNat<t.cs.length∧z.toNat<s.cs.length:=by
 have:=h.bt.cl;have:=h.bs.cl;omega
theorem TS.hd {c:Int} {ls:List (List Int)} {sum:Int} {t s:St} (h:TS c ls sum t s) {z:Int} (hz:0≤z∧z<c):hd0 (t.cd z.toNat)∈t.cd z.toNat∧ls0 (t.cd z.toNat)∈t.cd z.toNat∧hd0 (s.cd z.toNat)≤hd0 (t.cd z.toNat)∧ls0 (t.cd z.toNat)≤ls0 (s.cd z.toNat):=by
 obtain⟨h1,h2⟩:=h.at hz;have h3:=h.ne _ h1;have h4:=qO h3;have h5:=wG h3;exact⟨h4,h5,Qe (h.bs.asc _ h2).1.pw _ (h.le.cd _ h2 _ h4),FZ (h.bs.asc _ h2).1.pw _ (h.le.cd _ h2 _ h5)⟩
theorem TS.dec {c:Int} {ls:List (List Int)} {sum:Int} {t s:St} (h:TS c ls sum t s) {z:Int} (hz:0≤z∧z<c) (hd:s.dc z.toNat=true):t.dc z.toNat=true∧t.cd z.toNat=s.cd z.toNat:=by
 obtain⟨h1,h2⟩:=h.at hz;have h3:=h.le.dc _ h2 hd;refine⟨h3,?_⟩;have h4:=(h.bs.num hz hd).2.2;have h5:=(h.bt.num hz h3).2.2;have h6:=h.le.cd _ h2 _ (h.hd hz).1;rw[h4,aiO]at h6;rw[h5,h4,h6]
theorem TS.opn {c:Int} {ls:List (List Int)} {sum:Int} {t s:St} (h:TS c ls sum t s) {l:List Int} (hl:∀z∈l,0≤z∧z<c) {y z:Int} (hz:z∈opn t l y):z∈opn s l y:=by
 obtain⟨h1,h2,h3⟩:=iV.1 hz;refine iV.2 ⟨h1,?_,h3⟩;cases hd:s.dc z.toNat with
 |false=>rfl
 |true=>rw[(h.dec (hl z h1) hd).1]at h2;cases h2
def mrg (t:St) (h:Int→Int) (z:Int):Int:=if t.dc z.toNat then hd0 (t.cd z.toNat)else h z
theorem TS.ch {c:Int} {ls:List (List Int)} {sum:Int} {t s:St} (h:TS c ls sum t s) {l:List Int} (hl:∀z∈l,0≤z∧z<c) {y x r:Int} (hy:0≤y∧y<c) (hx:x∈t.cd y.toNat)
 {H:Int→Int} (hH:∀z∈l,z≠y→t.dc z.toNat=false→H z∈t.cd z.toNat∧H z≠x) (hd:∀z∈l,∀w∈l,z≠y→w≠y→t.dc z.toNat=false→t.dc w.toNat=false→z≠w→H z≠H w) (hr:sF (mrg t H) (Eng.YtcechbdgokjmgaaGreatDoor.opn s l y)=r):
 ChF s (Eng.YtcechbdgokjmgaaGreatDoor.opn s l y) [x] r (mrg t H):=by
 have inm:∀z∈Eng.YtcechbdgokjmgaaGreatDoor.opn s l y,mrg t H z∈t.cd z.toNat:=fun z hz=>by
  obtain⟨h1,h2,h3⟩:=iV.1 hz;unfold mrg;split
  ·exact(h.hd (hl z h1)).1
  ·rename_i hd
   exact(hH z h1 h3 (by simpa using hd)).1
 have key:∀(z w:Int),0≤z∧z<c→0≤w∧w<c→z≠w→t.dc z.toNat=true→∀v∈t.cd w.toNat,hd0 (t.cd z.toNat)≠v:=fun z w hz hw hne hd v hv e=>by
  have:=h.it z.toNat w.toNat (h.at hz).1 (h.at hw).1 (by omega) hd
  rw[e]at this;exact this hv
 refine⟨fun z hz=>?_,fun z hz w hw hne=>?_,hr⟩
 ·obtain⟨h1,h2,h3⟩:=iV.1 hz
  refine⟨h.le.cd _ (h.at (hl z h1)).2 _ (inm z hz),fun hm=>?_⟩;rw[aiO]at hm;unfold mrg at hm;split at hm
  ·rename_i hd1
   exact key z y (hl z h1) hy h3 hd1 x hx hm
  ·rename_i hd1
   exact(hH z h1 h3 (by simpa using hd1)).2 hm
 ·obtain⟨h1,h2,h3⟩:=iV.1 hz
  obtain⟨w1,w2,w3⟩:=iV.1 hw;cases ez:t.dc z.toNat with
  |true=>
   have:mrg t H z=hd0 (t.cd z.toNat):=by unfold mrg;rw[if_pos ez]
   rw[this];exact key z w (hl z h1) (hl w w1) hne ez _ (inm w hw)
  |false=>
   cases ew:t.dc w.toNat with
   |true=>
    have:mrg t H w=hd0 (t.cd w.toNat):=by unfold mrg;rw[if_pos ew]
    rw[this];exact fun e=>key w z (hl w w1) (hl z h1) (Ne.symm hne) ew _ (inm z hz) e.symm
   |false=>
    have e1:mrg t H z=H z:=by unfold mrg;rw[ez];rfl
    have e2:mrg t H w=H w:=by unfold mrg;rw[ew];rfl
    rw[e1,e2];exact hd z h1 w w1 h3 w3 ez ew hne
structure Unb (c:Int) (ls:List (List Int)) (sum:Int) (t:St):Prop where
 num:∀x:Int,1≤x→x≤c→∃i,i<t.cs.length∧x∈t.cd i
 ne:NeS t
 line:∀k,k<ls.length→opn t (ls.getD k []) (-1)=[]→rst t sum (ls.getD k [])=0
inductive Run (c:Int) (ls:List (List Int)) (sum:Int) (n:Nat):St→St→Prop
 |refl (s:St):Run c ls sum n s s
 |step {s t:St} {g:Nat} {y x k:Int}:OJ c ls g y x k→g≤n→okJ g s sum (ls.getD k.toNat []) y x=true→Run c ls sum n (apl g s y x) t→Run c ls sum n s t
theorem Run.ok {c:Int} {ls:List (List Int)} {sum:Int} {n:Nat} {s t:St} (h:Run c ls sum n s t):bL c ls sum s→StI s→bL c ls sum t∧StI t:=by
 induction h with
 |refl s=>exact fun a b=>⟨a,b⟩
 |step hL _ hj _ ih=>
  intro hB hI;obtain⟨h4,h5,h6⟩:=Ab.1 hj;obtain⟨h7,h8⟩:=zW hB hI hL.yy hL.xx h4 h5;exact ih h7 h8
theorem LeS.refl (s:St):LeS s s:=⟨rfl,fun _ _ _ h=>h,fun _ _ h=>h⟩
theorem LeS.trans {r t s:St} (h:LeS r t) (h':LeS t s):LeS r s:=⟨h.len.trans h'.len,fun i hi x hx=>h'.cd i hi x (h.cd i (by rw[h'.len];exact hi) x hx),fun i hi hd=>h.dc i (by rw[h'.len];exact hi) (h'.dc i hi hd)⟩
theorem adD {c:Int} {ls:List (List Int)} {sum:Int} {s:St} (hB:bL c ls sum s) {g:Nat} {y x k:Int} (hL:OJ c ls g y x k) (hj:okJ g s sum (ls.getD k.toNat []) y x=true):LeS (apl g s y x) s:=by
 obtain⟨h4,h5,h6⟩:=Ab.1 hj;have hy:=hL.yy;have hcl:=hB.cl;have hdl:=hB.dl;refine⟨BA.1,fun i hi v hv=>?_,fun i hi hd=>?_⟩
 ·rw[QT (by omega) i hi]at hv
  split at hv
  ·split at hv
   ·rename_i e;subst e;rw[aiO.1 hv];exact h5
   ·exact(kT.1 hv).1
  ·split at hv
   ·rename_i e;subst e;exact(kT.1 hv).1
   ·exact hv
 ·rw[QS (by omega)]
  split
  ·rfl
  ·exact hd
theorem Run.le {c:Int} {ls:List (List Int)} {sum:Int} {n:Nat} {s t:St} (h:Run c ls sum n s t):bL c ls sum s→StI s→LeS t s:=by
 induction h with
 |refl s=>exact fun _ _=>.refl s
 |step hL _ hj _ ih=>
  intro hB hI;obtain⟨h4,h5,h6⟩:=Ab.1 hj;obtain⟨h7,h8⟩:=zW hB hI hL.yy hL.xx h4 h5;exact(ih h7 h8).trans (adD hB hL hj)
theorem Run.one {c:Int} {ls:List (List Int)} {sum:Int} {n:Nat} {s t:St} {g:Nat} {y x k:Int} (h:Run c ls sum n s t) (hL:OJ c ls g y x k) (hg:g≤n) (hj:okJ g t sum (ls.getD k.toNat []) y x=true):Run c ls sum n s (apl g t y x):=by
 induction h with
 |refl s=>exact .step hL hg hj (.refl _)
 |step a b d _ ih=>exact .step a b d (ih hj)
structure Ends (c:Int) (ls:List (List Int)) (sum:Int) (n:Nat) (s:St) (r:List Dd × St × Int):Prop where
 cases:(∃t,Run c ls sum n s t∧brk c ls sum t=true∧r.2.2=21)∨(Run c ls sum n s r.2.1∧brk c ls sum r.2.1=false∧((don r.2.1=true∧r.2.2=0)∨(don r.2.1=false∧jL r.2.1 sum ls n=none∧r.2.2=23)))
end Go.Eng.YtcechbdgokjmgaaGreatDoor
namespace Go.Eng.YtcechbdgokjmgaaGreatDoor
open Go.Proofs
set_option linter.unusedSimpArgs false
set_option linter.unusedVariables false
set_option maxHeartbeats 0
set_option maxRecDepth 100000
theorem dF.set0 {c:Int} {ls:List (List Int)} {sum:Int} {gv:List Int} (h:dF c ls sum gv) (k:Nat):dF c ls sum (gv.set k 0):=by
 have hc:=h.c1;have ha:∀i,(gv.set k 0).getD i 0=if i=k then 0 else gv.getD i 0:=fun i=>by
  rw[agf,agF];by_cases e:k=i
  ·subst e;rw[if_pos rfl,if_pos rfl];split<;>rfl
  ·rw[if_neg e,if_neg (fun e'=>e e'.symm),←agf]
 refine⟨h.c1,h.ll,h.ln,h.sm,by rw[agH];exact h.gl,fun x hx=>?_,fun i j hij hj hpos e=>?_⟩
 ·obtain⟨i,hi,rfl⟩:=(dM _ x).1 hx
  rw[agH]at hi;rw[ha];split
  ·omega
  ·exact h.gr _ (gu hi)
 ·rw[agH]at hj
  rw[ha]at hpos;rw[ha,ha]at e;by_cases e1:j=k
  ·rw[if_pos e1]at hpos;omega
  ·rw[if_neg e1]at hpos e
   by_cases e2:i=k
   ·rw[if_pos e2]at e;omega
   ·rw[if_neg e2]at e;exact h.gd i j hij hj hpos e
noncomputable def aeo:CPT:=aA 36 (aB lg) noC
theorem H9:aU Tryz.prog aeo:=aj (au ng) aC
theorem RL (A:List (List Int)) (h:A.length≤1000000) (h2:∀i,(A.getD i []).length≤2000000):aF Tryz.prog 164 [.isl (.rows .i64 A) .none,.isl (.rows .i64 A) .none] (.bp true):=by
 refine av (md:=1) (rf:=[]) mixed ak H9 Tryz.func164 (by rfl) (by rfl) (by rfl) ?_
 repeat'((conv=>whnf);first|(intro hq;(try simp only[vw]at hq);try first|exact absurd hq (by decide)|exfalso;omega)|apply aI|with_reducible exact vM rfl|exact⟨⟩|apply nM|apply fM)
 all_goals((try apply vM);(try simp only[vq]at*);try omega)
 all_goals(try omega)
 conv=>whnf
 refine aM (X:=Nat) (fun i=>i≤A.length) (fun i=>[(5,.int .i64 i)]) (fun i=>[]) (fun i=>A.length-i) 0 ⟨aK,mixed,ak,H9,aP⟩ (by rfl) (by omega) ?_ ?_
 ·repeat'((conv=>whnf);first|intro _|apply aI|with_reducible exact vM rfl|exact⟨⟩|apply nM|apply fM)
  all_goals((try apply vM);(try simp only[vq]at*);try omega)
 intro i hi;by_cases hlt:i<A.length
 ·have:=h2 i
  repeat'((conv=>whnf);first|(intro hq;(try simp only[vw]at hq);try first|exact absurd hq (by decide)|exfalso;omega)|apply aI|with_reducible exact vM rfl|exact⟨⟩|apply nM|apply fM)
  all_goals((try apply vM);(try simp only[vq]at*);try omega)
  all_goals(try omega)
  refine⟨i+1,[],⟨by omega,by omega⟩,?_⟩
  repeat'((conv=>whnf);first|intro _|apply aI|with_reducible exact vM rfl|exact⟨⟩|apply nM|apply fM)
  all_goals((try apply vM);(try simp only[vq]at*);try omega)
 ·have:i=A.length:=by omega
  subst this
  repeat'((conv=>whnf);first|(intro hq;(try simp only[vw]at hq);try first|exact absurd hq (by decide)|exfalso;omega)|apply aI|with_reducible exact vM rfl|exact⟨⟩|apply nM|apply fM)
  all_goals((try apply vM);(try simp only[vq]at*);try omega)
  all_goals(try first|omega|exact d9 true)
def OL:PSp:=fun xs K=>match xs with
 | [.isl (.rows .i64 A) .none,.isl (.rows .i64 B) .none]=>VC (A=B∧A.length≤1000000∧∀i,(A.getD i []).length≤2000000)∧K (.bool true)
 |_=>False
theorem aaA:POK Tryz.prog 164 OL:=by
 intro xs K hk;unfold OL at hk;split at hk
 ·obtain⟨⟨rfl,h1,h2⟩,hk⟩:=hk
  exact⟨_,hk,fK (RL _ h1 h2) ⟨fun hr=>by cases hr;exact .bool _ _⟩⟩
 ·exact hk.elim
noncomputable def aep:CPT:=aA 164 (aB OL) noC
theorem Vi:aU Tryz.prog aep:=aj (au aaA) aC
theorem OM (c:Int) (A:List (List Int)) (h:A.length≤1000000) (h2:∀i,(A.getD i []).length≤2000000):aF Tryz.prog 118 [.agg [.int .i64 c,.isl (.rows .i64 A) .none],.agg [.int .i64 c,.isl (.rows .i64 A) .none]] (.bp true):=by
 refine av (md:=1) (rf:=[]) mixed ak Vi Tryz.func118 (by rfl) (by rfl) (by rfl) ?_
 repeat'((conv=>whnf);first|(intro hq;(try simp only[vw]at hq);try first|exact absurd hq (by decide)|exfalso;omega)|apply aI|with_reducible exact vM rfl|exact⟨⟩|apply nM|apply fM)
 all_goals((try apply vM);(try simp only[vq]at*);try omega)
 all_goals first|exact⟨h,h2⟩|exact d9 true|exact Sup.of rfl|skip
def Ia:PSp:=fun xs K=>match xs with
 | [.agg [.int .i64 c,.isl (.rows .i64 A) .none],.agg [.int .i64 c',.isl (.rows .i64 B) .none]]=>VC (c=c'∧A=B∧A.length≤1000000∧∀i,(A.getD i []).length≤2000000)∧K (.bool true)
 |_=>False
theorem Vj:POK Tryz.prog 118 Ia:=by
 intro xs K hk;unfold Ia at hk;split at hk
 ·obtain⟨⟨rfl,rfl,h1,h2⟩,hk⟩:=hk
  exact⟨_,hk,fK (OM _ _ h1 h2) ⟨fun hr=>by cases hr;exact .bool _ _⟩⟩
 ·exact hk.elim
def Ib:PSp:=fun xs K=>match xs with
 | [.isl (.ints .i64 a) .none,.isl (.ints .i64 b) .none]=>VC (a=b∧a.length≤2000000)∧K (.bool true)
 |_=>False
theorem Vk:POK Tryz.prog 36 Ib:=by
 intro xs K hk;unfold Ib at hk;split at hk
 ·obtain⟨⟨rfl,h1⟩,hk⟩:=hk
  exact⟨_,hk,fK (tN _ _ h1) ⟨fun hr=>by cases hr;rw[decide_eq_true rfl];exact .bool _ _⟩⟩
 ·exact hk.elim
noncomputable def aer:CPT:=aA 36 (aB Ib) (aA 118 (aB Ia) noC)
theorem Vl:aU Tryz.prog aer:=aj (au Vk) (aj (au Vj) aC)
theorem Dk (c:Int) (A:List (List Int)) (sum:Int) (gv:List Int) (h:A.length≤1000000) (h2:∀i,(A.getD i []).length≤2000000) (h3:gv.length≤2000000):aF Tryz.prog 46 [pzV c A sum gv,pzV c A sum gv] (.bp true):=by
 refine av (md:=1) (rf:=[]) mixed ak Vl Tryz.func46 (by rfl) (by rfl) (by rfl) ?_
 repeat'((conv=>whnf);first|(intro hq;(try simp only[vw]at hq);try first|exact absurd hq (by decide)|exfalso;omega)|apply aI|with_reducible exact vM rfl|exact⟨⟩|apply nM|apply fM)
 all_goals((try apply vM);(try simp only[vq]at*);try omega)
 all_goals first|exact⟨h,h2⟩|exact h3|exact d9 true|exact Sup.of rfl|skip
theorem aaB {α:Type} [DecidableEq α]:∀(l m:List α),l.Nodup→(∀x∈l,x∈m)→l.length≤m.length:=by
 intro l;induction l with
 |nil=>intro m _ _;simp
 |cons x r ih=>
  intro m hn hm;have hn':=ahv.1 hn;have hx:=hm x (by simp)
  have:=ih (m.erase x) hn'.2 fun y hy=>(List.mem_erase_of_ne (fun e=>hn'.1 y hy e.symm)).2 (hm y (by simp[hy]))
  rw[List.length_erase_of_mem hx]at this;have:=List.length_pos_of_mem hx;simp only[afY];omega
end Go.Eng.YtcechbdgokjmgaaGreatDoor
namespace Go.Eng.YtcechbdgokjmgaaGreatDoor
set_option linter.unusedSimpArgs false
set_option linter.unusedVariables false
theorem Vm {e1:Int} {p:List Int} (h:gF e1 p=0) (he:e1≠0):(∀y∈p,0≤y∧y<p.length)∧p.Nodup∧∀y:Int,0≤y∧y<p.length→y∈p:=by
 unfold gF at h;have hl:¬256<p.length:=fun hh=>by rw[if_pos hh]at h;exact he h
 rw[if_neg hl]at h;have hz:=fP h;have hk:∀i,i<p.length→(0≤p.getD i 0∧p.getD i 0<p.length)∧p.getD i 0∉p.take i:=fun i hi=>by
  have:=hz i hi;unfold nS at this;by_cases e:p.getD i 0<0∨(p.length:Int)≤p.getD i 0∨p.getD i 0∈p.take i
  ·rw[if_pos e]at this;cases this
  ·exact⟨by omega,fun hm=>e (.inr (.inr hm))⟩
 have hr:∀y∈p,0≤y∧y<p.length:=fun y hy=>by
  obtain⟨i,hi,rfl⟩:=(dM _ _).1 hy;exact(hk i hi).1
 have hn:p.Nodup:=by
  rw[List.Nodup,ajj];intro i j hi hj hij e;refine(hk j hj).2 ((H8 (by omega)).2 ⟨i,hij,?_⟩)
  rw[ji hi,ji hj];exact e
 refine⟨hr,hn,fun y hy=>?_⟩;by_cases hm:y∈p
 ·exact hm
 ·exfalso
  have:=aaB (y::p) ((agc p.length).map fun i:Nat=>(i:Int)) (List.nodup_cons.2 ⟨hm,hn⟩) fun x hx=>by
   have hx':0≤x∧x<p.length:=by
    rcases ahu.1 hx with rfl|hx
    ·exact hy
    ·exact hr x hx
   exact aiT.2 ⟨x.toNat,ahT.2 (by omega),by omega⟩
  simp at this;omega
section
variable {c:Int} {ls:List (List Int)} {sum:Int} {nv:List Int} {g:Nat}
structure MkI (c:Int) (ls:List (List Int)) (sum:Int) (nv:List Int) (g:Nat) (gv:List Int):Prop where
 sub:lV gv nv
 ok:(sol c ls sum gv g).2.2=0
end
end Go.Eng.YtcechbdgokjmgaaGreatDoor
namespace Go.Eng.YtcechbdgokjmgaaGreatDoor
open Go.Proofs
set_option linter.unusedSimpArgs false
set_option linter.unusedVariables false
theorem aaC:∀{l m:List Int},l.Pairwise (·≤ ·)→m.Pairwise (·≤ ·)→l.Perm m→l=m:=by
 intro l;induction l with
 |nil=>intro m _ _ h;exact h.symm.eq_nil.symm
 |cons a l ih=>
  intro m hl hm h;cases m with
  |nil=>exact absurd h.eq_nil (by simp)
  |cons b m=>
   have h1:=ahv.1 hl;have h2:=ahv.1 hm;have e:a=b:=by
    have ha:a∈b::m:=h.subset (by simp)
    have hb:b∈a::l:=h.symm.subset (by simp)
    rcases ahu.1 ha with e|e
    ·exact e
    rcases ahu.1 hb with e'|e'
    ·exact e'.symm
    have:=h2.1 a e;have:=h1.1 b e';omega
   subst e;rw[ih h1.2 h2.2 h.cons_inv]
theorem Vn (l:List Int):(bV l).Pairwise (·≤ ·):=by
 have:=List.pairwise_mergeSort (le:=fun x y:Int=>decide (x≤y)) (fun a b c h1 h2=>by simp at*;omega) (fun a b=>by simp;omega) l
 exact this.imp fun h=>by simpa using h
theorem Ic (l:List Int):(bV l).Perm l:=ajg l _
theorem RN (x a:Int) (r:List Int):kV x (a::r)=if a<x then a::kV x r else x::a::r:=by
 unfold kV;by_cases h:a<x
 ·simp[ajo,ajp,h]
 ·simp[ajo,ajp,h]
theorem KQ (x:Int) (o:List Int):(kV x o).Perm (x::o):=by
 unfold kV;have:=List.perm_middle (a:=x) (l₁:=o.takeWhile (fun y=>decide (y<x))) (l₂:=o.dropWhile (fun y=>decide (y<x)))
 rwa [ajq]at this
theorem aaD (x:Int):∀o:List Int,o.Pairwise (·≤ ·)→(kV x o).Pairwise (·≤ ·):=by
 intro o;induction o with
 |nil=>intro _;simp[kV]
 |cons a r ih=>
  intro h;have h1:=ahv.1 h;rw[RN];split
  ·rename_i hx
   refine ahv.2 ⟨fun y hy=>?_,ih h1.2⟩;rcases ahu.1 ((KQ x r).subset hy)with e|e
   ·omega
   ·exact h1.1 y e
  ·rename_i hx
   refine ahv.2 ⟨fun y hy=>?_,h⟩;rcases ahu.1 hy with e|e
   ·omega
   ·have:=h1.1 y e;omega
abbrev mpL (p line:List Int):List Int:=line.map fun a=>p.getD a.toNat 0
theorem aaE (p line:List Int):lX p line line.length=bV (mpL p line):=by
 have key:∀k,k≤line.length→(lX p line k).Perm ((line.take k).map fun a=>p.getD a.toNat 0)∧(lX p line k).Pairwise (·≤ ·):=by
  intro k;induction k with
  |zero=>intro _;exact⟨by simp[lX],by simp[lX]⟩
  |succ k ih=>
   intro hk;obtain⟨h1,h2⟩:=ih (by omega)
   rw[vP _ _ _ (by omega)]
   refine⟨(KQ _ _).trans ?_,aaD _ _ h2⟩;have e:line.take (k+1)=line.take k++[line.getD k 0]:=by
    rw[ah4,agf,agl (by omega)];rfl
   rw[e,ah5];exact(h1.cons _).trans (List.perm_append_singleton _ _).symm
 have:=key line.length (af3 _);rw[ah6]at this;exact aaC this.2 (Vn _) (this.1.trans (Ic _).symm)
theorem key_inj {l m:List Int} (hl:∀x∈l,0≤x∧x<256) (hm:∀x∈m,0≤x∧x<256) (h:strOfNums l=strOfNums m):l=m:=by
 have back:∀l:List Int,(∀x∈l,0≤x∧x<256)→((strOfNums l).data.toList.map fun u=>(u.toNat:Int))=l:=fun l hl=>by
  rw[strOfNums_data,List.map_map];have:l.map ((fun u:UInt8=>(u.toNat:Int))∘fun n:Int=>UInt8.ofNat n.toNat)=l.map id:=List.map_congr_left fun x hx=>by
   have:=hl x hx;simp only[Function.comp,id,UInt8.toNat_ofNat'];omega
  rw[this,List.map_id]
 rw[←back l hl,←back m hm,h]
def kpB (ls:List (List Int)) (q:List Int):Bool:=ls.all fun l=>decide (bV (mpL q l)∈ls)
theorem Ie {ls:List (List Int)} {q:List Int} (h:∀i,i<ls.length→bV (mpL q (ls.getD i []))∈ls):kpB ls q=true:=ahD.2 fun l hl=>by
 obtain⟨i,hi,rfl⟩:=agk hl;have:=h i hi;rw[agf,agl hi]at this;exact decide_eq_true this
theorem Dl {ls:List (List Int)} {q:List Int} {i:Nat} (hi:i<ls.length) (h:bV (mpL q (ls.getD i []))∉ls):kpB ls q=false:=ajn.2 ⟨ls.getD i [],gu hi,by simpa using h⟩
def gvX (c:Int) (b:Bool) (x:Int):Int:=if 0<x∧b=true then c+1-x else x
def mR (f:Nat→Int) (q:List Int) (k:Nat) (o:List Int):List Int:=(agc k).foldl (fun o i=>o.set (q.getD i 0).toNat (f i)) o
theorem lD (f:Nat→Int) (q:List Int) (k:Nat) (o:List Int):mR f q (k+1) o=(mR f q k o).set (q.getD k 0).toNat (f k):=by
 unfold mR;rw[List.range_succ,ait];rfl
theorem jP (f:Nat→Int) (q o:List Int):∀k,(mR f q k o).length=o.length:=by
 intro k;induction k with
 |zero=>rfl
 |succ k ih=>rw[lD,agH,ih]
structure Prm (n:Nat) (q:List Int):Prop where
 ln:q.length=n
 rg:∀y∈q,0≤y∧y<n
 nd:q.Nodup
 al:∀y:Int,0≤y∧y<n→y∈q
theorem Prm.at {n:Nat} {q:List Int} (h:Prm n q) {i:Nat} (hi:i<n):0≤q.getD i 0∧q.getD i 0<n:=h.rg _ (gu (by rw[h.ln];exact hi))
theorem Prm.inj {n:Nat} {q:List Int} (h:Prm n q) {i j:Nat} (hi:i<n) (hj:j<n) (e:q.getD i 0=q.getD j 0):i=j:=by
 have:=h.ln;rw[ji (by omega),ji (by omega)]at e
 exact(aju h.nd).1 e
theorem Prm.ex {n:Nat} {q:List Int} (h:Prm n q) {j:Nat} (hj:j<n):∃i,i<n∧q.getD i 0=(j:Int):=by
 obtain⟨i,hi,e⟩:=(dM _ _).1 (h.al (j:Int) (by omega))
 exact⟨i,by rw[←h.ln];exact hi,e⟩
theorem aaF {e1:Int} {p:List Int} (h:gF e1 p=0) (he:e1≠0):Prm p.length p:=by
 obtain⟨h1,h2,h3⟩:=Vm h he;exact⟨rfl,h1,h2,h3⟩
theorem KS {f:Nat→Int} {q o:List Int} {n:Nat} (hq:Prm n q) (ho:o.length=n):∀k,k≤n→∀i,i<k→(mR f q k o).getD (q.getD i 0).toNat 0=f i:=by
 intro k;induction k with
 |zero=>intro _ i hi;omega
 |succ k ih=>
  intro hk i hi;rw[lD];have h1:=hq.at (i:=i) (by omega)
  have h2:=hq.at (i:=k) (by omega)
  have hl:=jP f q o k;by_cases e:i=k
  ·subst e
   rw[agf,List.getElem?_set_self (by omega)];rfl
  ·have hne:(q.getD k 0).toNat≠(q.getD i 0).toNat:=fun e1=>e (hq.inj (by omega) (by omega) (by omega))
   rw[agf,List.getElem?_set_ne hne,←agf];exact ih (by omega) i (by omega)
theorem RO {l m:List Int} {n:Nat} (hl:l.length=n) (hm:m.length=n) (h:∀j,j<n→l.getD j 0=m.getD j 0):l=m:=
 aiY (by omega) fun j h1 h2=>by
  have:=h j (by omega)
  rwa [ji h1,ji h2]at this
theorem Vo {f:Nat→Int} {q o m:List Int} {n:Nat} (hq:Prm n q) (ho:o.length=n) (hm:m.length=n) (h:∀i,i<n→m.getD (q.getD i 0).toNat 0=f i):mR f q n o=m:=by
 refine RO (by rw[jP];exact ho) hm fun j hj=>?_
 obtain⟨i,hi,e⟩:=hq.ex hj;have a1:=KS (f:=f) hq ho n (af3 _) i hi;have a2:=h i hi;rw[e,show((j:Int)).toNat=j by omega]at a1 a2
 rw[a1,a2]
theorem KT {f:Nat→Int} {q o o':List Int} {n:Nat} (hq:Prm n q) (ho:o.length=n) (ho':o'.length=n):mR f q n o=mR f q n o':=
 Vo hq ho (by rw[jP];exact ho') fun i hi=>KS hq ho' n (af3 _) i hi
def smI (c:Int) (ls:List (List Int)) (sum:Int) (b:Bool):Int:=if b then((ls.getD 0 []).length:Int)*(c+1)-sum else sum
def imE (c:Int) (ls:List (List Int)) (sum:Int) (q:List Int) (b:Bool):Int:=
 if kpB ls q=false∨(b=true∧gQ ls=false)then 7 else if smI c ls sum b< -999999999∨999999999<smI c ls sum b then 3 else 0
def imG (c:Int) (b:Bool) (gv q:List Int):List Int:=mR (fun i=>gvX c b (gv.getD i 0)) q gv.length (agr gv.length 0)
def jq (c:Int) (ls:List (List Int)) (sum:Int) (gv q:List Int) (b:Bool):(Int × List (List Int) × Int × List Int) × Int:=
 if pzE c ls sum gv≠0 then((0,[],0,[]),pzE c ls sum gv)else if jO q c≠0 then((0,[],0,[]),jO q c)else if imE c ls sum q b≠0 then((0,[],0,[]),imE c ls sum q b)else((c,ls,smI c ls sum b,imG c b gv q),0)
theorem Ig {q:List Int} {c:Int} (h:jO q c=0):Prm c.toNat q∧0≤c∧c≤256∧gF 5 q=0:=by
 unfold jO at h;by_cases h1:jo c=0
 case neg=>rw[if_pos h1]at h;cases h
 rw[if_neg (by rw[h1];simp)]at h
 by_cases h2:(q.length:Int)=c
 case neg=>rw[if_pos h2]at h;cases h
 rw[if_neg (by simpa using h2)]at h
 have h3:¬(c<0∨256<c):=fun e=>by unfold jo at h1;rw[if_pos e]at h1;cases h1
 have h4:=aaF h (by decide)
 rw[show c.toNat=q.length by omega]
 exact⟨h4,by omega,by omega,h⟩
theorem adE {c:Int} {ls:List (List Int)} (h:fC c ls=0):ls.Nodup:=by
 unfold fC at h;by_cases h1:c<1∨256<c
 ·rw[if_pos h1]at h;cases h
 rw[if_neg h1]at h;by_cases h2:128<ls.length
 ·rw[if_pos h2]at h;cases h
 rw[if_neg h2]at h;have hz:=fP h;rw[List.Nodup,ajj];intro i j hi hj hij e;have:=hz j hj;unfold gV at this;by_cases h3:(ls.getD j []).length=0
 ·rw[if_pos h3]at this;cases this
 rw[if_neg h3]at this;by_cases h4:cZ (bP c (ls.getD j [])) (ls.getD j []).length≠0
 ·rw[if_pos h4]at this;exact h4 this
 rw[if_neg h4]at this;have h5:(ls.take j).any (fun x=>decide (x=ls.getD j []))=true:=by
  refine aiF.2 ⟨ls[i],?_,?_⟩
  ·have:(ls.take j)[i]? =some ls[i]:=by rw[List.getElem?_take,if_pos hij,agl hi]
   exact List.mem_of_getElem? this
  ·rw[agf,agl hj]
   exact decide_eq_true e
 rw[if_pos h5]at this;cases this
theorem KU {c:Int} {ls:List (List Int)} (h:eU c ls=0):fC c ls=0:=by
 unfold eU at h;simp only[aJ]at h;by_cases e:fC c ls=0
 ·exact e
 ·rw[if_neg e]at h;exact absurd h e
theorem adF {c:Int} {ls:List (List Int)} (h:eU c ls=0):ls.Nodup:=adE (KU h)
theorem adG {c:Int} {ls:List (List Int)} {sum:Int} {gv:List Int} (h:pzE c ls sum gv=0):eU c ls=0:=by
 unfold pzE at h;have h0:nO c ls sum gv=0:=by
  by_cases e:nO c ls sum gv=0
  ·exact e
  ·rw[if_pos e]at h;exact h
 unfold nO at h0;simp only[aJ]at h0;by_cases e:eU c ls=0
 ·exact e
 ·rw[if_neg e]at h0;exact absurd h0 e
theorem aaG (c:Int) (b:Bool) (gv q:List Int):(imG c b gv q).length=gv.length:=by unfold imG;rw[jP,aji]
end Go.Eng.YtcechbdgokjmgaaGreatDoor
namespace Go.Eng
open Go.RowKit
set_option linter.unusedSimpArgs false
set_option linter.unusedVariables false
end Go.Eng
namespace Go.Eng.YtcechbdgokjmgaaGreatDoor
set_option linter.unusedSimpArgs false
set_option linter.unusedVariables false
def ksM (l:List ByteArray):List (PV × PV):=l.map fun s=>(.str s,.bool true)
theorem aaH (l:List ByteArray) (s:ByteArray):ksM l++[(.str s,.bool true)]=ksM (l++[s]):=by simp[ksM]
theorem RP {s:ByteArray}:∀{l:List ByteArray},s∉l→ug s (ksM l):=by
 intro l;induction l with
 |nil=>intro _;trivial
 |cons a r ih=>
  intro h;exact⟨fun e=>h (by simp[e]),ih fun e=>h (by simp[e])⟩
theorem Vp {s:ByteArray} {K:PV→Prop}:∀{l:List ByteArray},(s∈l→K (.bool true))→(s∉l→K (.bool false))→yN s (.bool false) false (ksM l) K:=by
 intro l;induction l with
 |nil=>intro _ h;exact h (by simp)
 |cons a r ih=>
  intro h1 h2;exact⟨fun e=>h1 (by simp[e]),fun e=>ih (fun hm=>h1 (by simp[hm])) fun hm=>h2 (by simp[e,hm])⟩
theorem jY {σ:Sg} {K:Prop} (hK:K):∀{l:List ByteArray},Az σ (ksM l) (ksM l) K:=by
 intro l;induction l with
 |nil=>exact hK
 |cons a r ih=>
  show uM σ (.str a) (.str a) (uM σ (.bool true) (.bool true) (Az σ (ksM r) (ksM r) K));unfold uM;simp only[xP];first|exact⟨⟨rfl⟩,rfl,ih⟩|exact⟨⟨rfl⟩,⟨rfl⟩,ih⟩|exact⟨⟨rfl⟩,ih⟩|(trace_state;done)
theorem Vq {σ:Sg} {K:Prop} {l l':List ByteArray} {s:ByteArray} (hK:K) (e:l'=l++[s]):Az σ (ksM l++[(.str s,.bool true)]) (ksM l') K:=by
 rw[aaH,e];exact jY hK
theorem yJ {σ:Sg}:∀{l:List ByteArray},lQ σ (ksM l)=some (ksM l):=by
 intro l;induction l with
 |nil=>rfl
 |cons a r ih=>
  show lQ σ ((.str a,.bool true)::ksM r)=some ((.str a,.bool true)::ksM r);simp only[lQ,ih];rfl
end Go.Eng.YtcechbdgokjmgaaGreatDoor
namespace Go.Eng.YtcechbdgokjmgaaGreatDoor
open Go.Proofs
set_option linter.unusedSimpArgs false
set_option linter.unusedVariables false
set_option maxHeartbeats 0
set_option maxRecDepth 100000
theorem Eu {α:Type} {l:List α} {i:Nat} {d:α} (h:i<l.length):l.getD i d∈l:=by
 rw[agf,agl h];exact List.getElem_mem _
def stK (q:List Int):Nat→List (Nat × PV)
 |0=>[(14,.int .i64 0),(3,.rsl 1 0 0),(20,.any),(21,.any)]
 |i+1=>[(14,.int .i64 ((i:Int)+1)),(3,.rsl 9 0 (i+1)),(20,.any),(21,.any)]
def obK (q:List Int):Nat→List (Nat × AO)
 |0=>[]
 |i+1=>[(1,.cells (.pv []) true),(9,.cells (.ints .u8 (q.take (i+1))) false)]
theorem Vr (q:List Int) (h:q.length≤5000) (hr:∀x∈q,0≤x∧x≤255):aF Tryz.prog 217 [.agg [.isl (.ints .i64 q) .none,.bp false]] (.str (strOfNums q)):=by
 refine av (md:=1) (rf:=[]) mixed ak aC Tryz.func217 (by rfl) (by rfl) (by rfl) ?_
 repeat'((conv=>whnf);first|intro _|apply aI|with_reducible exact vM rfl|exact⟨⟩|apply nM|apply fM)
 all_goals((try apply vM);(try simp only[vq]at*);try omega)
 ·refine .inr ⟨by omega,?_,?_⟩
  ·show((q.length:Int)+1)*1≤_;omega
  ·unfold inR;omega
 conv=>whnf
 refine aM (X:=Nat) (fun i=>i≤q.length) (stK q) (obK q) (fun i=>q.length-i) 0 ⟨aK,mixed,ak,aC,aP⟩ (by rfl) (by omega) ?_ ?_
 ·repeat'((conv=>whnf);first|intro _|apply aI|with_reducible exact vM rfl|exact⟨⟩|apply nM|apply fM)
  all_goals((try apply vM);(try simp only[vq]at*);try omega)
 intro i hi;by_cases hlt:i<q.length
 ·have hx:=hr (q.getD i 0) (Eu hlt)
  have e2:q.take i++[q.getD i 0]=q.take (i+1):=by
   rw[ah4,agf,agl hlt];rfl
  cases i with
  |zero=>
   repeat'((conv=>whnf);first|intro _|apply aI|with_reducible exact vM rfl|exact⟨⟩|apply nM|apply fM)
   all_goals((try apply vM);(try simp only[vq]at*);try omega)
   all_goals(try first|exact hx.1|exact hx.2)
   refine⟨1,[(3,9)],⟨by omega,by omega⟩,?_⟩
   repeat'((conv=>whnf);first|intro _|apply aI|with_reducible exact vM rfl|exact⟨⟩|apply nM|apply fM)
   all_goals((try apply vM);(try simp only[vq]at*);try omega)
   all_goals(try exact e2)
  |succ i=>
   have e1:(q.take (i+1)).length=i+1:=by rw[agU];omega
   have e3:aiK (i+1) (aiL 0 (aiK (i+1) q))=q.take (i+1):=by
    rw[aiM,ai2 (by omega)]
   repeat'((conv=>whnf);first|intro _|apply aI|with_reducible exact vM rfl|exact⟨⟩|apply nM|apply fM)
   all_goals((try apply vM);(try simp only[vq]at*);try omega)
   all_goals(try first|exact hx.1|exact hx.2|omega)
   refine⟨i+2,[(3,9)],⟨by omega,by omega⟩,?_⟩
   repeat'((conv=>whnf);first|intro _|apply aI|with_reducible exact vM rfl|exact⟨⟩|apply nM|apply fM)
   all_goals((try apply vM);(try simp only[vq]at*);try omega)
   all_goals first|exact(congrArg (·++[q.getD (i+1) 0]) e3).trans e2
 ·have e:i=q.length:=by omega
  cases i with
  |zero=>
   have:q=[]:=ajw e.symm;subst this
   repeat'((conv=>whnf);first|(intro hq;(try simp only[vw]at hq);try first|exact absurd hq (by decide)|exfalso;omega)|apply aI|with_reducible exact vM rfl|exact⟨⟩|apply nM|apply fM)
   all_goals((try apply vM);(try simp only[vq]at*);try omega)
   exact Sup.of rfl
  |succ i=>
   have e1:(q.take (i+1)).length=i+1:=by rw[agU];omega
   have e3:aiK (i+1) (aiL 0 (aiK (i+1) q))=q:=by
    rw[aiM,ai2 (by omega),e,ah6]
   repeat'((conv=>whnf);first|(intro hq;(try simp only[vw]at hq);try first|exact absurd hq (by decide)|exfalso;omega)|apply aI|with_reducible exact vM rfl|exact⟨⟩|apply nM|apply fM)
   all_goals((try apply vM);(try simp only[vq]at*);try omega)
   all_goals(try omega)
   rw[e3];exact Sup.of rfl
def OO:PSp:=fun xs K=>match xs with
 | [.agg [.isl (.ints .i64 q) .none,.bp b]]=>VC (b=false∧q.length≤5000∧∀x∈q,0≤x∧x≤255)∧K (.str (strOfNums q))
 |_=>False
theorem RQ:POK Tryz.prog 217 OO:=by
 intro xs K hk;unfold OO at hk;split at hk
 ·obtain⟨⟨rfl,h1,h2⟩,hk⟩:=hk
  exact⟨_,hk,Vr _ h1 h2⟩
 ·exact hk.elim
structure Ih (ls:List (List Int)):Prop where
 len:ls.length≤1000000
 all:∀x∈ls,x.length≤5000∧∀y∈x,0≤y∧y≤255
 nd:(ls.map strOfNums).Nodup
noncomputable def afE:CPT:=aA 217 (aB OO) noC
theorem KV:aU Tryz.prog afE:=aj (au RQ) aC
theorem JA (c:Int) (ls:List (List Int)) (h:Ih ls):iM Tryz.prog 186 [.agg [.int .i64 c,.isl (.rows .i64 ls) .none]] [] [.fn (.func 218) [] [.rp 0 0]] [.cells (.pv [.rm 1]) false,.map (ksM (ls.map strOfNums))]:=by
 have hl:=h.len;refine bH (md:=1) (rf:=[]) mixed ak KV 0 [(2,0),(1,1)] Tryz.func186 (by rfl) (by rfl) (by rfl) ?_
 repeat'((conv=>whnf);first|intro _|apply aI|with_reducible exact vM rfl|exact⟨⟩|apply nM|apply fM)
 all_goals((try apply vM);(try simp only[vq]at*);try omega)
 conv=>whnf
 refine aM (X:=Nat) (fun i=>i≤ls.length) (fun i=>[(10,.int .i64 i)]) (fun i=>[(1,.map (ksM ((ls.take i).map strOfNums)))]) (fun i=>ls.length-i) 0 ⟨aK,mixed,ak,KV,aP⟩ (by rfl) (by omega) ?_ ?_
 ·repeat'((conv=>whnf);first|intro _|apply aI|with_reducible exact vM rfl|exact⟨⟩|apply nM|apply fM)
  all_goals((try apply vM);(try simp only[vq]at*);try omega)
  all_goals trace_state
 intro i hi;by_cases hlt:i<ls.length
 ·have hx:=h.all _ (Eu (d:=[]) hlt)
  have e2:(ls.take (i+1)).map strOfNums=(ls.take i).map strOfNums++[strOfNums (ls.getD i [])]:=by
   rw[ah4,agf,agl hlt,ah5];rfl
  have hnk:strOfNums (ls.getD i [])∉(ls.take i).map strOfNums:=fun hm=>by
   have h1:(ls.take (i+1)).map strOfNums=(ls.map strOfNums).take (i+1):=by rw[List.map_take]
   have h2:((ls.take (i+1)).map strOfNums).Nodup:=by rw[h1];exact h.nd.sublist (List.take_sublist _ _)
   rw[e2,List.nodup_append]at h2;exact h2.2.2 _ hm _ (by simp) rfl
  repeat'((conv=>whnf);first|intro _|apply aI|with_reducible exact vM rfl|exact⟨⟩|apply nM|apply fM)
  all_goals((try apply vM);(try simp only[vq]at*);try omega)
  ·exact RP hnk
  refine⟨i+1,[],⟨by omega,by omega⟩,?_⟩
  repeat'((conv=>whnf);first|intro _|apply aI|with_reducible exact vM rfl|exact⟨⟩|apply nM|apply fM)
  all_goals((try apply vM);(try simp only[vq]at*);try omega)
  conv=>whnf
  refine Vq ?_ e2
  repeat'((conv=>whnf);first|intro _|apply aI|with_reducible exact vM rfl|exact⟨⟩|apply nM|apply fM)
  all_goals((try apply vM);(try simp only[vq]at*);try omega)
  all_goals trace_state
 ·have e:i=ls.length:=by omega
  subst e;rw[ah6]
  repeat'((conv=>whnf);first|intro _|apply aI|with_reducible exact vM rfl|exact⟨⟩|apply nM|apply fM)
  all_goals((try apply vM);(try simp only[vq]at*);try omega)
  conv=>whnf
  trace_state
  refine jY ?_
  repeat'((conv=>whnf);first|intro _|apply aI|with_reducible exact vM rfl|exact⟨⟩|apply nM|apply fM)
  all_goals((try apply vM);(try simp only[vq]at*);try omega)
  all_goals trace_state
theorem adH:COK Tryz.prog 219 qK:=CS (enters' Tryz.func219 (by rfl) (by rfl)) Go.Proofs.Tryz.slices_Sort_int
noncomputable def afF:CPT:=aA 217 (jH OO) (aA 219 qK noC)
theorem KW:aU Tryz.prog afF:=aj (gJ RQ) (aj adH aC)
def stM:Nat→List (Nat × PV)
 |0=>[(11,.int .i64 0),(6,.nils)]
 |i+1=>[(11,.int .i64 ((i:Int)+1)),(6,.rsl 7 0 (i+1))]
def obM (m:List Int):Nat→List (Nat × AO)
 |0=>[]
 |i+1=>[(7,.cells (.ints .i64 (m.take (i+1))) false)]
theorem OP (p line:List Int) (ks:List ByteArray) (hl:1≤line.length∧line.length≤5000) (hr:∀x∈line,0≤x∧x<p.length) (hp:∀y∈p,0≤y∧y≤255) (m:List Int) (hm:m=line.map fun a=>p.getD a.toNat 0) (b:Bool) (hb:b=true↔strOfNums (bV m)∈ks):
 iM Tryz.prog 218 [.isl (.ints .i64 p) .none,.isl (.ints .i64 line) .none,.rp 0 0] [.cells (.pv [.rm 1]) false,.map (ksM ks)] [.bp b] [.cells (.pv [.rm 1]) false,.map (ksM ks)]:=by
 have hml:m.length=line.length:=by rw[hm,ah2]
 have hmr:∀x∈bV m,0≤x∧x≤255:=fun x hx=>by
  have hx:x∈m:=(ajg m _).mem_iff.1 hx;rw[hm]at hx;obtain⟨a,ha,rfl⟩:=aiT.1 hx;have:=hr a ha;exact hp _ (Eu (by omega))
 have hat:∀i,i<line.length→m.getD i 0=p.getD (line.getD i 0).toNat 0:=fun i hi=>by
  rw[hm];simp[agf,hi]
 clear hm;have hsl:=jG m;refine bH (md:=1) (rf:=[21]) mixed ak KW 2 [] Tryz.func218 (by rfl) (by rfl) (by rfl) ?_
 repeat'((conv=>whnf);first|intro _|apply aI|with_reducible exact vM rfl|exact⟨⟩|apply nM|apply fM)
 all_goals((try apply vM);(try simp only[vq]at*);try omega)
 conv=>whnf
 refine aM (X:=Nat) (fun i=>i≤line.length) stM (obM m) (fun i=>line.length-i) 0 ⟨aK,mixed,ak,KW,aP⟩ (by rfl) (by omega) ?_ ?_
 ·repeat'((conv=>whnf);first|intro _|apply aI|with_reducible exact vM rfl|exact⟨⟩|apply nM|apply fM)
  all_goals((try apply vM);(try simp only[vq]at*);try omega)
  conv=>whnf
  refine jY ?_
  repeat'((conv=>whnf);first|intro _|apply aI|with_reducible exact vM rfl|exact⟨⟩|apply nM|apply fM)
  all_goals((try apply vM);(try simp only[vq]at*);try omega)
  all_goals trace_state
 intro i hi;by_cases hlt:i<line.length
 ·have hx:=hr (line.getD i 0) (Eu hlt)
  have e2:m.take i++[p.getD (line.getD i 0).toNat 0]=m.take (i+1):=by
   rw[←hat i hlt,ah4,agf,agl (by omega)];rfl
  cases i with
  |zero=>
   repeat'((conv=>whnf);first|intro _|apply aI|with_reducible exact vM rfl|exact⟨⟩|apply nM|apply fM)
   all_goals((try apply vM);(try simp only[vq]at*);try omega)
   all_goals(try first|exact hx.1|exact hx.2|omega|(show(_:Nat)<_;simp only[ajl];omega)|(show(_:Nat)<_;simp only[show((i:Int)+1).toNat=i+1 by omega];omega))
   refine⟨1,[(3,7)],⟨by omega,by omega⟩,?_⟩
   repeat'((conv=>whnf);first|intro _|apply aI|with_reducible exact vM rfl|exact⟨⟩|apply nM|apply fM)
   all_goals((try apply vM);(try simp only[vq]at*);try omega)
   conv=>whnf
   refine jY ?_
   repeat'((conv=>whnf);first|intro _|apply aI|with_reducible exact vM rfl|exact⟨⟩|apply nM|apply fM)
   all_goals((try apply vM);(try simp only[vq]at*);try omega)
   all_goals exact e2
  |succ i=>
   have e1:(m.take (i+1)).length=i+1:=by rw[agU];omega
   have e3:aiK (i+1) (aiL 0 (aiK (i+1) m))=m.take (i+1):=by
    rw[aiM,ai2 (by omega)]
   repeat'((conv=>whnf);first|intro _|apply aI|with_reducible exact vM rfl|exact⟨⟩|apply nM|apply fM)
   all_goals((try apply vM);(try simp only[vq]at*);try omega)
   all_goals(try first|exact hx.1|exact hx.2|omega|(show(_:Nat)<_;simp only[ajl];omega)|(show(_:Nat)<_;simp only[show((i:Int)+1).toNat=i+1 by omega];omega))
   refine⟨i+2,[(3,7)],⟨by omega,by omega⟩,?_⟩
   repeat'((conv=>whnf);first|intro _|apply aI|with_reducible exact vM rfl|exact⟨⟩|apply nM|apply fM)
   all_goals((try apply vM);(try simp only[vq]at*);try omega)
   conv=>whnf
   refine jY ?_
   repeat'((conv=>whnf);first|intro _|apply aI|with_reducible exact vM rfl|exact⟨⟩|apply nM|apply fM)
   all_goals((try apply vM);(try simp only[vq]at*);try omega)
   all_goals exact(congrArg (·++[p.getD (line.getD (i+1) 0).toNat 0]) e3).trans e2
 ·have e:i=line.length:=by omega
  cases i with
  |zero=>omega
  |succ i=>
   have e1:m.take (i+1)=m:=by rw[e,←hml,ah6]
   have e5:aiK (i+1-0) (aiL 0 (bV (m.take (i+1))))=bV m:=by rw[e1,aiM,ai2 (by omega)]
   have e6:(bV (m.take (i+1))).length=i+1:=by rw[e1];omega
   have e7:(m.take (i+1)).length=i+1:=by rw[e1];omega
   repeat'((conv=>whnf);first|(intro hq;(try simp only[vw]at hq);try first|exact absurd hq (by decide)|exfalso;omega)|apply aI|with_reducible exact vM rfl|exact⟨⟩|apply nM|apply fM)
   all_goals((try apply vM);(try simp only[vq]at*);try omega)
   all_goals(try first|exact e7.symm|omega|(rw[e5];exact⟨by omega,hmr⟩))
   rw[e5];conv=>whnf
   refine Vp (fun hin=>?_) fun hin=>?_
   ·have hbt:=hb.2 hin
    repeat'((conv=>whnf);first|intro _|apply aI|with_reducible exact vM rfl|exact⟨⟩|apply nM|apply fM)
    all_goals((try apply vM);(try simp only[vq]at*);try omega)
    ·exact hbt.symm
    conv=>whnf
    refine jY ?_
    repeat'((conv=>whnf);first|intro _|apply aI|with_reducible exact vM rfl|exact⟨⟩|apply nM|apply fM)
    all_goals((try apply vM);(try simp only[vq]at*);try omega)
    all_goals trace_state
   ·have hbf:b=false:=by cases hbb:b with|true=>exact absurd (hb.1 hbb) hin|false=>rfl
    repeat'((conv=>whnf);first|intro _|apply aI|with_reducible exact vM rfl|exact⟨⟩|apply nM|apply fM)
    all_goals((try apply vM);(try simp only[vq]at*);try omega)
    ·exact hbf.symm
    conv=>whnf
    refine jY ?_
    repeat'((conv=>whnf);first|intro _|apply aI|with_reducible exact vM rfl|exact⟨⟩|apply nM|apply fM)
    all_goals((try apply vM);(try simp only[vq]at*);try omega)
    all_goals trace_state
def Xq:LSp:=fun xs objs K=>match xs,objs with
 | [.agg [.int .i64 c,.isl (.rows .i64 ls) .none]],[]=>VC (Ih ls)∧K [.fn (.func 218) [] [.rp 0 0]] [.cells (.pv [.rm 1]) false,.map (ksM (ls.map strOfNums))]
 |_,_=>False
theorem Vs:LOK Tryz.prog 186 Xq:=by
 intro xs objs K hk;unfold Xq at hk;split at hk
 ·exact⟨_,_,hk.2,JA _ _ hk.1.get⟩
 ·exact hk.elim
def Ii:CT:=fun args n H K=>match args with
 | [.agg [.int .i64 c,.isl (.rows .i64 ls) .none]]=>VC (Ih ls)∧dK H n (gY (n+1) fun n1=>dK H n1 (K (.fn (.func 218) [] [.rp n 0]) [(n,.cells (.pv [.rm n1]) false),(n1,.map (ksM (ls.map strOfNums)))] [] [n,n1]))
 |_=>False
theorem RS:COK Tryz.prog 186 Ii:=by
 intro args n H K hk;unfold Ii at hk;split at hk
 ·rename_i c ls
  simp only[gZ]at hk;obtain⟨hL,hk⟩:=hk;rw[bX]at hk;obtain⟨h1,hk⟩:=hk;rw[bX]at hk;obtain⟨h2,hk⟩:=hk;refine dh [] Vs _ n H K ?_;unfold dV;simp only[og,eB,aY,xR];have e1:kK H 60 ([]++rX [PV.agg [.int .i64 c,.isl (.rows .i64 ls) .none]]) []=[]:=by
   simp[rX,aa2,wo,SI,kK]
  rw[e1,aL];refine⟨rfl,?_⟩;show VC (Ih ls)∧dK H n (dK H (n+1) (ifK (gH [(0,n),(1,n+1)] [(0,n),(1,n+1)]) (mX [(0,n),(1,n+1)] [n,n+1] [.cells (.pv [.rm 1]) false,.map (ksM (ls.map strOfNums))] fun sets=>zu [(0,n),(1,n+1)] [.fn (.func 218) [] [.rp 0 0]] fun v=>K v sets [] [n,n+1])));have e3:agn n n=true:=ajx _;have e4:agn (n+1) n=false:=by
   cases h:agn (n+1) n with
   |true=>have:=agt h;omega
   |false=>rfl
  have e5:agn n (n+1)=false:=by
   cases h:agn n (n+1)with
   |true=>have:=agt h;omega
   |false=>rfl
  have e6:agn (n+1) (n+1)=true:=ajx _;refine⟨hL,bX.2 ⟨h1,bX.2 ⟨h2,?_⟩⟩⟩;rw[aL];refine⟨?_,?_⟩
  ·simp only[gH,eqO,sgB,sgF,e3,e4,e5,e6]
   rfl
  ·have e7:jE [(0,n),(1,n+1)] (.cells (.pv [.rm 1]) false)=some (.cells (.pv [.rm (n+1)]) false):=rfl
   have e8:jE [(0,n),(1,n+1)] (.map (ksM (ls.map strOfNums)))=some (.map (ksM (ls.map strOfNums))):=by
    show(match lQ [(0,n),(1,n+1)] (ksM (ls.map strOfNums))with|some ds=>some (AO.map ds)|none=>none)=_
    rw[yJ]
   unfold mX;rw[e7];simp only;unfold mX;rw[e8];exact hk
 ·exact hk.elim
structure OQ (p line:List Int):Prop where
 l:1≤line.length∧line.length≤5000
 r:∀x∈line,0≤x∧x<p.length
 p:∀y∈p,0≤y∧y≤255
def adI (ks:List ByteArray) (b:Bool):LSp:=fun xs objs K=>match xs,objs with
 | [.isl (.ints .i64 p) .none,.isl (.ints .i64 line) .none,.rp 0 0],[.cells (.pv [.rm 1]) false,.map es]=>VC (es=ksM ks∧OQ p line∧(b=true↔strOfNums (bV (line.map fun a=>p.getD a.toNat 0))∈ks))∧K [.bp b] [.cells (.pv [.rm 1]) false,.map (ksM ks)]
 |_,_=>False
theorem aaI (ks:List ByteArray) (b:Bool):LOK Tryz.prog 218 (adI ks b):=by
 intro xs objs K hk;unfold adI at hk;split at hk
 ·obtain⟨⟨rfl,h,hb⟩,hk⟩:=hk
  exact⟨_,_,hk,OP _ _ _ h.l h.r h.p _ rfl _ hb⟩
 ·exact hk.elim
def OT (ks:List ByteArray):CT:=fun args n H K=>match args with
 | [.isl (.ints .i64 p) .none,.isl (.ints .i64 line) .none,.rp a 0]=>bQ H a fun o=>match o with
  |.cells c fz=>match fz with
   |true=>False
   |false=>match c with
    |.pv ds=>match ds with
     | [d]=>match d with
      |.rm j=>bQ H j fun o2=>match o2 with
       |.map es=>∃b:Bool,VC (es=ksM ks∧OQ p line∧(b=true↔strOfNums (bV (line.map fun a=>p.getD a.toNat 0))∈ks))∧K (.bp b) [(a,.cells (.pv [.rm j]) false),(j,.map (ksM ks))] [a,j] []
       |_=>False
      |_=>False
     |_=>False
    |_=>False
  |_=>False
 |_=>False
theorem Vt (ks:List ByteArray):COK Tryz.prog 218 (OT ks):=by
 intro args n H K hk;unfold OT at hk;split at hk
 ·rename_i p line a
  rw[aV]at hk;obtain⟨o,ho,hk⟩:=hk;split at hk
  ·rename_i c fz
   split at hk
   ·exact hk.elim
   ·split at hk
    ·rename_i ds
     split at hk
     ·rename_i d
      split at hk
      ·rename_i j
       rw[aV]at hk;obtain⟨o2,ho2,hk⟩:=hk;split at hk
       ·rename_i es
        obtain⟨b,⟨he,hL,hb⟩,hk⟩:=hk;subst he;have hne:a≠j:=fun e=>by subst e;rw[ho]at ho2;cases ho2
        have e3:∀n,agn n n=true:=fun n=>ajx n;have e4:agn a j=false:=by
         cases h:agn a j with
         |true=>exact absurd (agt h) hne
         |false=>rfl
        have e5:agn j a=false:=by
         cases h:agn j a with
         |true=>exact absurd (agt h).symm hne
         |false=>rfl
        have e1:kK H 60 ([]++rX [PV.isl (.ints .i64 p) .none,.isl (.ints .i64 line) .none,.rp a 0]) []=[a,j]:=by
         show kK H 60 [a] []=[a,j];unfold kK;simp only[gy,ho];show kK H 59 [j] [a]=[a,j];unfold kK;simp only[gy,e4,e5,ho2];rfl
        refine dh [] (aaI ks b) _ n H K ?_;unfold dV;simp only[og,eB,aY,xR];rw[e1,aL];refine⟨?_,?_⟩
        ·show gH [(a,0),(j,1)] [(a,0),(j,1)]=true
         simp only[gH,eqO,sgB,sgF,e3,e4,e5];rfl
        ·have r1:sgF [(a,0),(j,1)] a=some 0:=by simp only[sgF,e3]
         have r2:sgF [(a,0),(j,1)] j=some 1:=by simp only[sgF,e3,e4]
         have f1:lN (kg [a,j] 0) [.isl (.ints .i64 p) .none,.isl (.ints .i64 line) .none,.rp a 0]=some [.isl (.ints .i64 p) .none,.isl (.ints .i64 line) .none,.rp 0 0]:=by
          show lN [(a,0),(j,1)] _=_;simp only[lN,oW,Aw,r1]
         have f2:jE (kg [a,j] 0) (.cells (.pv [.rm j]) false)=some (.cells (.pv [.rm 1]) false):=by
          show jE [(a,0),(j,1)] _=_;simp only[jE,lN,oW,Aw,r2]
         have f3:jE (kg [a,j] 0) (.map (ksM ks))=some (.map (ksM ks)):=by
          show(match lQ _ (ksM ks)with|some ds=>some (AO.map ds)|none=>none)=_
          rw[yJ]
         rw[f1];simp only;unfold wu;rw[aV];refine⟨_,ho,?_⟩;rw[f2];simp only;unfold wu;rw[aV];refine⟨_,ho2,?_⟩;rw[f3];show VC (ksM ks=ksM ks∧OQ p line∧(b=true↔strOfNums (bV (line.map fun a=>p.getD a.toNat 0))∈ks))∧(ifK (gH [(0,a),(1,j)] [(0,a),(1,j)]) (mX [(0,a),(1,j)] [a,j] [.cells (.pv [.rm 1]) false,.map (ksM ks)] fun sets=>zu [(0,a),(1,j)] [.bp b] fun v=>K v sets [a,j] []));refine⟨⟨rfl,hL,hb⟩,?_⟩;rw[aL];refine⟨?_,?_⟩
         ·simp only[gH,eqO,sgB,sgF,e3,e4,e5]
          rfl
         ·have e7:jE [(0,a),(1,j)] (.cells (.pv [.rm 1]) false)=some (.cells (.pv [.rm j]) false):=rfl
          have e8:jE [(0,a),(1,j)] (.map (ksM ks))=some (.map (ksM ks)):=by
           show(match lQ _ (ksM ks)with|some ds=>some (AO.map ds)|none=>none)=_
           rw[yJ]
          unfold mX;rw[e7];simp only;unfold mX;rw[e8];exact hk
       ·exact hk.elim
      ·exact hk.elim
     ·exact hk.elim
    ·exact hk.elim
  ·exact hk.elim
 ·exact hk.elim
noncomputable def afG:CPT:=aA 183 (aB eG) noC
theorem aaJ:aU Tryz.prog afG:=aj (au Gg) aC
theorem RU (n:Int):aF Tryz.prog 182 [.int .i64 n] (.int .i64 (jo n)):=by
 have e1:∀x:Int,(n<0∨256<n→x=3)→(¬(n<0∨256<n)→x=0)→x=jo n:=fun x h1 h2=>by
  unfold jo;by_cases h:n<0∨256<n
  ·rw[if_pos h];exact h1 h
  ·rw[if_neg h];exact h2 h
 refine av (md:=1) (rf:=[]) mixed ak aaJ Tryz.func182 (by rfl) (by rfl) (by rfl) ?_
 repeat'((conv=>whnf);first|(intro hq;(try simp only[vw]at hq);try first|exact absurd hq (by decide)|exfalso;omega)|apply aI|with_reducible exact vM rfl|exact⟨⟩|apply nM|apply fM)
 all_goals((try apply vM);(try simp only[vq]at*);try omega)
 all_goals(refine Sup.of (congrArg (PV.int .i64) (e1 _ (fun h=>?_) fun h=>?_)))
 all_goals first|rfl|omega|(split<;>omega)|(simp only[if_true,if_false];omega)|(exfalso;omega)|skip
def OU:PSp:=fun xs K=>match xs with
 | [.int .i64 n]=>VC (True)∧K (.int .i64 (jo n))
 |_=>False
theorem aaK:POK Tryz.prog 182 OU:=by
 intro xs K h;unfold OU at h;split at h
 ·exact⟨_,h.2,RU _⟩
 ·exact h.elim
noncomputable def afH:CPT:=aA 123 (aB Eo) noC
theorem aaL:aU Tryz.prog afH:=aj (au KA) aC
theorem RV (q:List Int) (h:q.length≤5000):aF Tryz.prog 184 [.isl (.ints .i64 q) .none] (.bp (decide (gF 5 q=0))):=by
 refine av (md:=1) (rf:=[]) mixed ak aaL Tryz.func184 (by rfl) (by rfl) (by rfl) ?_
 repeat'((conv=>whnf);first|(intro hq;(try simp only[vw]at hq);try first|exact absurd hq (by decide)|exfalso;omega)|apply aI|with_reducible exact vM rfl|exact⟨⟩|apply nM|apply fM)
 all_goals((try apply vM);(try simp only[vq]at*);try omega)
 all_goals first|exact h|exact Sup.of rfl|skip
def OV:PSp:=fun xs K=>match xs with
 | [.isl (.ints .i64 q) .none]=>VC (q.length≤5000)∧K (.bp (decide (gF 5 q=0)))
 |_=>False
theorem aaM:POK Tryz.prog 184 OV:=by
 intro xs K h;unfold OV at h;split at h
 ·exact⟨_,h.2,RV _ h.1.get⟩
 ·exact h.elim
noncomputable def afI:CPT:=aA 181 (aB wJ) (aA 182 (aB OU) (aA 183 (aB eG) (aA 184 (aB OV) noC)))
theorem aaN:aU Tryz.prog afI:=aj (au Dc) (aj (au aaK) (aj (au Gg) (aj (au aaM) aC)))
theorem aaO {p:List Int} (h:p.length≤256):gF 5 p=0∨gF 5 p=14:=by
 unfold gF;rw[if_neg (by omega)]
 unfold cZ;split
 ·rename_i i hi
  have:=List.find?_some hi;unfold nS at*;split
  ·exact .inr rfl
  ·exact .inl rfl
 ·exact .inl rfl
theorem RX (q:List Int) (b:Bool) (n:Int) (h:q.length≤5000):aF Tryz.prog 139 [.agg [.isl (.ints .i64 q) .none,.bp b],.int .i64 n] (.int .i64 (jO q n)):=by
 refine av (md:=1) (rf:=[]) mixed ak aaN Tryz.func139 (by rfl) (by rfl) (by rfl) ?_
 repeat'((conv=>whnf);first|(intro hq;(try simp only[vw]at hq);try first|exact absurd hq (by decide)|exfalso;omega)|apply aI|with_reducible exact vM rfl|exact⟨⟩|apply nM|apply fM)
 all_goals((try apply vM);(try simp only[vq]at*);try omega)
 all_goals(try exact h)
 refine Sup.of (congrArg (PV.int .i64) ?_);unfold jO;have h3:jo n=0∨jo n=3:=by unfold jo;split<;>simp
 have h4:jo n=0→n≤256:=fun e=>by unfold jo at e;split at e<;>omega
 by_cases h1:jo n=0
 ·by_cases h2:(q.length:Int)=n
  ·have:=h4 h1
   rcases aaO (p:=q) (by omega)with e|e<;>simp[aJ,h1,h2,e]
  ·simp[aJ,h1,h2]
 ·have:jo n=3:=by omega
  simp[aJ,this]
def Ev:PSp:=fun xs K=>match xs with
 | [.agg [.isl (.ints .i64 q) .none,.bp b],.int .i64 n]=>VC (q.length≤5000)∧K (.int .i64 (jO q n))
 |_=>False
theorem KY:POK Tryz.prog 139 Ev:=by
 intro xs K h;unfold Ev at h;split at h
 ·exact⟨_,h.2,RX _ _ _ h.1.get⟩
 ·exact h.elim
structure BdL (c:Int) (ls:List (List Int)) (q:List Int):Prop where
 lns:bK ls
 sys:fC c ls=0
 sym:jO q c=0
 c16:1≤c∧c≤16
 ln:∀i,i<ls.length→Tx c (ls.getD i [])
 nd:ls.Nodup
 prm:Prm c.toNat q
theorem BdL.rng {c:Int} {ls:List (List Int)} {q:List Int} (h:BdL c ls q):∀x∈ls,∀y∈x,0≤y∧y<c:=fun x hx y hy=>by
 obtain⟨i,hi,rfl⟩:=agk hx;have:=(h.ln i hi).rng y (by rw[agf,agl hi];exact hy)
 exact this
theorem BdL.ky {c:Int} {ls:List (List Int)} {q:List Int} (h:BdL c ls q):Ih ls:=by
 have hc:=h.c16;refine⟨h.lns.len,fun x hx=>⟨h.lns.all x hx,fun y hy=>by have:=h.rng x hx y hy;omega⟩,?_⟩
 rw[List.Nodup,ajh];refine List.Pairwise.imp_of_mem (fun{x y} hx hy hne e=>hne (key_inj (fun z hz=>?_) (fun z hz=>?_) e)) h.nd
 ·have:=h.rng x hx z hz;omega
 ·have:=h.rng y hy z hz;omega
theorem BdL.lk {c:Int} {ls:List (List Int)} {q:List Int} (h:BdL c ls q) {i:Nat} (hi:i<ls.length):OQ q (ls.getD i []):=by
 have hc:=h.c16;have hl:=h.ln i hi;have hq:=h.prm.ln;refine⟨⟨hl.ne,h.lns.at' i⟩,fun x hx=>by have:=hl.rng x hx;omega,fun y hy=>by have:=h.prm.rg y hy;omega⟩
theorem BdL.has {c:Int} {ls:List (List Int)} {q:List Int} (h:BdL c ls q) {i:Nat} (hi:i<ls.length):strOfNums (bV (mpL q (ls.getD i [])))∈ls.map strOfNums↔bV (mpL q (ls.getD i []))∈ls:=by
 have hc:=h.c16;have hl:=h.ln i hi;have hq:=h.prm.ln;rw[aiT];constructor
 ·rintro⟨l,h1,h2⟩
  have:=key_inj (fun z hz=>by have:=h.rng l h1 z hz;omega) (fun z hz=>by
   have hz:=(Ic _).subset hz;obtain⟨a,ha,rfl⟩:=aiT.1 hz;have h3:=hl.rng a ha;have h4:=h.prm.at (i:=a.toNat) (by omega)
   omega) h2
  rw[←this];exact h1
 ·exact fun h1=>⟨_,h1,rfl⟩
noncomputable def afJ (ks:List ByteArray):CPT:=aA 139 (aB Ev) (aA 153 (aB Gc) (aA 181 (aB wJ) (aA 186 Ii (aA 218 (OT ks) noC))))
theorem aaP (ks:List ByteArray):aU Tryz.prog (afJ ks):=aj (au KY) (aj (au Gd) (aj (au Dc) (aj RS (aj (Vt ks) aC))))
theorem OW (c:Int) (ls:List (List Int)) (q:List Int) (b:Bool) (h:BdL c ls q):aF Tryz.prog 142 [.agg [.int .i64 c,.isl (.rows .i64 ls) .none],.agg [.isl (.ints .i64 q) .none,.bp b]] (.tup [.bp (kpB ls q),.int .i64 0]):=by
 have hc:=h.c16;have hq:=h.prm.ln;have hL:=h.lns;have hll:=hL.len;have hky:=h.ky;have h0:aJ [fC c ls,jO q c]=0:=by rw[h.sys,h.sym];rfl
 have hC:=aaP (ls.map strOfNums);refine av (md:=1) (rf:=[]) mixed ak hC Tryz.func142 (by rfl) (by rfl) (by rfl) ?_
 repeat'((conv=>whnf);first|(intro hq;(try simp only[vw]at hq);try first|exact absurd hq (by decide)|exfalso;omega)|apply aI|with_reducible exact vM rfl|exact⟨⟩|apply nM|apply fM)
 all_goals((try apply vM);(try simp only[vq]at*);try omega)
 conv=>whnf
 refine aM (X:=Nat) (fun i=>i≤ls.length∧∀j,j<i→bV (mpL q (ls.getD j []))∈ls) (fun i=>[(26,.int .i64 i)]) (fun i=>[]) (fun i=>ls.length-i) 0 ⟨aK,mixed,ak,hC,aP⟩ (by rfl) ⟨by omega,fun j hj=>by omega⟩ ?_ ?_
 ·repeat'((conv=>whnf);first|intro _|apply aI|with_reducible exact vM rfl|exact⟨⟩|apply nM|apply fM)
  all_goals((try apply vM);(try simp only[vq]at*);try omega)
  conv=>whnf
  refine jY ?_
  repeat'((conv=>whnf);first|intro _|apply aI|with_reducible exact vM rfl|exact⟨⟩|apply nM|apply fM)
  all_goals((try apply vM);(try simp only[vq]at*);try omega)
  all_goals trace_state
 intro i ⟨hi,hall⟩;by_cases hlt:i<ls.length
 ·have hlk:=h.lk hlt
  have hhas:=h.has hlt;obtain⟨bb,hbb⟩:∃bb:Bool,(bb=true↔strOfNums (bV ((ls.getD i []).map fun a=>q.getD a.toNat 0))∈ls.map strOfNums):=by
   by_cases e:strOfNums (bV ((ls.getD i []).map fun a=>q.getD a.toNat 0))∈ls.map strOfNums
   ·exact⟨true,⟨fun _=>e,fun _=>rfl⟩⟩
   ·exact⟨false,⟨fun h=>by simp at h,fun h=>absurd h e⟩⟩
  repeat'((conv=>whnf);first|refine Exists.intro (bb) ?_|(intro hq;(try simp only[vw]at hq);try first|exact absurd hq (by decide)|exfalso;omega)|apply aI|with_reducible exact vM rfl|exact⟨⟩|apply nM|apply fM)
  all_goals((try apply vM);(try simp only[vq]at*);try omega)
  ·exact⟨hlk,hbb⟩
  ·rw[Dl hlt (fun hm=>by have:=hbb.2 (hhas.2 hm);rw[hq]at this;cases this)]
   all_goals(refine Sup.via ?_;repeat'((conv=>whnf);first|intro _|apply aI|with_reducible exact vM rfl|exact⟨⟩|apply nM|apply fM);all_goals((try apply vM);(try simp only[vq]at*);try omega);all_goals(try(simp[CL.sub];done)))
  ·refine⟨i+1,[],⟨⟨by omega,fun j hj=>?_⟩,by omega⟩,?_⟩
   ·by_cases e:j=i
    ·rw[e];exact hhas.1 (hbb.1 hq)
    ·exact hall j (by omega)
   repeat'((conv=>whnf);first|intro _|apply aI|with_reducible exact vM rfl|exact⟨⟩|apply nM|apply fM)
   all_goals((try apply vM);(try simp only[vq]at*);try omega)
   conv=>whnf
   refine jY ?_
   repeat'((conv=>whnf);first|intro _|apply aI|with_reducible exact vM rfl|exact⟨⟩|apply nM|apply fM)
   all_goals((try apply vM);(try simp only[vq]at*);try omega)
   all_goals trace_state
 ·have e:i=ls.length:=by omega
  subst e;rw[Ie hall]
  repeat'((conv=>whnf);first|(intro hq;(try simp only[vw]at hq);try first|exact absurd hq (by decide)|exfalso;omega)|apply aI|with_reducible exact vM rfl|exact⟨⟩|apply nM|apply fM)
  all_goals((try apply vM);(try simp only[vq]at*);try omega)
  all_goals(refine Sup.via ?_;repeat'((conv=>whnf);first|intro _|apply aI|with_reducible exact vM rfl|exact⟨⟩|apply nM|apply fM);all_goals((try apply vM);(try simp only[vq]at*);try omega);all_goals(try(simp[CL.sub];done)))
def Ij:PSp:=fun xs K=>match xs with
 | [.agg [.int .i64 c,.isl (.rows .i64 ls) .none],.agg [.isl (.ints .i64 q) .none,.bp b]]=>VC (BdL c ls q)∧K (.tup [.bp (kpB ls q),.int .i64 0])
 |_=>False
theorem Vu:POK Tryz.prog 142 Ij:=by
 intro xs K h;unfold Ij at h;split at h
 ·exact⟨_,h.2,OW _ _ _ _ h.1.get⟩
 ·exact h.elim
theorem RY (n:Int) (x:List Int):aF Tryz.prog 141 ([]++[.isl (.ints .i64 x) .none]++[.ip (.pv [.int .i64 n]) 0]) (.bp (decide ((x.length:Int)≠n))):=by
 refine av (md:=1) (rf:=[]) mixed ak aC Tryz.func141 (by rfl) (by rfl) (by rfl) ?_
 repeat'((conv=>whnf);first|(intro hq;(try simp only[vw]at hq);try first|exact absurd hq (by decide)|exfalso;omega)|apply aI|with_reducible exact vM rfl|exact⟨⟩|apply nM|apply fM)
 all_goals((try apply vM);(try simp only[vq]at*);try omega)
 all_goals exact Sup.of rfl
theorem aaQ (ls:List (List Int)):ls.any (fun x=>decide ((x.length:Int)≠((ls.getD 0 []).length:Int)))=!gQ ls:=by
 unfold gQ;rw[List.not_all_eq_any_not];congr 1
 funext x
 rw[decide_not];congr 2;exact propext Int.natCast_inj
def Vv:LSp:=fun xs objs K=>match xs,objs with
 | [.agg [.int .i64 c,.isl (.rows .i64 ls) .none,.int .i64 sum,.isl (.ints .i64 gv) .none]],[]=>VC ((1≤gv.length∧gv.length≤1000000)∧ls.length≤5000∧∀i,i<ls.length→1≤(ls.getD i []).length∧(ls.getD i []).length≤5000)∧K [.agg [.int .i64 c,.isl (.rows .i64 ls) .none,.int .i64 sum,.rsl 0 0 gv.length]] [.cells (.ints .i64 gv) false]
 |_,_=>False
theorem aaR:LOK Tryz.prog 124 Vv:=by
 intro xs objs K hk;unfold Vv at hk;split at hk
 ·exact⟨_,_,hk.2,xA _ _ _ _ hk.1.get.1 hk.1.get.2.1 hk.1.get.2.2⟩
 ·exact hk.elim
def Ik (p:PSp) (u:PV):PSp:=fun xs K=>p xs (fun v=>VC (Sup v u))∧K u
theorem Ac {g:FuncId} {p:PSp} (h:POK Tryz.prog g p) (u:PV):POK Tryz.prog g (Ik p u):=by
 intro xs K hk;obtain⟨v,hv,hp⟩:=h _ _ hk.1;exact⟨u,hk.2,fK hp hv.get⟩
theorem qY {a b:Bool} (h:a=b):Sup (.bp a) (.bool b):=⟨fun hr=>by cases hr;subst h;exact .bool _ _⟩
theorem vQ (e:Int):Sup (bE [PV.agg [.int .i64 0,.nils,.int .i64 0,.nils],.int .i64 e]) (.tup [pzT (0,[],0,[]),.int .i64 e]):=by all_goals(refine Sup.via ?_;repeat'((conv=>whnf);first|intro _|apply aI|with_reducible exact vM rfl|exact⟨⟩|apply nM|apply fM);all_goals((try apply vM);(try simp only[vq]at*);try omega);all_goals(try(simp[CL.sub];done)))
def Vw:PSp:=fun xs K=>match xs with
 | [.isl (.rows .i64 l) .none,.fn (.func f) [] [.ip (.pv [.int .i64 n]) 0]]=>VC (f=141∧l.length≤2000000)∧K (.bp (l.any fun x=>decide ((x.length:Int)≠n)))
 |_=>False
theorem adJ:POK Tryz.prog 140 Vw:=by
 intro xs K hk;unfold Vw at hk;split at hk
 ·obtain⟨⟨rfl,h1⟩,hk⟩:=hk
  exact⟨_,hk,Db _ h1 141 [] _ rfl rfl _ fun x _=>RY _ x⟩
 ·exact hk.elim
noncomputable def vR (w sy:Int) (lv kb:Bool):CPT:=aA 22 (aB (Ik lS (.int .i64 w))) (aA 88 (aB jf) (aA 89 (aB eG) (aA 124 (dV [] Vv) (aA 139 (aB (Ik Ev (.int .i64 sy))) (aA 140 (aB (Ik Vw (.bool lv))) (aA 142 (aB (Ik Ij (.tup [.bool kb,.int .i64 0]))) noC))))))
theorem mU (w sy:Int) (lv kb:Bool):aU Tryz.prog (vR w sy lv kb):=aj (au (Ac kS (.int .i64 w))) (aj (au iI) (aj (au iR) (aj (dh [] aaR) (aj (au (Ac KY (.int .i64 sy))) (aj (au (Ac adJ (.bool lv))) (aj (au (Ac Vu (.tup [.bool kb,.int .i64 0]))) aC))))))
section
variable {c:Int} {ls:List (List Int)} {sum:Int} {gv q:List Int}
theorem aes (hL:bK ls) (hg:gv.length≤5000) (b:Bool) {w:Int} (hw:pzE c ls sum gv=w) (h0:w≠0):aF Tryz.prog 79 [pzV c ls sum gv,.agg [.isl (.ints .i64 q) .none,.bp b]] (.tup [pzT (0,[],0,[]),.int .i64 w]):=by
 refine bF (md:=1) (rf:=[]) mixed ak (mU w 0 true true) Tryz.func79 (by rfl) (by rfl) (by rfl) ?_
 unfold vR
 repeat'((conv=>whnf);first|(intro hq;(try simp only[vw]at hq);try first|exact absurd hq (by decide)|exfalso;omega)|apply aI|with_reducible exact vM rfl|exact⟨⟩|apply nM|apply fM)
 all_goals((try apply vM);(try simp only[vq]at*);try omega)
 all_goals first|exact⟨hL,hg⟩|exact Sup.of (by rw[hw])|exact vQ w|(exfalso;omega)|skip
theorem aeu (hL:bK ls) (hg:gv.length≤5000) (b:Bool) (hw:pzE c ls sum gv=0) (hq5:q.length≤5000) {w:Int} (hs:jO q c=w) (h0:w≠0):aF Tryz.prog 79 [pzV c ls sum gv,.agg [.isl (.ints .i64 q) .none,.bp b]] (.tup [pzT (0,[],0,[]),.int .i64 w]):=by
 refine bF (md:=1) (rf:=[]) mixed ak (mU 0 w true true) Tryz.func79 (by rfl) (by rfl) (by rfl) ?_
 unfold vR
 repeat'((conv=>whnf);first|(intro hq;(try simp only[vw]at hq);try first|exact absurd hq (by decide)|exfalso;omega)|apply aI|with_reducible exact vM rfl|exact⟨⟩|apply nM|apply fM)
 all_goals((try apply vM);(try simp only[vq]at*);try omega)
 all_goals first|exact⟨hL,hg⟩|exact hq5|exact Sup.of (by rw[hw])|exact Sup.of (by rw[hs])|exact vQ w|(exfalso;omega)|skip
structure ImD (c:Int) (ls:List (List Int)) (sum:Int) (gv q:List Int):Prop where
 L:bK ls
 w:pzE c ls sum gv=0
 s:jO q c=0
 p:dF c ls sum gv
 B:BdL c ls q
 q:Prm gv.length q
theorem vS (ls:List (List Int)):(ls.any fun x=>decide ((x.length:Int)≠((ls.getD (aiw 0) []).length:Int)))=!gQ ls:=aaQ ls
theorem qZ {a b:Bool} {p:PV} (h:a=b):Sup (.tup [.bp a,p]) (.tup [.bool b,p]):=wM rfl fun i hi=>by
 obtain rfl|rfl:i=0∨i=1:=by simp at hi;omega
 ·exact qY h
 ·exact dw _
theorem afK (h:ImD c ls sum gv q) (b:Bool) (hkb:kpB ls q=false):aF Tryz.prog 79 [pzV c ls sum gv,.agg [.isl (.ints .i64 q) .none,.bp b]] (.tup [pzT (0,[],0,[]),.int .i64 7]):=by
 have hc:=h.p.c1;have hll:=h.p.ll;have hgl:=h.p.gl;have hql:=h.q.ln;have hsm:=h.p.sm;have hg5:gv.length≤5000:=by omega
 have hq5:q.length≤5000:=by omega
 have hl2:ls.length≤2000000:=by omega
 have hln:=(h.p.ln 0 (by omega)).len
 obtain⟨lv,hlv⟩:∃lv,(!gQ ls)=lv:=⟨_,rfl⟩;refine bF (md:=1) (rf:=[]) mixed ak (mU 0 0 lv false) Tryz.func79 (by rfl) (by rfl) (by rfl) ?_
 unfold vR
 repeat'((conv=>whnf);first|(intro hq;(try simp only[vw]at hq);try first|exact absurd hq (by decide)|exfalso;omega)|apply aI|with_reducible exact vM rfl|exact⟨⟩|apply nM|apply fM)
 all_goals((try apply vM);(try simp only[vq]at*);try omega)
 all_goals(try first|exact⟨h.L,hg5⟩|exact hq5|exact Sup.of (by rw[h.w])|exact Sup.of (by rw[h.s])|exact hl2|exact h.B|exact qZ hkb|exact qY ((vS ls).trans hlv)|exact hcy|omega)
 all_goals exact vQ 7
theorem afL (h:ImD c ls sum gv q) (hkb:kpB ls q=true) (hlv0:gQ ls=false):aF Tryz.prog 79 [pzV c ls sum gv,.agg [.isl (.ints .i64 q) .none,.bp true]] (.tup [pzT (0,[],0,[]),.int .i64 7]):=by
 have hc:=h.p.c1;have hll:=h.p.ll;have hgl:=h.p.gl;have hql:=h.q.ln;have hsm:=h.p.sm;have hg5:gv.length≤5000:=by omega
 have hq5:q.length≤5000:=by omega
 have hl2:ls.length≤2000000:=by omega
 have hln:=(h.p.ln 0 (by omega)).len
 have hlv:(!gQ ls)=true:=by rw[hlv0];rfl
 refine bF (md:=1) (rf:=[]) mixed ak (mU 0 0 true true) Tryz.func79 (by rfl) (by rfl) (by rfl) ?_
 unfold vR
 repeat'((conv=>whnf);first|(intro hq;(try simp only[vw]at hq);try first|exact absurd hq (by decide)|exfalso;omega)|apply aI|with_reducible exact vM rfl|exact⟨⟩|apply nM|apply fM)
 all_goals((try apply vM);(try simp only[vq]at*);try omega)
 all_goals(try first|exact⟨h.L,hg5⟩|exact hq5|exact Sup.of (by rw[h.w])|exact Sup.of (by rw[h.s])|exact hl2|exact h.B|exact qZ hkb|exact qY ((vS ls).trans hlv)|exact hcy|omega)
 all_goals exact vQ 7
theorem afM (h:ImD c ls sum gv q) (hkb:kpB ls q=true) (hlv0:gQ ls=true) (hs:((ls.getD 0 []).length:Int)*(c+1)-sum< -999999999∨999999999<((ls.getD 0 []).length:Int)*(c+1)-sum):aF Tryz.prog 79 [pzV c ls sum gv,.agg [.isl (.ints .i64 q) .none,.bp true]] (.tup [pzT (0,[],0,[]),.int .i64 3]):=by
 have hc:=h.p.c1;have hll:=h.p.ll;have hgl:=h.p.gl;have hql:=h.q.ln;have hsm:=h.p.sm;have hg5:gv.length≤5000:=by omega
 have hq5:q.length≤5000:=by omega
 have hl2:ls.length≤2000000:=by omega
 have hln:=(h.p.ln 0 (by omega)).len
 have hcy:(1≤gv.length∧gv.length≤1000000)∧ls.length≤5000∧∀i,i<ls.length→1≤(ls.getD i []).length∧(ls.getD i []).length≤5000:=⟨by omega,by omega,fun i hi=>by have:=h.p.ln i hi;exact⟨this.ne,h.L.at' i⟩⟩
 have hM:0≤((ls.getD 0 []).length:Int)*(c+1)∧((ls.getD 0 []).length:Int)*(c+1)≤272:=by
  have h1:((ls.getD 0 []).length:Int)*(c+1)≤16*17:=ajy (by omega) (by omega) (by omega) (by omega)
  have h2:0≤((ls.getD 0 []).length:Int)*(c+1):=ajz (by omega) (by omega)
  omega
 have hM':0≤((ls.getD (aiw 0) []).length:Int)*(c+1)∧((ls.getD (aiw 0) []).length:Int)*(c+1)≤272:=hM;have hs':((ls.getD (aiw 0) []).length:Int)*(c+1)-sum< -999999999∨999999999<((ls.getD (aiw 0) []).length:Int)*(c+1)-sum:=hs;have hlv:(!gQ ls)=false:=by rw[hlv0];rfl
 refine bF (md:=1) (rf:=[]) mixed ak (mU 0 0 false true) Tryz.func79 (by rfl) (by rfl) (by rfl) ?_
 unfold vR
 repeat'((conv=>whnf);first|(intro hq;(try simp only[vw]at hq);try first|exact absurd hq (by decide)|exfalso;omega)|apply aI|with_reducible exact vM rfl|exact⟨⟩|apply nM|apply fM)
 all_goals((try apply vM);(try simp only[vq]at*);try omega)
 all_goals(try first|exact⟨h.L,hg5⟩|exact hq5|exact Sup.of (by rw[h.w])|exact Sup.of (by rw[h.s])|exact hl2|exact h.B|exact qZ hkb|exact qY ((vS ls).trans hlv)|exact hcy|omega)
 all_goals exact vQ 3
end
end Go.Eng.YtcechbdgokjmgaaGreatDoor
namespace Go.Eng
open Go.RowKit
set_option linter.unusedSimpArgs false
set_option linter.unusedVariables false
def adK (f:Nat→Bool):Nat→Env→Env
 |_,[]=>[]
 |i,v::r=>(match f i with|true=>.any|false=>v)::adK f (i+1) r
def stX (c:Code) (f:Nat→Bool) (env:Env) (us:List (Nat × PV)):Env:=SG (adK f 0 (SF 0 env (dstsOf c))) us
def btw (a b i:Nat):Bool:=match agp a i with|true=>agp i b|false=>false
section
variable {P:Program} {r:Option Nat} {τ:TypeId→Option TE} {B:Imm→World→Prop} {p:Nat}
theorem tq {X:Type} (f:Nat→Bool) (I:X→Prop) (us:X→List (Nat × PV)) (hs:X→List (Nat × AO)) (μ:X→Nat) (x0:X) {md rf CP YP} (W:Walk P r B τ CP YP)
 {c:Code} {n:Nat} {Q:Exit→Env→Hp→Prop} {env:Env} {H:Hp} (hok:dB c=true) (hI:I x0)
 (h0:eH (hs x0) H fun H1=>bJ (stX c f env (us x0)) fun env1=>fq (jD [] H 0 H1) fun σ=>lM σ p env H env1 H1 Ok)
 (hb:∀x,I x→eH (hs x) H fun H1=>bJ (stX c f env (us x)) fun env1=>ev P r B p τ md rf CP YP c n env1 H1 fun e env' H' _=>match e with
  |.normal=>Nx (∃(x':X) (extra:Sg),(I x'∧μ x'<μ x)∧eH (hs x') H fun H1=>bJ (stX c f env (us x')) fun env1=>fq (jD extra H' 0 H1) fun σ=>lM σ p env' H' env1 H1 Ok)
  |e=>Q e env' H'):Lp md rf CP YP n (AW P r B p (.loop c) Q env H):=by
 refine⟨Av (X:={x:X // I x}) (fun x=>(stX c f env (us x.1),aX H (hs x.1))) (fun x=>μ x.1) ⟨x0,hI⟩ ?_ fun x=>?_⟩
 ·simp only[eY,aY,eB]at h0
  exact(fF h0).2
 ·have h:=hb x.1 x.2
  simp only[eY,aY,eB]at h;refine(gM W.hB W.hm W.hτ W.hC W.hY c hok _ _ _ _ h).mono ?_
  rintro e env' H' ⟨_,h⟩
  cases e with
  |normal=>
   obtain⟨x',extra,⟨h0,h1⟩,h2⟩:=h.get;exact⟨⟨x',h0⟩,h1,(fF h2).2⟩
  |_=>exact h
end
end Go.Eng
namespace Go.Eng.YtcechbdgokjmgaaGreatDoor
open Go.Proofs
set_option linter.unusedSimpArgs false
set_option linter.unusedVariables false
set_option maxHeartbeats 0
set_option maxRecDepth 100000
section
variable {c:Int} {ls:List (List Int)} {sum:Int} {gv q:List Int}
theorem afN (h:ImD c ls sum gv q) (hkb:kpB ls q=true):aF Tryz.prog 79 [pzV c ls sum gv,.agg [.isl (.ints .i64 q) .none,.bp false]] (.tup [pzT (c,ls,sum,imG c false gv q),.int .i64 0]):=by
 have hc:=h.p.c1;have hll:=h.p.ll;have hgl:=h.p.gl;have hql:=h.q.ln;have hsm:=h.p.sm;have hg5:gv.length≤5000:=by omega
 have hq5:q.length≤5000:=by omega
 have hl2:ls.length≤2000000:=by omega
 have hln:=(h.p.ln 0 (by omega)).len
 have hcy:(1≤gv.length∧gv.length≤1000000)∧ls.length≤5000∧∀i,i<ls.length→1≤(ls.getD i []).length∧(ls.getD i []).length≤5000:=⟨by omega,by omega,fun i hi=>by have:=h.p.ln i hi;exact⟨this.ne,h.L.at' i⟩⟩
 obtain⟨lv,hlv⟩:∃lv,(!gQ ls)=lv:=⟨_,rfl⟩;have hC:=mU 0 0 lv true;refine bF (md:=1) (rf:=[]) mixed ak hC Tryz.func79 (by rfl) (by rfl) (by rfl) ?_
 unfold vR
 repeat'((conv=>whnf);first|(intro hq;(try simp only[vw]at hq);try first|exact absurd hq (by decide)|exfalso;omega)|apply aI|with_reducible exact vM rfl|exact⟨⟩|apply nM|apply fM)
 all_goals((try apply vM);(try simp only[vq]at*);try omega)
 all_goals(try first|exact⟨h.L,hg5⟩|exact hq5|exact Sup.of (by rw[h.w])|exact Sup.of (by rw[h.s])|exact hl2|exact h.B|exact qZ hkb|exact qY ((vS ls).trans hlv)|exact hcy|omega)
 obtain⟨Z,hZ⟩:∃Z:Nat→List Int,∀i,Z i=mR (fun i=>gvX c false (gv.getD i 0)) q i gv:=⟨_,fun _=>rfl⟩;have hZ0:Z 0=gv:=hZ 0;conv=>whnf
 refine tq (X:=Nat) (fun k=>btw 7 13 k||btw 17 88 k) (fun i=>i≤gv.length) (fun i=>[(92,.int .i64 i)]) (fun i=>[(29,.cells (.ints .i64 (Z i)) false)]) (fun i=>gv.length-i) 0 ⟨aK,mixed,ak,hC,aP⟩ (by rfl) (by omega) ?_ ?_
 ·repeat'((conv=>whnf);first|intro _|apply aI|with_reducible exact vM rfl|exact⟨⟩|apply nM|apply fM)
  all_goals((try apply vM);(try simp only[vq]at*);try omega)
  all_goals(rw[hZ0])
 intro i hi;have hGl:(Z i).length=gv.length:=by rw[hZ,jP]
 by_cases hlt:i<gv.length
 ·have hx:=h.q.at hlt
  have hg0:=h.p.gr (gv.getD i 0) (gu hlt);have hn:Z (i+1)=(Z i).set (q.getD i 0).toNat (gvX c false (gv.getD i 0)):=by rw[hZ,hZ,lD]
  by_cases hpos:0<gv.getD i 0
  ·have f1:gvX c false (gv.getD i 0)=gv.getD i 0:=by unfold gvX;first|rw[if_pos ⟨hpos,rfl⟩]|rw[if_neg (by simp)]
   repeat'((conv=>whnf);first|(intro hq;(try simp only[vw]at hq);try first|exact absurd hq (by decide)|exfalso;omega)|apply aI|with_reducible exact vM rfl|exact⟨⟩|apply nM|apply fM)
   all_goals((try apply vM);(try simp only[vq]at*);try omega)
   all_goals(try omega)
   refine⟨i+1,[],⟨by omega,by omega⟩,?_⟩
   rw[hn,f1]
   repeat'((conv=>whnf);first|intro _|apply aI|with_reducible exact vM rfl|exact⟨⟩|apply nM|apply fM)
   all_goals((try apply vM);(try simp only[vq]at*);try omega)
  ·have f2:gvX c false (gv.getD i 0)=gv.getD i 0:=by unfold gvX;rw[if_neg (fun e=>hpos e.1)]
   repeat'((conv=>whnf);first|(intro hq;(try simp only[vw]at hq);try first|exact absurd hq (by decide)|exfalso;omega)|apply aI|with_reducible exact vM rfl|exact⟨⟩|apply nM|apply fM)
   all_goals((try apply vM);(try simp only[vq]at*);try omega)
   all_goals(try omega)
   refine⟨i+1,[],⟨by omega,by omega⟩,?_⟩
   rw[hn,f2]
   repeat'((conv=>whnf);first|intro _|apply aI|with_reducible exact vM rfl|exact⟨⟩|apply nM|apply fM)
   all_goals((try apply vM);(try simp only[vq]at*);try omega)
 ·have e:i=gv.length:=by omega
  subst e;have hG2:imG c false gv q=Z gv.length:=by rw[hZ];exact KT h.q (by rw[aji]) rfl
  rw[hG2];have s2:(CL.ints .i64 (Z gv.length)).sub 0 gv.length=.ints .i64 (Z gv.length):=congrArg (CL.ints .i64) (cK (by omega))
  repeat'((conv=>whnf);first|(intro hq;(try simp only[vw]at hq);try first|exact absurd hq (by decide)|exfalso;omega)|apply aI|with_reducible exact vM rfl|exact⟨⟩|apply nM|apply fM)
  all_goals((try apply vM);(try simp only[vq]at*);try omega)
  all_goals(try rw[s2])
  all_goals first|exact Sup.of rfl|skip
theorem afO (h:ImD c ls sum gv q) (hkb:kpB ls q=true) (hlv0:gQ ls=true) (S:Int) (hS:((ls.getD 0 []).length:Int)*(c+1)-sum=S) (hs: -999999999≤S∧S≤999999999):aF Tryz.prog 79 [pzV c ls sum gv,.agg [.isl (.ints .i64 q) .none,.bp true]] (.tup [pzT (c,ls,S,imG c true gv q),.int .i64 0]):=by
 have hc:=h.p.c1;have hll:=h.p.ll;have hgl:=h.p.gl;have hql:=h.q.ln;have hsm:=h.p.sm;have hg5:gv.length≤5000:=by omega
 have hq5:q.length≤5000:=by omega
 have hl2:ls.length≤2000000:=by omega
 have hln:=(h.p.ln 0 (by omega)).len
 have hcy:(1≤gv.length∧gv.length≤1000000)∧ls.length≤5000∧∀i,i<ls.length→1≤(ls.getD i []).length∧(ls.getD i []).length≤5000:=⟨by omega,by omega,fun i hi=>by have:=h.p.ln i hi;exact⟨this.ne,h.L.at' i⟩⟩
 have hM:0≤((ls.getD 0 []).length:Int)*(c+1)∧((ls.getD 0 []).length:Int)*(c+1)≤272:=by
  have h1:((ls.getD 0 []).length:Int)*(c+1)≤16*17:=ajy (by omega) (by omega) (by omega) (by omega)
  have h2:0≤((ls.getD 0 []).length:Int)*(c+1):=ajz (by omega) (by omega)
  omega
 have hM':0≤((ls.getD (aiw 0) []).length:Int)*(c+1)∧((ls.getD (aiw 0) []).length:Int)*(c+1)≤272:=hM;have hlv:(!gQ ls)=false:=by rw[hlv0];rfl
 have hS':((ls.getD (aiw 0) []).length:Int)*(c+1)-sum=S:=hS;have hC:=mU 0 0 false true;refine bF (md:=1) (rf:=[]) mixed ak hC Tryz.func79 (by rfl) (by rfl) (by rfl) ?_
 unfold vR
 repeat'((conv=>whnf);first|(intro hq;(try simp only[vw]at hq);try first|exact absurd hq (by decide)|exfalso;omega)|apply aI|with_reducible exact vM rfl|exact⟨⟩|apply nM|apply fM)
 all_goals((try apply vM);(try simp only[vq]at*);try omega)
 all_goals(try first|exact⟨h.L,hg5⟩|exact hq5|exact Sup.of (by rw[h.w])|exact Sup.of (by rw[h.s])|exact hl2|exact h.B|exact qZ hkb|exact qY ((vS ls).trans hlv)|exact hcy|omega)
 rw[hS'];obtain⟨Z,hZ⟩:∃Z:Nat→List Int,∀i,Z i=mR (fun i=>gvX c true (gv.getD i 0)) q i gv:=⟨_,fun _=>rfl⟩;have hZ0:Z 0=gv:=hZ 0;conv=>whnf
 refine tq (X:=Nat) (fun k=>btw 7 13 k||btw 17 88 k) (fun i=>i≤gv.length) (fun i=>[(92,.int .i64 i)]) (fun i=>[(29,.cells (.ints .i64 (Z i)) false)]) (fun i=>gv.length-i) 0 ⟨aK,mixed,ak,hC,aP⟩ (by rfl) (by omega) ?_ ?_
 ·repeat'((conv=>whnf);first|intro _|apply aI|with_reducible exact vM rfl|exact⟨⟩|apply nM|apply fM)
  all_goals((try apply vM);(try simp only[vq]at*);try omega)
  all_goals(rw[hZ0])
 intro i hi;have hGl:(Z i).length=gv.length:=by rw[hZ,jP]
 by_cases hlt:i<gv.length
 ·have hx:=h.q.at hlt
  have hg0:=h.p.gr (gv.getD i 0) (gu hlt);have hn:Z (i+1)=(Z i).set (q.getD i 0).toNat (gvX c true (gv.getD i 0)):=by rw[hZ,hZ,lD]
  by_cases hpos:0<gv.getD i 0
  ·have f1:gvX c true (gv.getD i 0)=c+1-gv.getD i 0:=by unfold gvX;first|rw[if_pos ⟨hpos,rfl⟩]|rw[if_neg (by simp)]
   repeat'((conv=>whnf);first|(intro hq;(try simp only[vw]at hq);try first|exact absurd hq (by decide)|exfalso;omega)|apply aI|with_reducible exact vM rfl|exact⟨⟩|apply nM|apply fM)
   all_goals((try apply vM);(try simp only[vq]at*);try omega)
   all_goals(try omega)
   refine⟨i+1,[],⟨by omega,by omega⟩,?_⟩
   rw[hn,f1]
   repeat'((conv=>whnf);first|intro _|apply aI|with_reducible exact vM rfl|exact⟨⟩|apply nM|apply fM)
   all_goals((try apply vM);(try simp only[vq]at*);try omega)
  ·have f2:gvX c true (gv.getD i 0)=gv.getD i 0:=by unfold gvX;rw[if_neg (fun e=>hpos e.1)]
   repeat'((conv=>whnf);first|(intro hq;(try simp only[vw]at hq);try first|exact absurd hq (by decide)|exfalso;omega)|apply aI|with_reducible exact vM rfl|exact⟨⟩|apply nM|apply fM)
   all_goals((try apply vM);(try simp only[vq]at*);try omega)
   all_goals(try omega)
   refine⟨i+1,[],⟨by omega,by omega⟩,?_⟩
   rw[hn,f2]
   repeat'((conv=>whnf);first|intro _|apply aI|with_reducible exact vM rfl|exact⟨⟩|apply nM|apply fM)
   all_goals((try apply vM);(try simp only[vq]at*);try omega)
 ·have e:i=gv.length:=by omega
  subst e;have hG2:imG c true gv q=Z gv.length:=by rw[hZ];exact KT h.q (by rw[aji]) rfl
  rw[hG2];have s2:(CL.ints .i64 (Z gv.length)).sub 0 gv.length=.ints .i64 (Z gv.length):=congrArg (CL.ints .i64) (cK (by omega))
  repeat'((conv=>whnf);first|(intro hq;(try simp only[vw]at hq);try first|exact absurd hq (by decide)|exfalso;omega)|apply aI|with_reducible exact vM rfl|exact⟨⟩|apply nM|apply fM)
  all_goals((try apply vM);(try simp only[vq]at*);try omega)
  all_goals(try rw[s2])
  all_goals first|exact Sup.of rfl|skip
end
theorem OX (c:Int) (ls:List (List Int)) (sum:Int) (gv q:List Int) (b:Bool) (hL:bK ls) (hg:gv.length≤5000) (hq5:q.length≤5000):aF Tryz.prog 79 [pzV c ls sum gv,.agg [.isl (.ints .i64 q) .none,.bp b]] (.tup [pzT (jq c ls sum gv q b).1,.int .i64 (jq c ls sum gv q b).2]):=by
 by_cases hw:pzE c ls sum gv=0
 case neg=>
  have e:jq c ls sum gv q b=((0,[],0,[]),pzE c ls sum gv):=if_pos hw;rw[e];exact aes hL hg b rfl hw
 by_cases hsy:jO q c=0
 case neg=>
  have e:jq c ls sum gv q b=((0,[],0,[]),jO q c):=by unfold jq;rw[if_neg (by rw[hw];simp),if_pos hsy]
  rw[e];exact aeu hL hg b hw hq5 rfl hsy
 have hp:=dF.of hw;have hc:=hp.c1;have hgl:=hp.gl;have hsm:=hp.sm;obtain⟨hq,_,_,_⟩:=Ig hsy;have hbr:=adG hw;have h:ImD c ls sum gv q:=⟨hL,hw,hsy,hp,⟨hL,KU hbr,hsy,hc,hp.ln,adF hbr,hq⟩,by rw[show gv.length=c.toNat by omega];exact hq⟩
 have hR:jq c ls sum gv q b=if imE c ls sum q b≠0 then((0,[],0,[]),imE c ls sum q b)else((c,ls,smI c ls sum b,imG c b gv q),0):=by unfold jq;rw[if_neg (by rw[hw];simp),if_neg (by rw[hsy];simp)]
 have hbad:∀e,imE c ls sum q b=e→e≠0→jq c ls sum gv q b=((0,[],0,[]),e):=fun e h1 h2=>by rw[hR,if_pos (by rw[h1];exact h2),h1]
 have hgood:imE c ls sum q b=0→jq c ls sum gv q b=((c,ls,smI c ls sum b,imG c b gv q),0):=fun h1=>by rw[hR,if_neg (by rw[h1];simp)]
 cases hkb:kpB ls q with
 |false=>
  rw[hbad 7 (by unfold imE;rw[if_pos (.inl hkb)]) (by decide)]
  exact afK h b hkb
 |true=>
 cases b with
 |false=>
  have hs:smI c ls sum false=sum:=rfl;rw[hgood (by unfold imE;rw[if_neg (by rw[hkb];simp),hs,if_neg (by omega)]),hs]
  exact afN h hkb
 |true=>
 cases hlv:gQ ls with
 |false=>
  rw[hbad 7 (by unfold imE;rw[if_pos (.inr ⟨rfl,hlv⟩)]) (by decide)]
  exact afL h hkb hlv
 |true=>
 have hs:smI c ls sum true=((ls.getD 0 []).length:Int)*(c+1)-sum:=rfl;by_cases ho:((ls.getD 0 []).length:Int)*(c+1)-sum< -999999999∨999999999<((ls.getD 0 []).length:Int)*(c+1)-sum
 ·rw[hbad 3 (by unfold imE;rw[if_neg (by rw[hkb,hlv];simp),hs,if_pos ho]) (by decide)]
  exact afM h hkb hlv ho
 ·rw[hgood (by unfold imE;rw[if_neg (by rw[hkb,hlv];simp),hs,if_neg ho]),hs]
  exact afO h hkb hlv _ rfl (by omega)
def Vx:PSp:=fun xs K=>match xs with
 | [.agg [.int .i64 c,.isl (.rows .i64 ls) .none,.int .i64 sum,.isl (.ints .i64 gv) .none],.agg [.isl (.ints .i64 q) .none,.bp b]]=>VC (bK ls∧gv.length≤5000∧q.length≤5000)∧K (.tup [pzT (jq c ls sum gv q b).1,.int .i64 (jq c ls sum gv q b).2])
 |_=>False
theorem adL:POK Tryz.prog 79 Vx:=by
 intro xs K h;unfold Vx at h;split at h
 ·exact⟨_,h.2,OX _ _ _ _ _ _ h.1.get.1 h.1.get.2.1 h.1.get.2.2⟩
 ·exact h.elim
def Il:PSp:=fun xs K=>match xs with
 | [.isl (.ints .i64 p) .none,.isl (.ints .i64 line) .none]=>VC (line.length≤5000∧∀x∈line,0≤x∧x<p.length)∧K (.isl (.ints .i64 (lX p line line.length)) .none)
 |_=>False
theorem Vy:POK Tryz.prog 187 Il:=by
 intro xs K h;unfold Il at h;split at h
 ·exact⟨_,h.2,OI _ _ h.1.get.1 h.1.get.2⟩
 ·exact h.elim
noncomputable def afP:CPT:=aA 36 (aB lg) (aA 187 (aB Il) noC)
theorem Cj:aU Tryz.prog afP:=aj (au ng) (aj (au Vy) aC)
theorem OY (c:Int) (ls:List (List Int)) (q:List Int) (hl:ls.length≤1000000) (h:∀i,i<ls.length→(ls.getD i []).length≤5000∧∀x∈ls.getD i [],0≤x∧x<q.length):aF Tryz.prog 144 [.agg [.int .i64 c,.isl (.rows .i64 ls) .none],.isl (.ints .i64 q) .none] (.bp (kpB ls q)):=by
 refine av (md:=1) (rf:=[]) mixed ak Cj Tryz.func144 (by rfl) (by rfl) (by rfl) ?_
 repeat'((conv=>whnf);first|(intro hq;(try simp only[vw]at hq);try first|exact absurd hq (by decide)|exfalso;omega)|apply aI|with_reducible exact vM rfl|exact⟨⟩|apply nM|apply fM)
 all_goals((try apply vM);(try simp only[vq]at*);try omega)
 conv=>whnf
 refine aM (X:=Nat) (fun i=>i≤ls.length∧∀j,j<i→bV (mpL q (ls.getD j []))∈ls) (fun i=>[(5,.int .i64 i)]) (fun i=>[]) (fun i=>ls.length-i) 0 ⟨aK,mixed,ak,Cj,aP⟩ (by rfl) ⟨by omega,fun j hj=>by omega⟩ ?_ ?_
 ·repeat'((conv=>whnf);first|intro _|apply aI|with_reducible exact vM rfl|exact⟨⟩|apply nM|apply fM)
  all_goals((try apply vM);(try simp only[vq]at*);try omega)
 intro i ⟨hi,hall⟩;by_cases hlt:i<ls.length
 ·have hx:=h i hlt
  have e:=aaE q (ls.getD i []);obtain⟨m,hm⟩:∃m,bV (mpL q (ls.getD i []))=m:=⟨_,rfl⟩;rw[hm]at e;have hml:m.length≤5000:=by rw[←hm,jG,ah2];exact hx.1
  repeat'((conv=>whnf);first|(intro hq;(try simp only[vw]at hq);try first|exact absurd hq (by decide)|exfalso;omega)|apply aI|with_reducible exact vM rfl|exact⟨⟩|apply nM|apply fM)
  all_goals((try apply vM);(try simp only[vq]at*);try omega)
  all_goals(try exact hx)
  rw[e];conv=>whnf
  refine aM (X:=Nat) (fun k=>k≤ls.length) (fun k=>[(8,.int .i64 k),(7,.bp (decide (m∈ls.take k)))]) (fun k=>[]) (fun k=>ls.length-k) 0 ⟨aK,mixed,ak,Cj,aP⟩ (by rfl) (by omega) ?_ ?_
  ·repeat'((conv=>whnf);first|intro _|apply aI|with_reducible exact vM rfl|exact⟨⟩|apply nM|apply fM)
   all_goals((try apply vM);(try simp only[vq]at*);try omega)
  intro k hk;by_cases hk2:k<ls.length
  ·have hx2:=h k hk2
   have tk:m∈ls.take (k+1)↔m∈ls.take k∨m=ls.getD k []:=by
    have e:ls.take (k+1)=ls.take k++[ls.getD k []]:=by rw[ah4,agf,agl hk2];rfl
    rw[e,agh,aiO]
   repeat'((conv=>whnf);first|(intro hq;(try simp only[vw]at hq);try first|exact absurd hq (by decide)|exfalso;omega)|apply aI|with_reducible exact vM rfl|exact⟨⟩|apply nM|apply fM)
   all_goals((try apply vM);(try simp only[vq]at*);try omega)
   all_goals(try omega)
   ·have tk2:decide (m=ls.getD k [])=decide (m∈ls.take (k+1)):=by
     by_cases e:m=ls.getD k []
     ·rw[decide_eq_true e,decide_eq_true (tk.2 (.inr e))]
     ·rw[decide_eq_false e,decide_eq_false (fun h=>(tk.1 h).elim hq e)]
    refine⟨k+1,[],⟨by omega,by omega⟩,?_⟩
    repeat'((conv=>whnf);first|intro _|apply aI|with_reducible exact vM rfl|exact⟨⟩|apply nM|apply fM)
    all_goals((try apply vM);(try simp only[vq]at*);try omega)
    all_goals(try exact tk2)
   ·have tk3:true=decide (m∈ls.take (k+1)):=(decide_eq_true (tk.2 (.inl hq))).symm
    refine⟨k+1,[],⟨by omega,by omega⟩,?_⟩
    repeat'((conv=>whnf);first|intro _|apply aI|with_reducible exact vM rfl|exact⟨⟩|apply nM|apply fM)
    all_goals((try apply vM);(try simp only[vq]at*);try omega)
    all_goals(try exact tk3)
  ·have e2:k=ls.length:=by omega
   subst e2;rw[ah6]
   repeat'((conv=>whnf);first|(intro hq;(try simp only[vw]at hq);try first|exact absurd hq (by decide)|exfalso;omega)|apply aI|with_reducible exact vM rfl|exact⟨⟩|apply nM|apply fM)
   all_goals((try apply vM);(try simp only[vq]at*);try omega)
   all_goals(try omega)
   ·rw[Dl hlt (by rw[hm];exact hq)];exact d9 false
   ·refine⟨i+1,[],⟨⟨by omega,fun j hj=>?_⟩,by omega⟩,?_⟩
    ·by_cases e:j=i
     ·rw[e,hm];exact hq
     ·exact hall j (by omega)
    repeat'((conv=>whnf);first|intro _|apply aI|with_reducible exact vM rfl|exact⟨⟩|apply nM|apply fM)
    all_goals((try apply vM);(try simp only[vq]at*);try omega)
 ·have e:i=ls.length:=by omega
  subst e;rw[Ie hall]
  repeat'((conv=>whnf);first|(intro hq;(try simp only[vw]at hq);try first|exact absurd hq (by decide)|exfalso;omega)|apply aI|with_reducible exact vM rfl|exact⟨⟩|apply nM|apply fM)
  all_goals((try apply vM);(try simp only[vq]at*);try omega)
  all_goals first|omega|exact Sup.of rfl|exact d9 true|skip
def Im:PSp:=fun xs K=>match xs with
 | [.agg [.int .i64 c,.isl (.rows .i64 ls) .none],.isl (.ints .i64 q) .none]=>VC (ls.length≤1000000∧∀i,i<ls.length→(ls.getD i []).length≤5000∧∀x∈ls.getD i [],0≤x∧x<q.length)∧K (.bp (kpB ls q))
 |_=>False
theorem Vz:POK Tryz.prog 144 Im:=by
 intro xs K h;unfold Im at h;split at h
 ·exact⟨_,h.2,OY _ _ _ h.1.get.1 h.1.get.2⟩
 ·exact h.elim
def VA (p:PSp) (u:PV):PSp:=fun xs K=>p xs (fun v=>VC (Sup v u))∧K u
theorem RZ {g:FuncId} {p:PSp} (h:POK Tryz.prog g p) (u:PV):POK Tryz.prog g (VA p u):=by
 intro xs K hk;obtain⟨v,hv,hp⟩:=h _ _ hk.1;exact⟨u,hk.2,fK hp hv.get⟩
theorem nK {a b:Bool} (h:a=b):Sup (.bp a) (.bool b):=⟨fun hr=>by cases hr;subst h;exact .bool _ _⟩
noncomputable def Ck (kb lv:Bool):CPT:=aA 144 (aB (VA Im (.bool kb))) (aA 145 (aB (VA OH (.bool lv))) noC)
theorem q9 (kb lv:Bool):aU Tryz.prog (Ck kb lv):=aj (au (RZ Vz (.bool kb))) (aj (au (RZ aat (.bool lv))) aC)
def tC (c:Int) (ls:List (List Int)) (sum:Int) (gv q:List Int) (b:Bool):(Int × List (List Int) × Int × List Int) × Int:=
 if imE c ls sum q b≠0 then((0,[],0,[]),imE c ls sum q b)else((c,ls,smI c ls sum b,imG c b gv q),0)
theorem Io (e:Int):Sup (bE [PV.agg [.int .i64 0,.nils,.int .i64 0,.nils],.int .i64 e]) (.tup [pzT (0,[],0,[]),.int .i64 e]):=by all_goals(refine Sup.via ?_;repeat'((conv=>whnf);first|intro _|apply aI|with_reducible exact vM rfl|exact⟨⟩|apply nM|apply fM);all_goals((try apply vM);(try simp only[vq]at*);try omega);all_goals(try(simp[CL.sub];done)))
structure ImC (c:Int) (ls:List (List Int)) (sum:Int) (gv q:List Int):Prop where
 hc:1≤c∧c≤16
 hll:1≤ls.length∧ls.length≤128
 hgl:gv.length=c.toNat
 hsm: -999999999≤sum∧sum≤999999999
 hln:(ls.getD 0 []).length≤16
 hk:ls.length≤1000000∧∀i,i<ls.length→(ls.getD i []).length≤5000∧∀x∈ls.getD i [],0≤x∧x<q.length
 hg:∀x∈gv,0≤x∧x≤c
 hq:Prm gv.length q
theorem adM {c:Int} {ls:List (List Int)} {sum:Int} {gv q:List Int} (hL:bK ls) (hp:dF c ls sum gv) (hq:Prm c.toNat q):ImC c ls sum gv q:=by
 have hc:=hp.c1;have hll:=hp.ll;have hgl:=hp.gl;have hql:=hq.ln;have hgn:gv.length=c.toNat:=by omega
 exact⟨hc,hll,hgn,hp.sm,(hp.ln 0 (by omega)).len,⟨by omega,fun i hi=>⟨hL.at' i,fun x hx=>by have:=(hp.ln i hi).rng x hx;omega⟩⟩,hp.gr,by rw[hgn];exact hq⟩
theorem hmul {c:Int} {ls:List (List Int)} (hc:1≤c∧c≤16) (hln:(ls.getD 0 []).length≤16):0≤((ls.getD 0 []).length:Int)*(c+1)∧((ls.getD 0 []).length:Int)*(c+1)≤272:=by
 have h1:((ls.getD 0 []).length:Int)*(c+1)≤16*17:=ajy (by omega) (by omega) (by omega) (by omega)
 have h2:0≤((ls.getD 0 []).length:Int)*(c+1):=ajz (by omega) (by omega)
 omega
section
variable {c:Int} {ls:List (List Int)} {sum:Int} {gv q:List Int}
theorem aev (h:ImC c ls sum gv q) (b:Bool) (hk:kpB ls q=false):aF Tryz.prog 81 [pzV c ls sum gv,.agg [.isl (.ints .i64 q) .none,.bp b]] (.tup [pzT (0,[],0,[]),.int .i64 7]):=by
 have hkk:=h.hk;refine bF (md:=1) (rf:=[]) mixed ak (q9 false false) Tryz.func81 (by rfl) (by rfl) (by rfl) ?_
 unfold Ck
 repeat'((conv=>whnf);first|(intro hq;(try simp only[vw]at hq);try first|exact absurd hq (by decide)|exfalso;omega)|apply aI|with_reducible exact vM rfl|exact⟨⟩|apply nM|apply fM)
 all_goals((try apply vM);(try simp only[vq]at*);try omega)
 all_goals first|exact hkk|exact nK hk|exact Io 7
theorem aew (h:ImC c ls sum gv q) (hk:kpB ls q=true) (hl:gQ ls=false):aF Tryz.prog 81 [pzV c ls sum gv,.agg [.isl (.ints .i64 q) .none,.bp true]] (.tup [pzT (0,[],0,[]),.int .i64 7]):=by
 have hkk:=h.hk;refine bF (md:=1) (rf:=[]) mixed ak (q9 true false) Tryz.func81 (by rfl) (by rfl) (by rfl) ?_
 unfold Ck
 repeat'((conv=>whnf);first|(intro hq;(try simp only[vw]at hq);try first|exact absurd hq (by decide)|exfalso;omega)|apply aI|with_reducible exact vM rfl|exact⟨⟩|apply nM|apply fM)
 all_goals((try apply vM);(try simp only[vq]at*);try omega)
 all_goals first|exact hkk|exact nK hk|exact nK hl|exact Io 7|exact hkk.1
theorem aex (h:ImC c ls sum gv q) (hk:kpB ls q=true) (hl:gQ ls=true) (hs:((ls.getD 0 []).length:Int)*(c+1)-sum< -999999999∨999999999<((ls.getD 0 []).length:Int)*(c+1)-sum):aF Tryz.prog 81 [pzV c ls sum gv,.agg [.isl (.ints .i64 q) .none,.bp true]] (.tup [pzT (0,[],0,[]),.int .i64 3]):=by
 have hkk:=h.hk;have hsm:=h.hsm;have hc:=h.hc;have hll:=h.hll;have hM:=hmul h.hc h.hln;have hM':0≤((ls.getD (aiw 0) []).length:Int)*(c+1)∧((ls.getD (aiw 0) []).length:Int)*(c+1)≤272:=hM;have hs':((ls.getD (aiw 0) []).length:Int)*(c+1)-sum< -999999999∨999999999<((ls.getD (aiw 0) []).length:Int)*(c+1)-sum:=hs;refine bF (md:=1) (rf:=[]) mixed ak (q9 true true) Tryz.func81 (by rfl) (by rfl) (by rfl) ?_
 unfold Ck
 repeat'((conv=>whnf);first|(intro hq;(try simp only[vw]at hq);try first|exact absurd hq (by decide)|exfalso;omega)|apply aI|with_reducible exact vM rfl|exact⟨⟩|apply nM|apply fM)
 all_goals((try apply vM);(try simp only[vq]at*);try omega)
 all_goals first|exact hkk|exact nK hk|exact nK hl|exact Io 3|exact hkk.1|omega|exact .inl trivial
theorem aey (h:ImC c ls sum gv q) (hk:kpB ls q=true):aF Tryz.prog 81 [pzV c ls sum gv,.agg [.isl (.ints .i64 q) .none,.bp false]] (.tup [pzT (c,ls,sum,imG c false gv q),.int .i64 0]):=by
 have hkk:=h.hk;have hsm:=h.hsm;have hc:=h.hc;have hll:=h.hll;have hgn:=h.hgl;have hql:=h.hq.ln;have hC:=q9 true true;refine bF (md:=1) (rf:=[]) mixed ak hC Tryz.func81 (by rfl) (by rfl) (by rfl) ?_
 unfold Ck
 repeat'((conv=>whnf);first|(intro hq;(try simp only[vw]at hq);try first|exact absurd hq (by decide)|exfalso;omega)|apply aI|with_reducible exact vM rfl|exact⟨⟩|apply nM|apply fM)
 all_goals((try apply vM);(try simp only[vq]at*);try omega)
 all_goals(try first|exact hkk|exact nK hk|exact hkk.1|omega|exact .inl trivial)
 obtain⟨Z,hZ⟩:∃Z:Nat→List Int,∀i,Z i=mR (fun i=>gvX c false (gv.getD i 0)) q i (agr gv.length 0):=⟨_,fun _=>rfl⟩;have hZ0:Z 0=agr gv.length 0:=hZ 0;conv=>whnf
 refine tq (X:=Nat) (fun k=>btw 10 59 k) (fun i=>i≤gv.length) (fun i=>[(8,.int .i64 i)]) (fun i=>[(11,.cells (.ints .i64 (Z i)) false)]) (fun i=>gv.length-i) 0 ⟨aK,mixed,ak,hC,aP⟩ (by rfl) (by omega) ?_ ?_
 ·repeat'((conv=>whnf);first|intro _|apply aI|with_reducible exact vM rfl|exact⟨⟩|apply nM|apply fM)
  all_goals((try apply vM);(try simp only[vq]at*);try omega)
  all_goals(rw[hZ0,hgn])
 intro i hi;have hGl:(Z i).length=gv.length:=by rw[hZ,jP,aji]
 by_cases hlt:i<gv.length
 ·have hx:=h.hq.at hlt
  have hg0:=h.hg (gv.getD i 0) (gu hlt);have hn:Z (i+1)=(Z i).set (q.getD i 0).toNat (gvX c false (gv.getD i 0)):=by rw[hZ,hZ,lD]
  by_cases hpos:0<gv.getD i 0
  ·have f1:gvX c false (gv.getD i 0)=gv.getD i 0:=by unfold gvX;first|rw[if_pos ⟨hpos,rfl⟩]|rw[if_neg (by simp)]
   repeat'((conv=>whnf);first|(intro hq;(try simp only[vw]at hq);try first|exact absurd hq (by decide)|exfalso;omega)|apply aI|with_reducible exact vM rfl|exact⟨⟩|apply nM|apply fM)
   all_goals((try apply vM);(try simp only[vq]at*);try omega)
   all_goals(try omega)
   refine⟨i+1,[],⟨by omega,by omega⟩,?_⟩
   rw[hn,f1]
   repeat'((conv=>whnf);first|intro _|apply aI|with_reducible exact vM rfl|exact⟨⟩|apply nM|apply fM)
   all_goals((try apply vM);(try simp only[vq]at*);try omega)
  ·have f2:gvX c false (gv.getD i 0)=gv.getD i 0:=by unfold gvX;rw[if_neg (fun e=>hpos e.1)]
   repeat'((conv=>whnf);first|(intro hq;(try simp only[vw]at hq);try first|exact absurd hq (by decide)|exfalso;omega)|apply aI|with_reducible exact vM rfl|exact⟨⟩|apply nM|apply fM)
   all_goals((try apply vM);(try simp only[vq]at*);try omega)
   all_goals(try omega)
   refine⟨i+1,[],⟨by omega,by omega⟩,?_⟩
   rw[hn,f2]
   repeat'((conv=>whnf);first|intro _|apply aI|with_reducible exact vM rfl|exact⟨⟩|apply nM|apply fM)
   all_goals((try apply vM);(try simp only[vq]at*);try omega)
 ·have e:i=gv.length:=by omega
  subst e;have hG2:imG c false gv q=Z gv.length:=(hZ _).symm;rw[hG2];have s2:(CL.ints .i64 (Z gv.length)).sub 0 c.toNat=.ints .i64 (Z gv.length):=congrArg (CL.ints .i64) (cK (by omega))
  repeat'((conv=>whnf);first|(intro hq;(try simp only[vw]at hq);try first|exact absurd hq (by decide)|exfalso;omega)|apply aI|with_reducible exact vM rfl|exact⟨⟩|apply nM|apply fM)
  all_goals((try apply vM);(try simp only[vq]at*);try omega)
  all_goals(try rw[s2])
  all_goals first|exact Sup.of rfl|skip
theorem aez (h:ImC c ls sum gv q) (hk:kpB ls q=true) (hl:gQ ls=true) (S:Int) (hS:((ls.getD 0 []).length:Int)*(c+1)-sum=S) (hs: -999999999≤S∧S≤999999999):aF Tryz.prog 81 [pzV c ls sum gv,.agg [.isl (.ints .i64 q) .none,.bp true]] (.tup [pzT (c,ls,S,imG c true gv q),.int .i64 0]):=by
 have hkk:=h.hk;have hsm:=h.hsm;have hc:=h.hc;have hll:=h.hll;have hgn:=h.hgl;have hql:=h.hq.ln;have hM:=hmul h.hc h.hln;have hM':0≤((ls.getD (aiw 0) []).length:Int)*(c+1)∧((ls.getD (aiw 0) []).length:Int)*(c+1)≤272:=hM;have hS':((ls.getD (aiw 0) []).length:Int)*(c+1)-sum=S:=hS;have hC:=q9 true true;refine bF (md:=1) (rf:=[]) mixed ak hC Tryz.func81 (by rfl) (by rfl) (by rfl) ?_
 unfold Ck
 repeat'((conv=>whnf);first|(intro hq;(try simp only[vw]at hq);try first|exact absurd hq (by decide)|exfalso;omega)|apply aI|with_reducible exact vM rfl|exact⟨⟩|apply nM|apply fM)
 all_goals((try apply vM);(try simp only[vq]at*);try omega)
 all_goals(try first|exact hkk|exact nK hk|exact nK hl|exact hkk.1|omega|exact .inl trivial)
 rw[hS'];obtain⟨Z,hZ⟩:∃Z:Nat→List Int,∀i,Z i=mR (fun i=>gvX c true (gv.getD i 0)) q i (agr gv.length 0):=⟨_,fun _=>rfl⟩;have hZ0:Z 0=agr gv.length 0:=hZ 0;conv=>whnf
 refine tq (X:=Nat) (fun k=>btw 10 59 k) (fun i=>i≤gv.length) (fun i=>[(8,.int .i64 i)]) (fun i=>[(11,.cells (.ints .i64 (Z i)) false)]) (fun i=>gv.length-i) 0 ⟨aK,mixed,ak,hC,aP⟩ (by rfl) (by omega) ?_ ?_
 ·repeat'((conv=>whnf);first|intro _|apply aI|with_reducible exact vM rfl|exact⟨⟩|apply nM|apply fM)
  all_goals((try apply vM);(try simp only[vq]at*);try omega)
  all_goals(rw[hZ0,hgn])
 intro i hi;have hGl:(Z i).length=gv.length:=by rw[hZ,jP,aji]
 by_cases hlt:i<gv.length
 ·have hx:=h.hq.at hlt
  have hg0:=h.hg (gv.getD i 0) (gu hlt);have hn:Z (i+1)=(Z i).set (q.getD i 0).toNat (gvX c true (gv.getD i 0)):=by rw[hZ,hZ,lD]
  by_cases hpos:0<gv.getD i 0
  ·have f1:gvX c true (gv.getD i 0)=c+1-gv.getD i 0:=by unfold gvX;first|rw[if_pos ⟨hpos,rfl⟩]|rw[if_neg (by simp)]
   repeat'((conv=>whnf);first|(intro hq;(try simp only[vw]at hq);try first|exact absurd hq (by decide)|exfalso;omega)|apply aI|with_reducible exact vM rfl|exact⟨⟩|apply nM|apply fM)
   all_goals((try apply vM);(try simp only[vq]at*);try omega)
   all_goals(try omega)
   refine⟨i+1,[],⟨by omega,by omega⟩,?_⟩
   rw[hn,f1]
   repeat'((conv=>whnf);first|intro _|apply aI|with_reducible exact vM rfl|exact⟨⟩|apply nM|apply fM)
   all_goals((try apply vM);(try simp only[vq]at*);try omega)
  ·have f2:gvX c true (gv.getD i 0)=gv.getD i 0:=by unfold gvX;rw[if_neg (fun e=>hpos e.1)]
   repeat'((conv=>whnf);first|(intro hq;(try simp only[vw]at hq);try first|exact absurd hq (by decide)|exfalso;omega)|apply aI|with_reducible exact vM rfl|exact⟨⟩|apply nM|apply fM)
   all_goals((try apply vM);(try simp only[vq]at*);try omega)
   all_goals(try omega)
   refine⟨i+1,[],⟨by omega,by omega⟩,?_⟩
   rw[hn,f2]
   repeat'((conv=>whnf);first|intro _|apply aI|with_reducible exact vM rfl|exact⟨⟩|apply nM|apply fM)
   all_goals((try apply vM);(try simp only[vq]at*);try omega)
 ·have e:i=gv.length:=by omega
  subst e;have hG2:imG c true gv q=Z gv.length:=(hZ _).symm;rw[hG2];have s2:(CL.ints .i64 (Z gv.length)).sub 0 c.toNat=.ints .i64 (Z gv.length):=congrArg (CL.ints .i64) (cK (by omega))
  repeat'((conv=>whnf);first|(intro hq;(try simp only[vw]at hq);try first|exact absurd hq (by decide)|exfalso;omega)|apply aI|with_reducible exact vM rfl|exact⟨⟩|apply nM|apply fM)
  all_goals((try apply vM);(try simp only[vq]at*);try omega)
  all_goals(try rw[s2])
  all_goals first|exact Sup.of rfl|skip
end
theorem JB (c:Int) (ls:List (List Int)) (sum:Int) (gv q:List Int) (b:Bool) (hL:bK ls) (hp:dF c ls sum gv) (hq:Prm c.toNat q):aF Tryz.prog 81 [pzV c ls sum gv,.agg [.isl (.ints .i64 q) .none,.bp b]] (.tup [pzT (tC c ls sum gv q b).1,.int .i64 (tC c ls sum gv q b).2]):=by
 have h:=adM hL hp hq;have hbad:∀e,imE c ls sum q b=e→e≠0→tC c ls sum gv q b=((0,[],0,[]),e):=fun e h1 h2=>by unfold tC;rw[if_pos (by rw[h1];exact h2),h1]
 have hgood:imE c ls sum q b=0→tC c ls sum gv q b=((c,ls,smI c ls sum b,imG c b gv q),0):=fun h1=>by unfold tC;rw[if_neg (by rw[h1];simp)]
 cases hkb:kpB ls q with
 |false=>
  rw[hbad 7 (by unfold imE;rw[if_pos (.inl hkb)]) (by decide)]
  exact aev h b hkb
 |true=>
 have hsm:=hp.sm;cases b with
 |false=>
  have hs:smI c ls sum false=sum:=rfl;rw[hgood (by unfold imE;rw[if_neg (by rw[hkb];simp),hs,if_neg (by omega)]),hs]
  exact aey h hkb
 |true=>
 cases hlv:gQ ls with
 |false=>
  rw[hbad 7 (by unfold imE;rw[if_pos (.inr ⟨rfl,hlv⟩)]) (by decide)]
  exact aew h hkb hlv
 |true=>
 have hs:smI c ls sum true=((ls.getD 0 []).length:Int)*(c+1)-sum:=rfl;by_cases ho:((ls.getD 0 []).length:Int)*(c+1)-sum< -999999999∨999999999<((ls.getD 0 []).length:Int)*(c+1)-sum
 ·rw[hbad 3 (by unfold imE;rw[if_neg (by rw[hkb,hlv];simp),hs,if_pos ho]) (by decide)]
  exact aex h hkb hlv ho
 ·rw[hgood (by unfold imE;rw[if_neg (by rw[hkb,hlv];simp),hs,if_neg ho]),hs]
  exact aez h hkb hlv _ rfl (by omega)
def OZ:PSp:=fun xs K=>match xs with
 | [.agg [.int .i64 c,.isl (.rows .i64 ls) .none,.int .i64 sum,.isl (.ints .i64 gv) .none],.agg [.isl (.ints .i64 q) .none,.bp b]]=>VC (dF c ls sum gv∧bK ls∧Prm c.toNat q)∧K (.tup [pzT (tC c ls sum gv q b).1,.int .i64 (tC c ls sum gv q b).2])
 |_=>False
theorem aaS:POK Tryz.prog 81 OZ:=by
 intro xs K h;unfold OZ at h;split at h
 ·exact⟨_,h.2,JB _ _ _ _ _ _ h.1.get.2.1 h.1.get.1 h.1.get.2.2⟩
 ·exact h.elim
structure afR (c:Int) (ls:List (List Int)) (sum:Int) (s:St) (o:List Int) (x:Int):Prop where
 bd:bL c ls sum s
 rng:∀y∈o,0≤y∧y<c
 len:o.length≤16
 x: -2000000000≤x∧x≤2000000000
structure afS (c:Int) (ls:List (List Int)) (sum:Int) (s:St) (o used:List Int) (x:Int):Prop where
 bd:bL c ls sum s
 rng:∀y∈o,0≤y∧y<c
 len:o.length+used.length≤30
 x: -2000000000+16*(o.length:Int)≤x∧x≤2000000000
structure afT (c:Int) (ls:List (List Int)) (sum:Int) (s:St) (k:Int):Prop where
 bd:bL c ls sum s
 k:0≤k∧k<ls.length
def O1:PSp:=fun xs K=>match xs with
 | [.agg [.int .i64 c,.isl (.rows .i64 A) .none,.int .i64 sum,.isl (.ints .i64 gv) .none],.agg [.int .i64 c',.isl (.rows .i64 B) .none,.int .i64 sum',.isl (.ints .i64 gw) .none]]=>VC ((c=c'∧A=B∧sum=sum'∧gv=gw)∧A.length≤1000000∧(∀i,(A.getD i []).length≤2000000)∧gv.length≤2000000)∧K (.bool true)
 | [.agg [.int .i64 c,.isl (.rows .i64 A) .none,.int .i64 sum,.isl (.ints .i64 gv) .none],.agg [.int .i64 0,.isl (.ints .i64 []) .none,.int .i64 0,.isl (.ints .i64 []) .none]]=>VC (c=0∧A=[]∧sum=0∧gv=[])∧K (.bool true)
 |_=>False
theorem aaT:POK Tryz.prog 46 O1:=by
 intro xs K hk;unfold O1 at hk;split at hk
 ·obtain⟨⟨⟨rfl,rfl,rfl,rfl⟩,h1,h2,h3⟩,hk⟩:=hk
  exact⟨_,hk,fK (Dk _ _ _ _ h1 h2 h3) ⟨fun hr=>by cases hr;exact .bool _ _⟩⟩
 ·obtain⟨⟨rfl,rfl,rfl,rfl⟩,hk⟩:=hk
  refine⟨_,hk,OD (fK (Dk 0 [] 0 [] (by decide) (fun i=>by simp) (by decide)) ⟨fun hr=>by cases hr;exact .bool _ _⟩) rfl fun i hi=>?_⟩
  match i,hi with
  |0,_=>exact dw _
  |1,_=>exact⟨fun hr=>by
   cases hr with
   |agg _ _ vs hl hh=>
    refine .agg _ _ _ hl fun i hi=>?_
    match i,hi with
    |0,_=>have:=hh 0 (by decide);simp only[aD]at this⊢;exact this
    |1,_=>have:=hh 1 (by decide);simp only[aD]at this⊢;generalize vs.getD 1 undef=u at this;exact aaq this rfl
    |2,_=>have:=hh 2 (by decide);simp only[aD]at this⊢;exact this
    |3,_=>have:=hh 3 (by decide);simp only[aD]at this⊢;exact this⟩
 ·exact hk.elim
end Go.Eng.YtcechbdgokjmgaaGreatDoor
namespace Go.Eng.YtcechbdgokjmgaaGreatDoor
open Go.Proofs Go.RowKit
set_option linter.unusedSimpArgs false
set_option linter.unusedVariables false
set_option maxHeartbeats 0
set_option maxRecDepth 100000
noncomputable def wR (b1:Bool) (w:Int) (P:Int × List (List Int) × Int × List Int) (e sy:Int):CPT:=aA 16 (aB (wQ H7 (.bool b1))) (aA 17 (aB HZ) (aA 18 (aB (wQ Gz (.int .i64 w))) (aA 19 (aB Oy) (aA 46 (aB O1) (aA 79 (aB (wQ Vx (.tup [pzT P,.int .i64 e]))) (aA 80 (aB (wQ OG (.int .i64 sy))) (aA 81 (aB (wQ OZ (.tup [pzT P,.int .i64 e]))) noC)))))))
theorem pR (b1:Bool) (w:Int) (P:Int × List (List Int) × Int × List Int) (e sy:Int):aU Tryz.prog (wR b1 w P e sy):=aj (au (qX Vd (.bool b1))) (aj (au U7) (aj (au (qX GA (.int .i64 w))) (aj (au Ry) (aj (au aaT) (aj (au (qX adL (.tup [pzT P,.int .i64 e]))) (aj (au (qX aas (.int .i64 sy))) (aj (au (qX aaS (.tup [pzT P,.int .i64 e]))) aC)))))))
theorem O4 (c:Int) (ls:List (List Int)) (sum:Int) (gv q:List Int) (b:Bool) (hqm:q.length≤9223372036854775807):aF Tryz.prog 14 [pzV c ls sum gv,.agg [.isl (.ints .i64 q) .none,.bp b]] (.bp true):=by
 by_cases hg:Cg c ls sum gv=true
 ·have hC:=pR true 0 (0,[],0,[]) 0 0
  refine bF (md:=1) (rf:=[]) mixed ak hC Tryz.func14 (by rfl) (by rfl) (by rfl) ?_
  unfold wR
  repeat'((conv=>whnf);first|(intro hq;(try simp only[vw]at hq);try first|exact absurd hq (by decide)|exfalso;omega)|apply aI|with_reducible exact vM rfl|exact⟨⟩|apply nM|apply fM)
  all_goals((try apply vM);(try simp only[vq]at*);try omega)
  all_goals(try first|exact vO hg|exact dw _|exact kI he|exact hL|exact⟨hL,by omega,by omega⟩|exact⟨hL,by omega⟩|(rw[h1];exact dw _)|exact hp|exact⟨hp,hL,hqp⟩|exact hq5|exact kI hsy|exact hbd|exact⟨⟨rfl,rfl,rfl,rfl⟩,hbd⟩|exact⟨rfl,rfl,rfl,rfl⟩|(rw[h2];exact dw _)|omega)
 have hg:Cg c ls sum gv=false:=by simpa using hg
 by_cases h20:20<q.length
 ·have hC:=pR false 0 (0,[],0,[]) 0 0
  refine bF (md:=1) (rf:=[]) mixed ak hC Tryz.func14 (by rfl) (by rfl) (by rfl) ?_
  unfold wR
  repeat'((conv=>whnf);first|(intro hq;(try simp only[vw]at hq);try first|exact absurd hq (by decide)|exfalso;omega)|apply aI|with_reducible exact vM rfl|exact⟨⟩|apply nM|apply fM)
  all_goals((try apply vM);(try simp only[vq]at*);try omega)
  all_goals(try first|exact vO hg|exact dw _|exact kI he|exact hL|exact⟨hL,by omega,by omega⟩|exact⟨hL,by omega⟩|(rw[h1];exact dw _)|exact hp|exact⟨hp,hL,hqp⟩|exact hq5|exact kI hsy|exact hbd|exact⟨⟨rfl,rfl,rfl,rfl⟩,hbd⟩|exact⟨rfl,rfl,rfl,rfl⟩|(rw[h2];exact dw _)|omega)
 have hsh:qF ls gv=true:=by unfold Cg at hg;cases h:qF ls gv<;>simp[h]at hg⊢
 obtain⟨hL,hgl⟩:=KO hsh;have hq5:q.length≤5000:=by omega
 obtain⟨w,he⟩:∃w,pzE c ls sum gv=w:=⟨_,rfl⟩;by_cases hw:w=0
 case neg=>
  have h1:jq c ls sum gv q b=((0,[],0,[]),w):=by unfold jq;rw[if_pos (by rw[he];exact hw),he]
  have hC:=pR false w (0,[],0,[]) w 0;refine bF (md:=1) (rf:=[]) mixed ak hC Tryz.func14 (by rfl) (by rfl) (by rfl) ?_
  unfold wR
  repeat'((conv=>whnf);first|(intro hq;(try simp only[vw]at hq);try first|exact absurd hq (by decide)|exfalso;omega)|apply aI|with_reducible exact vM rfl|exact⟨⟩|apply nM|apply fM)
  all_goals((try apply vM);(try simp only[vq]at*);try omega)
  all_goals(try first|exact vO hg|exact dw _|exact kI he|exact hL|exact⟨hL,by omega,by omega⟩|exact⟨hL,by omega⟩|(rw[h1];exact dw _)|exact hp|exact⟨hp,hL,hqp⟩|exact hq5|exact kI hsy|exact hbd|exact⟨⟨rfl,rfl,rfl,rfl⟩,hbd⟩|exact⟨rfl,rfl,rfl,rfl⟩|(rw[h2];exact dw _)|omega)
 subst hw;have hp:=dF.of he;obtain⟨sy,hsy⟩:∃sy,jO q c=sy:=⟨_,rfl⟩;by_cases hs0:sy=0
 case neg=>
  have h1:jq c ls sum gv q b=((0,[],0,[]),sy):=by unfold jq;rw[if_neg (by rw[he];simp),if_pos (by rw[hsy];exact hs0),hsy]
  have hC:=pR false 0 (0,[],0,[]) sy sy;refine bF (md:=1) (rf:=[]) mixed ak hC Tryz.func14 (by rfl) (by rfl) (by rfl) ?_
  unfold wR
  repeat'((conv=>whnf);first|(intro hq;(try simp only[vw]at hq);try first|exact absurd hq (by decide)|exfalso;omega)|apply aI|with_reducible exact vM rfl|exact⟨⟩|apply nM|apply fM)
  all_goals((try apply vM);(try simp only[vq]at*);try omega)
  all_goals(try first|exact vO hg|exact dw _|exact kI he|exact hL|exact⟨hL,by omega,by omega⟩|exact⟨hL,by omega⟩|(rw[h1];exact dw _)|exact hp|exact⟨hp,hL,hqp⟩|exact hq5|exact kI hsy|exact hbd|exact⟨⟨rfl,rfl,rfl,rfl⟩,hbd⟩|exact⟨rfl,rfl,rfl,rfl⟩|(rw[h2];exact dw _)|omega)
 subst hs0;have hqp:=(Ig hsy).1;obtain⟨⟨P,e⟩,h1⟩:∃R,jq c ls sum gv q b=R:=⟨_,rfl⟩;have h2:tC c ls sum gv q b=(P,e):=by
  rw[←h1];unfold jq;rw[if_neg (by rw[he];simp),if_neg (by rw[hsy];simp)];rfl
 obtain⟨P1,P2,P3,P4⟩:=P;have hbd:P2.length≤1000000∧(∀i,(P2.getD i []).length≤2000000)∧P4.length≤2000000:=by
  unfold jq at h1;rw[if_neg (by rw[he];simp),if_neg (by rw[hsy];simp)]at h1
  split at h1
  ·cases h1;exact⟨by simp,fun i=>by simp,by simp⟩
  ·cases h1
   exact⟨hL.len,fun i=>by have:=hL.at' i;omega,by rw[aaG];omega⟩
 have hC:=pR false 0 (P1,P2,P3,P4) e 0;refine bF (md:=1) (rf:=[]) mixed ak hC Tryz.func14 (by rfl) (by rfl) (by rfl) ?_
 unfold wR
 repeat'((conv=>whnf);first|(intro hq;(try simp only[vw]at hq);try first|exact absurd hq (by decide)|exfalso;omega)|apply aI|with_reducible exact vM rfl|exact⟨⟩|apply nM|apply fM)
 all_goals((try apply vM);(try simp only[vq]at*);try omega)
 all_goals(try first|exact vO hg|exact dw _|exact kI he|exact hL|exact⟨hL,by omega,by omega⟩|exact⟨hL,by omega⟩|(rw[h1];exact dw _)|exact hp|exact⟨hp,hL,hqp⟩|exact hq5|exact kI hsy|exact hbd|exact⟨⟨rfl,rfl,rfl,rfl⟩,hbd⟩|exact⟨rfl,rfl,rfl,rfl⟩|(rw[h2];exact dw _)|omega)
end Go.Eng.YtcechbdgokjmgaaGreatDoor
