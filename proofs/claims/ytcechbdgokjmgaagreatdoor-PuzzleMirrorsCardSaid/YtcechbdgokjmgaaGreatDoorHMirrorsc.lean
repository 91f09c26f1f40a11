/- Contracts of functions of the program: what each returns. Their conditions stand in them. -/
import Derived.Shelf.Strings.BuilderF
import Derived.Test.YtcechbdgokjmgaaGreatDoorHMirrorsb
open Array renaming length_toList→ais,getElem?_modify→ahU
open Bool renaming and_eq_true→aia,or_eq_true→ajm,not_eq_true'→akU,and_false→aj3,true_and→akz,false_and→aj9,or_eq_false_iff→ald,not_eq_false'→ale,false_eq_true→aiF,and_eq_false_iff→alg,eq_iff_iff→ajU,not_eq_true→als
open Classical renaming not_not→aiK,byContradiction→aln
open Int renaming toNat_zero→ak5,le_refl→ak9,le_of_eq→alo,mul_zero→aly
open List renaming range→ahX,ext_getElem→akH,all_eq_true→ajp,mem_range→ajF,getD_eq_getElem?_getD→ahZ,getElem?_eq_getElem→ah4,mergeSort_perm→akZ,mem_map→akC,pairwise_map→ak0,nodup_range→ak1,length_set→ait,getElem?_set→air,replicate→ah9,length_replicate→ak2,pairwise_iff_getElem→ak3,any_eq_true→ako,length_take→aiG,take_length→ajS,foldl_append→akc,take→akt,length_map→ajO,length_append→ai7,length_cons→ahK,length_nil→ahG,mem_append→ah0,mem_singleton→akx,mem_cons→ajg,append_nil→ajL,map_cons→ajN,splitAt→ak6,all_eq_false→ak7,getElem_of_mem→ah3,filter_cons→akP,foldl_cons→ak8,pairwise_cons→ajh,mem_filter→aj2,getElem_inj→ala,length_eq_one_iff→alb,eq_nil_of_length_eq_zero→alc,any_eq_false→akp,length_singleton→alf,take_of_length_le→akL,mem_flatMap→akT,pairwise_mergeSort→alh,getElem?_take_of_lt→ajH,getElem?_eq_none→ajK,take_zero→ali,range_succ→akM,flatMap_append→akN,flatMap_singleton→alj,foldl_nil→alk,getElem?_set_ne→aiu,length_pos_of_mem→alm,mem_append_left→ah1,countP_eq_length_filter→alp,countP_mono_left→alq,eq_nil_iff_forall_not_mem→alr,getElem?_take→aiB,map_map→alu,map_congr_left→alv,map_id→alx
open Nat renaming not_lt_zero→ak4,min_eq_left→aiy,le_refl→ahO,beq→ah6,eq_of_beq_eq_true→aib
open Option renaming getD_some→ah5
namespace Go.Eng.YtcechbdgokjmgaaGreatDoor
open Go.Proofs
set_option linter.unusedSimpArgs false
set_option linter.unusedVariables false
theorem BL {l:List Int} (h:lU l=true):bK l=(ahX l.length).map fun i:Nat=>(i:Int)+1:=by
 refine akH (by rw[jf];simp) fun i h1 h2=>?_
 have hi:i<l.length:=by rw[jf]at h1;exact h1
 have:=ajp.1 h i (ajF.2 hi);rw[decide_eq_true_eq,ahZ,ah4 h1]at this;rw[show(bK l)[i]=(i:Int)+1 from this];simp
theorem sZ {l:List Int} (h:lU l=true):∀x∈l,1≤x∧x≤l.length:=fun x hx=>by
 have hp:x∈bK l:=(akZ l _).mem_iff.2 hx;rw[BL h,akC]at hp;obtain⟨i,hi,rfl⟩:=hp;have:=ajF.1 hi;omega
theorem Tf {l:List Int} (h:lU l=true):l.Nodup:=by
 have hp:(bK l).Perm l:=akZ l _;rw[BL h]at hp;refine hp.nodup_iff.1 ?_;rw[List.Nodup,ak0];exact ak1.imp fun hne e=>hne (by omega)
def mQ (gv nv:List Int):Prop:=gv.length=nv.length∧∀i,i<nv.length→gv.getD i 0=0∨gv.getD i 0=nv.getD i 0
theorem mQ.set0 {gv nv:List Int} (h:mQ gv nv) (y:Nat):mQ (gv.set y 0) nv:=by
 refine⟨by rw[ait];exact h.1,fun i hi=>?_⟩
 rw[ahZ,air];split
 ·left;split<;>rfl
 ·rw[←ahZ];exact h.2 i hi
theorem mQ.set1 {gv nv:List Int} (h:mQ gv nv) (y:Nat):mQ (gv.set y (nv.getD y 0)) nv:=by
 refine⟨by rw[ait];exact h.1,fun i hi=>?_⟩
 rw[ahZ,air];split
 ·rename_i e;subst e;right;rw[if_pos (by have:=h.1;omega)];rfl
 ·rw[←ahZ];exact h.2 i hi
theorem mQ.refl (nv:List Int):mQ nv nv:=⟨rfl,fun i _=>.inr rfl⟩
theorem Tg {c:Int} {ls:List (List Int)} (hb:eP c ls=0):bD c ls 0 (ah9 c.toNat 0):=by
 unfold eP at hb;simp only[aJ]at hb;have hsy:fU c ls=0:=by
  by_cases e:fU c ls=0
  ·exact e
  ·rw[if_neg e]at hb;exact absurd hb e
 rw[if_pos hsy]at hb;have hc16:¬16<c:=fun e=>by rw[if_pos e]at hb;simp at hb
 rw[if_neg hc16,if_pos rfl]at hb;have hls:ls.length≠0:=fun e=>by rw[if_pos e]at hb;simp at hb
 unfold fU at hsy;have hcr:¬(c<1∨256<c):=fun e=>by rw[if_pos e]at hsy;cases hsy
 rw[if_neg hcr]at hsy;have hln:¬128<ls.length:=fun e=>by rw[if_pos e]at hsy;cases hsy
 rw[if_neg hln]at hsy;have hlE:=gJ hsy;refine⟨by omega,by omega,fun i hi=>?_,by omega,by rw[ak2];omega,fun x hx=>?_,fun i j hij hj hpos e=>?_⟩
 ·have hL:=hlE i hi
  unfold iI at hL;have hne:¬(ls.getD i []).length=0:=fun e=>by rw[if_pos e]at hL;cases hL
  rw[if_neg hne]at hL;have hst:dD (bT c (ls.getD i [])) (ls.getD i []).length=0:=by
   by_cases e:dD (bT c (ls.getD i [])) (ls.getD i []).length=0
   ·exact e
   ·rw[if_pos e]at hL;exact hL
  have hst:=gJ hst;have hk:∀k,k<(ls.getD i []).length→(0≤(ls.getD i []).getD k 0∧(ls.getD i []).getD k 0<c)∧(0<k→(ls.getD i []).getD (k-1) 0<(ls.getD i []).getD k 0):=fun k hk=>by
   have:=hst k hk;unfold bT at this;have h1:¬((ls.getD i []).getD k 0<0∨c≤(ls.getD i []).getD k 0):=fun e=>by rw[if_pos e]at this;cases this
   rw[if_neg h1]at this;refine⟨by omega,fun h0=>?_⟩
   have h2:¬(0<k∧(ls.getD i []).getD k 0≤(ls.getD i []).getD (k-1) 0):=fun e=>by rw[if_pos e]at this;cases this
   omega
  have hr:∀x∈ls.getD i [],0≤x∧x<c:=fun x hx=>by
   obtain⟨k,h1,rfl⟩:=(bG _ x).1 hx;exact(hk k h1).1
  have hp:=yS fun k h0 h1=>(hk k h1).2 h0;have:=IE hp hr (by omega)
  exact⟨by omega,by omega,hr,hp⟩
 ·rw[(List.mem_replicate.1 hx).2];omega
 ·rw[ak2]at hj
  rw[ahZ,List.getElem?_replicate,if_pos hj]at hpos;simp at hpos
theorem aeT {c:Int} {ls:List (List Int)} {sum:Int} {gv nv:List Int} (hb:eP c ls=0) (hl:(nv.length:Int)=c) (hn:lU nv=true) (hs: -999999999≤sum∧sum≤999999999) (h:mQ gv nv):bD c ls sum gv:=by
 have h0:=Tg hb;have hr:=sZ hn;have hd:=Tf hn;have hgl:=h.1;refine⟨h0.c1,h0.ll,h0.ln,hs,by omega,fun x hx=>?_,fun i j hij hj hpos e=>?_⟩
 ·have hc:=h0.c1
  obtain⟨i,hi,rfl⟩:=(bG _ x).1 hx;rcases h.2 i (by omega)with e|e
  ·rw[e];omega
  ·have:=hr (nv.getD i 0) (cu (by omega))
   rw[e];omega
 ·have e1:gv.getD j 0=nv.getD j 0:=by
   rcases h.2 j (by omega)with e'|e'
   ·omega
   ·exact e'
  have e2:gv.getD i 0=nv.getD i 0:=by
   rcases h.2 i (by omega)with e'|e'
   ·omega
   ·exact e'
  rw[e1,e2]at e;have:=ak3.1 hd i j (by omega) (by omega) hij
  rw[ahZ,ahZ,ah4 (show i<nv.length by omega),ah4 (show j<nv.length by omega)]at e
  exact this e
end Go.Eng.YtcechbdgokjmgaaGreatDoor
namespace Go.Eng.YtcechbdgokjmgaaGreatDoor
open Go.Proofs
set_option linter.unusedSimpArgs false
set_option linter.unusedVariables false
set_option maxHeartbeats 0
set_option maxRecDepth 100000
def PW:LSp:=fun xs objs K=>match xs,objs with
 | [.agg [.int .i64 c,.isl (.rows .i64 ls) .none,.int .i64 sum,.isl (.ints .i64 gv) .none]],[]=>VC ((1≤gv.length∧gv.length≤1000000)∧ls.length≤5000∧∀i,i<ls.length→1≤(ls.getD i []).length∧(ls.getD i []).length≤5000)∧K [.agg [.int .i64 c,.isl (.rows .i64 ls) .none,.int .i64 sum,.rsl 0 0 gv.length]] [.cells (.ints .i64 gv) false]
 |_,_=>False
theorem abT:LOK Tryz.prog 124 PW:=by
 intro xs objs K hk;unfold PW at hk;split at hk
 ·exact⟨_,_,hk.2,yT _ _ _ _ hk.1.get.1 hk.1.get.2.1 hk.1.get.2.2⟩
 ·exact hk.elim
def I6:PSp:=fun xs K=>match xs with
 | [.agg [.int .i64 c,.isl (.rows .i64 ls) .none],.isl (.ints .i64 f) .none]=>VC (bO ls∧f.length≤2000000∧uX c ls f=0∧sN f ls)∧K (.tup [.bp (decide (pJ (iH f ls ls.length)<0)),.int .i64 0])
 |_=>False
theorem Wt:POK Tryz.prog 122 I6:=by
 intro xs K hk;unfold I6 at hk;split at hk
 ·exact⟨_,hk.2,Fe _ _ _ hk.1.get.1 hk.1.get.2.1 hk.1.get.2.2.1 hk.1.get.2.2.2⟩
 ·exact hk.elim
def mkS (c:Int) (ls:List (List Int)) (sum:Int) (nv:List Int) (g:Nat) (gv:List Int) (y:Int):List Int:=
 if(sol c ls sum (gv.set y.toNat 0) g).2.2≠0 then(gv.set y.toNat 0).set y.toNat (nv.getD y.toNat 0)else gv.set y.toNat 0
noncomputable def ahg:CPT:=aA 88 (aB jJ) (aA 89 (aB fC) (aA 93 (aB Bw) (aA 98 (aB rJ) (aA 99 (kg BI) (aA 121 (aB xA) (aA 122 (aB I6) (aA 123 (aB FR) (aA 124 (eO [] PW) noC))))))))
theorem nP:aW Tryz.prog ahg:=aj (ak jh) (aj (ak jr) (aj (ak Ii) (aj (ak yR) (aj (iw IL) (aj (ak KL) (aj (ak Wt) (aj (ak Mg) (aj (dG [] abT) aC))))))))
def Dz (c:Int) (ls:List (List Int)) (nv:List Int) (g:Int):Int:=aJ [eP c ls,jP g,if(nv.length:Int)≠c then 2 else 0]
def Wu (ls:List (List Int)) (nv:List Int):Bool:=decide (pJ (iH nv ls ls.length)<0)
def I7 (c:Int) (ls:List (List Int)) (nv ov:List Int) (g:Int):(Int × List (List Int) × Int × List Int) × Int:=
 if Dz c ls nv g≠0 then((0,[],0,[]),Dz c ls nv g)else if(jy nv).2≠0∨(jy nv).1=false then((0,[],0,[]),1)else if Wu ls nv=false then((0,[],0,[]),16)
 else if(ov.length:Int)≠c∨gG 5 ov≠0 then((0,[],0,[]),14)
 else((c,ls,gQ nv (ls.getD 0 []) (ls.getD 0 []).length,ov.foldl (mkS c ls (gQ nv (ls.getD 0 []) (ls.getD 0 []).length) nv g.toNat) nv),0)
abbrev pzT (p:Int × List (List Int) × Int × List Int):PV:=pzV p.1 p.2.1 p.2.2.1 p.2.2.2
theorem BM (e:Int):Sup (bI [PV.agg [.int .i64 0,.nils,.int .i64 0,.nils],.int .i64 e]) (.tup [pzT (0,[],0,[]),.int .i64 e]):=by all_goals(refine Sup.via ?_;repeat'((conv=>whnf);first|intro _|apply aI|with_reducible exact vM rfl|exact⟨⟩|apply nM|apply fM);all_goals((try apply vM);(try simp only[vq]at*);try omega);all_goals(try(simp[CL.sub];done)))
theorem Ti (c:Int) (ls:List (List Int)) (nv ov:List Int) (g:Int) (h:bO ls) (hn:nv.length≤5000) (ho:ov.length≤5000):
 aF Tryz.prog 53 [.agg [.int .i64 c,.isl (.rows .i64 ls) .none],.isl (.ints .i64 nv) .none,.isl (.ints .i64 ov) .none,.int .i64 g] (.tup [pzT (I7 c ls nv ov g).1,.int .i64 (I7 c ls nv ov g).2]):=by
 unfold I7;by_cases h1:Dz c ls nv g=0
 case neg=>
  rw[if_pos h1];refine bR (md:=1) (rf:=[]) mixed au nP Tryz.func53 (by rfl) (by rfl) (by rfl) ?_
  repeat'((conv=>whnf);first|(intro hq;(try simp only[vw]at hq);try first|exact absurd hq (by decide)|exfalso;omega)|apply aI|with_reducible exact vM rfl|exact⟨⟩|apply nM|apply fM)
  all_goals((try apply vM);(try simp only[vq]at*);try omega)
  all_goals first|exact h|exact BM _|(exfalso;exact ‹¬aJ [_,_,_]≠0› h1)|skip
 rw[if_neg (by rw[h1];simp)]
 have hb:eP c ls=0:=by
  by_cases e:eP c ls=0
  ·exact e
  ·exact absurd ((jq [eP c ls,jP g,if(nv.length:Int)≠c then 2 else 0] 0 (by simp) (fun i hi=>absurd hi (ak4 i)) e).symm.trans h1) e
 by_cases h2:(jy nv).2≠0∨(jy nv).1=false
 ·rw[if_pos h2]
  refine bR (md:=1) (rf:=[]) mixed au nP Tryz.func53 (by rfl) (by rfl) (by rfl) ?_
  repeat'((conv=>whnf);first|(intro hq;(try simp only[vw]at hq);try first|exact absurd hq (by decide)|exfalso;omega)|apply aI|with_reducible exact vM rfl|exact⟨⟩|apply nM|apply fM)
  all_goals((try apply vM);(try simp only[vq]at*);try omega)
  all_goals first|exact h|exact BM _|(exfalso;exact ‹aJ [_,_,_]≠0› h1)|omega|(exfalso;rcases h2 with h2|h2<;>simp_all;done)|skip
 rw[if_neg h2];obtain⟨hlc,hnr,hi⟩:(nv.length:Int)=c∧lU nv=true∧jy nv=(true,0):=by
  have a1:(jy nv).2=0:=aiK.1 fun e=>h2 (.inl e);have a2:(jy nv).1=true:=by
   cases e:(jy nv).1 with
   |true=>rfl
   |false=>exact absurd (.inr e) h2
  have a3:cfE nv=0:=by
   by_cases e:cfE nv=0
   ·exact e
   ·unfold jy at a1;rw[if_pos e]at a1;exact absurd a1 e
  refine⟨?_,?_,Prod.ext a2 a1⟩
  ·by_cases e:(nv.length:Int)=c
   ·exact e
   ·unfold Dz at h1
    rw[if_pos e,hb]at h1;by_cases eg:jP g=0
    ·rw[eg]at h1;simp[aJ]at h1
    ·have:=jq [0,jP g,2] 1 (by simp) (fun i hi=>by(have:i=0:=by omega);subst this;rfl) eg
     rw[this]at h1;exact absurd h1 eg
  ·unfold jy at a2;rw[if_neg (by rw[a3];simp)]at a2;exact a2
 have hp:=Tg hb;have hfil:bO ls∧nv.length≤2000000∧uX c ls nv=0∧sN nv ls:=by
  have hr:=sZ hnr;have hc:=hp.c1;have hN:∀x∈nv,0≤x∧x≤16:=fun x hx=>by have:=hr x hx;omega
  refine⟨h,by omega,?_,⟨hp.ll.1,by have:=hp.ll;omega⟩,fun i hi=>?_⟩
  ·have e1:fU c ls=0:=by
    by_cases e:fU c ls=0
    ·exact e
    ·unfold eP at hb
     exact absurd ((jq [fU c ls,if 16<c then 20 else 0,if ls.length=0 then 12 else 0] 0 (by simp) (fun i hi=>absurd hi (ak4 i)) e).symm.trans hb) e
   have e2:uV nv=0:=by
    unfold uV;rw[if_neg];intro e;rw[ako]at e;obtain⟨x,hx,e⟩:=e;have:=hN x hx;unfold uU at e;simp at e;omega
   unfold uX;rw[e1,e2,if_neg (by omega)];rfl
  ·have hL:=hp.ln i hi
   refine⟨by have:=hL.len;omega,fun x hx=>by have:=hL.rng x hx;omega,fun k hk=>?_⟩
   have:=qd hN ((ls.getD i []).take k);have e:gQ nv (ls.getD i []) k=fZ nv ((ls.getD i []).take k):=rfl;rw[aiG,aiy hk]at this;have:=hL.len;omega
 have hi1:(jy nv).1=true:=by rw[hi]
 have hi2:(jy nv).2=0:=by rw[hi]
 cases h3:Wu ls nv with
 |false=>
  have h3':¬pJ (iH nv ls ls.length)<0:=of_decide_eq_false h3;rw[if_pos rfl];refine bR (md:=1) (rf:=[]) mixed au nP Tryz.func53 (by rfl) (by rfl) (by rfl) ?_
  repeat'((conv=>whnf);first|(intro hq;(try simp only[vw]at hq);try first|exact absurd hq (by decide)|exfalso;omega)|apply aI|with_reducible exact vM rfl|exact⟨⟩|apply nM|apply fM)
  all_goals((try apply vM);(try simp only[vq]at*);try omega)
  all_goals first|exact h|exact hfil|exact BM _|(exfalso;exact ‹aJ [_,_,_]≠0› h1)|(exfalso;exact h3' (by assumption))|omega|(exfalso;simp_all;done)|skip
 |true=>
  have h3':pJ (iH nv ls ls.length)<0:=of_decide_eq_true h3;rw[if_neg (by simp)]
  by_cases h4:(ov.length:Int)≠c∨gG 5 ov≠0
  ·rw[if_pos h4]
   refine bR (md:=1) (rf:=[]) mixed au nP Tryz.func53 (by rfl) (by rfl) (by rfl) ?_
   repeat'((conv=>whnf);first|(intro hq;(try simp only[vw]at hq);try first|exact absurd hq (by decide)|exfalso;omega)|apply aI|with_reducible exact vM rfl|exact⟨⟩|apply nM|apply fM)
   all_goals((try apply vM);(try simp only[vq]at*);try omega)
   all_goals first|exact h|exact hfil|exact BM _|(exfalso;exact ‹aJ [_,_,_]≠0› h1)|(exfalso;exact ‹¬pJ _<0› h3')|omega|(exfalso;rcases h4 with h4|h4<;>contradiction)|(exfalso;simp_all;done)|skip
  rw[if_neg h4];have h5:(ov.length:Int)=c:=aiK.1 fun e=>h4 (.inl e);have h6:gG 5 ov=0:=aiK.1 fun e=>h4 (.inr e);have hll:=hp.ll;have hc:=hp.c1;have hcond:(1≤nv.length∧nv.length≤1000000)∧ls.length≤5000∧∀i,i<ls.length→1≤(ls.getD i []).length∧(ls.getD i []).length≤5000:=⟨by omega,by omega,fun i hi=>by have:=hp.ln i hi;have:=this.ne;have:=(hp.ln i hi).len;omega⟩
  refine bR (md:=1) (rf:=[]) mixed au nP Tryz.func53 (by rfl) (by rfl) (by rfl) ?_
  repeat'((conv=>whnf);first|(intro hq;(try simp only[vw]at hq);try first|exact absurd hq (by decide)|exfalso;omega)|apply aI|with_reducible exact vM rfl|exact⟨⟩|apply nM|apply fM)
  all_goals((try apply vM);(try simp only[vq]at*);try omega)
  all_goals(try first|exact h|exact hfil|exact hcond|(exfalso;exact ‹aJ [_,_,_]≠0› h1)|(exfalso;exact ‹¬pJ _<0› h3')|omega|(exfalso;exact ‹gG 5 ov≠0› h6)|(exfalso;simp_all;done))
  conv=>whnf
  refine aM (X:=Nat) (fun k=>k≤(ls.getD 0 []).length) (fun k=>[(84,.int .i64 k)]) (fun k=>[(35,.cells (.pv [.int .i64 c,.isl (.rows .i64 ls) .none,.int .i64 (gQ nv (ls.getD 0 []) k),(.rsl 31 0 nv.length)]) false)]) (fun k=>(ls.getD 0 []).length-k) 0 ⟨aK,mixed,au,nP,aP⟩ (by rfl) (by omega) ?_ ?_
  ·repeat'((conv=>whnf);first|intro _|apply aI|with_reducible exact vM rfl|exact⟨⟩|apply nM|apply fM)
   all_goals((try apply vM);(try simp only[vq]at*);try omega)
  intro k hk;have hL:=hp.ln 0 (by omega)
  have hN:∀x∈nv,0≤x∧x≤16:=fun x hx=>by have:=sZ hnr x hx;omega
  have hsb:=qd hN ((ls.getD 0 []).take k);rw[aiG,aiy hk]at hsb;have esb:gQ nv (ls.getD 0 []) k=fZ nv ((ls.getD 0 []).take k):=rfl;have hLl:=hL.len;by_cases hlt:k<(ls.getD 0 []).length
  ·have hx:=hL.rng ((ls.getD 0 []).getD k 0) (cu hlt)
   have hv:=hN (nv.getD ((ls.getD 0 []).getD k 0).toNat 0) (cu (by omega))
   have hsx:=Br nv (ls.getD 0 []) k hlt
   repeat'((conv=>whnf);first|(intro hq;(try simp only[vw]at hq);try first|exact absurd hq (by decide)|exfalso;omega)|apply aI|with_reducible exact vM rfl|exact⟨⟩|apply nM|apply fM)
   all_goals((try apply vM);(try simp only[vq]at*);try omega)
   all_goals(try simp only[ak5]at*)
   all_goals(try omega)
   refine⟨k+1,[],⟨by omega,by omega⟩,?_⟩
   rw[hsx]
   repeat'((conv=>whnf);first|intro _|apply aI|with_reducible exact vM rfl|exact⟨⟩|apply nM|apply fM)
   all_goals((try apply vM);(try simp only[vq]at*);try omega)
   all_goals skip
  have e:k=(ls.getD 0 []).length:=by omega
  subst e
  repeat'((conv=>whnf);first|(intro hq;(try simp only[vw]at hq);try first|exact absurd hq (by decide)|exfalso;omega)|apply aI|with_reducible exact vM rfl|exact⟨⟩|apply nM|apply fM)
  all_goals((try apply vM);(try simp only[vq]at*);try omega)
  all_goals(try simp only[ak5]at*)
  all_goals(try(exfalso;omega))
  conv=>whnf
  obtain⟨sm,hsm⟩:∃sm,gQ nv (ls.getD 0 []) (ls.getD 0 []).length=sm:=⟨_,rfl⟩;rw[hsm];refine aM (X:=Nat) (fun k=>k≤ov.length) (fun k=>[(99,.int .i64 k)]) (fun k=>[(31,.cells (.ints .i64 ((ov.take k).foldl (mkS c ls sm nv g.toNat) nv)) false)]) (fun k=>ov.length-k) 0 ⟨aK,mixed,au,nP,aP⟩ (by rfl) (by omega) ?_ ?_
  ·repeat'((conv=>whnf);first|intro _|apply aI|with_reducible exact vM rfl|exact⟨⟩|apply nM|apply fM)
   all_goals((try apply vM);(try simp only[vq]at*);try omega)
  intro k hk;obtain⟨gk,hgk⟩:∃gk,(ov.take k).foldl (mkS c ls sm nv g.toNat) nv=gk:=⟨_,rfl⟩;have hsub:mQ gk nv:=by
   rw[←hgk];clear hgk;generalize ov.take k=l
   have:∀(l:List Int) (v:List Int),mQ v nv→mQ (l.foldl (mkS c ls sm nv g.toNat) v) nv:=by
    intro l;induction l with
    |nil=>exact fun v h=>h
    |cons y l ih=>
     intro v h;refine ih _ ?_;unfold mkS;split
     ·exact(h.set0 _).set1 _
     ·exact h.set0 _
   exact this l nv (mQ.refl nv)
  have hgl:=hsub.1;have hsmb: -999999999≤sm∧sm≤999999999:=by
   have:=qd hN (ls.getD 0 []);have e:gQ nv (ls.getD 0 []) (ls.getD 0 []).length=fZ nv ((ls.getD 0 []).take (ls.getD 0 []).length):=rfl;rw[ajS]at e;omega
  have hg5:1≤g∧g≤5:=by
   unfold Dz at h1;rw[hb]at h1;by_cases eg:jP g=0
   ·unfold jP at eg
    by_cases e:g<1∨5<g
    ·rw[if_pos e]at eg;cases eg
    ·omega
   ·have:=jq [0,jP g,if(nv.length:Int)≠c then 2 else 0] 1 (by simp) (fun i hi=>by(have:i=0:=by omega);subst this;rfl) eg
    rw[this]at h1;exact absurd h1 eg
  by_cases hlk:k<ov.length
  ·have hy:0≤ov.getD k 0∧ov.getD k 0<ov.length:=by
    unfold gG at h6;rw[if_neg (by omega)]at h6
    have:=gJ h6 k hlk;unfold nN at this;by_cases e:ov.getD k 0<0∨ov.length≤ov.getD k 0∨ov.getD k 0∈ov.take k
    ·rw[if_pos e]at this;cases this
    ·omega
   have hnext:(ov.take (k+1)).foldl (mkS c ls sm nv g.toNat) nv=mkS c ls sm nv g.toNat gk (ov.getD k 0):=by
    rw[dH hlk,akc,hgk];rfl
   have hpz:=aeT hb hlc hnr hsmb (hsub.set0 (ov.getD k 0).toNat);have hsl:(gk.set (ov.getD k 0).toNat 0).length=nv.length:=by rw[ait];exact hgl
   have tk:akt (nv.length-0) (List.drop 0 (gk.set (ov.getD k 0).toNat 0))=gk.set (ov.getD k 0).toNat 0:=dA hsl;rw[hgk];cases ho:jR (sol c ls sm (gk.set (ov.getD k 0).toNat 0) g.toNat)with
   |none=>
    have he:(sol c ls sm (gk.set (ov.getD k 0).toNat 0) g.toNat).2.2≠0:=by
     unfold jR at ho;by_cases e:(sol c ls sm (gk.set (ov.getD k 0).toNat 0) g.toNat).2.2=21
     ·rw[e];decide
     ·rw[if_neg e]at ho;cases ho
    have hst:mkS c ls sm nv g.toNat gk (ov.getD k 0)=(gk.set (ov.getD k 0).toNat 0).set (ov.getD k 0).toNat (nv.getD (ov.getD k 0).toNat 0):=by unfold mkS;rw[if_pos he]
    repeat'((conv=>whnf);first|refine Exists.intro (none) ?_|(intro hq;(try simp only[vw]at hq);try first|exact absurd hq (by decide)|exfalso;omega)|apply aI|with_reducible exact vM rfl|exact⟨⟩|apply nM|apply fM)
    all_goals((try apply vM);(try simp only[vq]at*);try omega)
    all_goals(try first|omega|exact⟨by rw[tk];exact hpz,by omega,by rw[tk];exact ho⟩)
    refine⟨k+1,[],⟨by omega,by omega⟩,?_⟩
    rw[hnext,hst]
    repeat'((conv=>whnf);first|intro _|apply aI|with_reducible exact vM rfl|exact⟨⟩|apply nM|apply fM)
    all_goals((try apply vM);(try simp only[vq]at*);try omega)
   |some r=>
    have hr:sol c ls sm (gk.set (ov.getD k 0).toNat 0) g.toNat=r:=by
     unfold jR at ho;by_cases e:(sol c ls sm (gk.set (ov.getD k 0).toNat 0) g.toNat).2.2=21
     ·rw[if_pos e]at ho;cases ho
     ·rw[if_neg e]at ho;exact Option.some.inj ho
    have hs1:r.2.2≠0→mkS c ls sm nv g.toNat gk (ov.getD k 0)=(gk.set (ov.getD k 0).toNat 0).set (ov.getD k 0).toNat (nv.getD (ov.getD k 0).toNat 0):=fun e=>by unfold mkS;rw[hr,if_pos e]
    have hs0:¬r.2.2≠0→mkS c ls sm nv g.toNat gk (ov.getD k 0)=gk.set (ov.getD k 0).toNat 0:=fun e=>by unfold mkS;rw[hr,if_neg e]
    repeat'((conv=>whnf);first|refine Exists.intro (some r) ?_|(intro hq;(try simp only[vw]at hq);try first|exact absurd hq (by decide)|exfalso;omega)|apply aI|with_reducible exact vM rfl|exact⟨⟩|apply nM|apply fM)
    all_goals((try apply vM);(try simp only[vq]at*);try omega)
    all_goals(try first|omega|exact⟨by rw[tk];exact hpz,by omega,by rw[tk];exact ho⟩)
    ·refine⟨k+1,[],⟨by omega,by omega⟩,?_⟩
     rw[hnext,hs1 (by assumption)]
     repeat'((conv=>whnf);first|intro _|apply aI|with_reducible exact vM rfl|exact⟨⟩|apply nM|apply fM)
     all_goals((try apply vM);(try simp only[vq]at*);try omega)
    ·refine⟨k+1,[],⟨by omega,by omega⟩,?_⟩
     rw[hnext,hs0 (by assumption)]
     repeat'((conv=>whnf);first|intro _|apply aI|with_reducible exact vM rfl|exact⟨⟩|apply nM|apply fM)
     all_goals((try apply vM);(try simp only[vq]at*);try omega)
  have e:k=ov.length:=by omega
  subst e;rw[ajS]at hgk⊢;rw[hgk];have s2:(CL.ints .i64 gk).sub 0 nv.length=.ints .i64 gk:=congrArg (CL.ints .i64) (dA hgl)
  repeat'((conv=>whnf);first|(intro hq;(try simp only[vw]at hq);try first|exact absurd hq (by decide)|exfalso;omega)|apply aI|with_reducible exact vM rfl|exact⟨⟩|apply nM|apply fM)
  all_goals((try apply vM);(try simp only[vq]at*);try omega)
  rw[s2];exact Sup.of rfl
end Go.Eng.YtcechbdgokjmgaaGreatDoor
namespace Go.Eng.YtcechbdgokjmgaaGreatDoor
open Go.Proofs Go.RowKit
set_option linter.unusedSimpArgs false
set_option linter.unusedVariables false
set_option maxHeartbeats 0
set_option maxRecDepth 100000
theorem Ms {s w:ByteArray} {l:List Int} (h:cZ s w=some l):l.length≤s.size:=by
 unfold cZ at h;split at h
 ·obtain rfl:=Option.some.inj h
  unfold numsL;rw[ajO,List.length_drop];have:=zL 32 s;omega
 ·cases h
structure Wv (r:Rd) (n:Nat):Prop where
 ln:r.line=n
 ll:r.L.length≤n
 rw:∀x∈r.L,x.length≤5000
 gl:r.gv.length≤5000
theorem abU {r:Rd} {n:Nat} {s:ByteArray} (h:Wv r n) (hs:s.size≤4096):Wv (nxt r s).2 (n+1):=by
 have h1:=h.ln;have h2:=h.ll;have h3:=h.rw;have h4:=h.gl;unfold nxt
 repeat' split
 all_goals refine⟨by simp only;omega,?_,?_,?_⟩
 all_goals simp only
 all_goals first|exact h3|exact h4|omega|(rw[ai7,ahK,ahG];omega)|(simp;done)|skip
 ·intro x hx
  rcases ah0.1 hx with hx|hx
  ·exact h3 _ hx
  ·obtain rfl:=akx.1 hx
   have:=Ms ‹cZ s FQ=some _›;omega
 ·have:=Ms ‹cZ s w9=some _›
  omega
noncomputable def rdG:Rd→List ByteArray→Rd × Bool
 |r,[]=>(r,true)
 |r,x::t=>if(nxt r x).1=true then rdG (nxt r x).2 t else((nxt r x).2,false)
def rd0:Rd:=⟨0,[],0,[],0,false⟩
abbrev kNl:ByteArray:=⟨#[10]⟩
def xB (s:ByteArray):Int:=aJ [if 4096<(s.size:Int)then 25 else 0,if Hz s kNl=false then 27 else 0]
noncomputable def iV (s:ByteArray):Rd × Bool:=rdG rd0 (dM 10 (jO s kNl))
noncomputable def PX (s:ByteArray):(Int × List (List Int) × Int × List Int) × Int × Int:=
 if xB s≠0 then((0,[],0,[]),0,xB s)
 else if(iV s).2=false then((0,[],0,[]),(iV s).1.line,24)
 else if(iV s).1.done=false then((0,[],0,[]),(iV s).1.line+1,24)
 else if pzE (iV s).1.c (iV s).1.L (iV s).1.sum (iV s).1.gv≠0 then((0,[],0,[]),0,pzE (iV s).1.c (iV s).1.L (iV s).1.sum (iV s).1.gv)
 else(((iV s).1.c,(iV s).1.L,(iV s).1.sum,(iV s).1.gv),0,0)
noncomputable def afX:CPT:=aA 22 (aB mM) (aA 88 (aB jJ) (aA 89 (aB fC) (aA 112 (aB Vl) (aA 113 (aB Bn) (aA 114 (aB Vn) (aA 115 (eO [] VT) noC))))))
theorem zQ:aW Tryz.prog afX:=aj (ak lT) (aj (ak jh) (aj (ak jr) (aj (ak aem) (aj (ak Hy) (aj (ak aen) (aj (dG [] aeF) aC))))))
def aeU (r:(Int × List (List Int) × Int × List Int) × Int × Int):PV:=.tup [pzT r.1,.int .i64 r.2.1,.int .i64 r.2.2]
theorem BN (a b:Int):Sup (bI [PV.agg [.int .i64 0,.nils,.int .i64 0,.nils],.int .i64 a,.int .i64 b]) (aeU ((0,[],0,[]),a,b)):=by all_goals(refine Sup.via ?_;repeat'((conv=>whnf);first|intro _|apply aI|with_reducible exact vM rfl|exact⟨⟩|apply nM|apply fM);all_goals((try apply vM);(try simp only[vq]at*);try omega);all_goals(try(simp[CL.sub];done)))
theorem Tj (s:ByteArray) (hs:s.size≤1000000):aF Tryz.prog 44 [.str s] (aeU (PX s)):=by
 have hx:aJ [if decide (4096<(s.size:Int))=true then 25 else 0,if(!Hz s ⟨#[10]⟩)=true then 27 else 0]=xB s:=by unfold xB;simp
 have htr:(jO s kNl).size≤s.size:=by
  have e3:(jO s kNl).size=(Go.Lib.trimSuffix s.data.toList kNl.data.toList).length:=by
   show(List.toArray _).size=_;rw[List.size_toArray]
  have e1:s.size=s.data.toList.length:=by rw[ais];rfl
  rw[e3,e1];unfold Go.Lib.trimSuffix;split
  ·rw[aiG];omega
  ·omega
 unfold PX;by_cases he:xB s=0
 case neg=>
  rw[if_pos he];have he2:=he;unfold xB at he2;refine bR (md:=1) (rf:=[]) mixed au zQ Tryz.func44 (by rfl) (by rfl) (by rfl) ?_
  repeat'((conv=>whnf);first|refine Exists.intro (10) ?_|(intro hq;(try simp only[vw]at hq);try first|exact absurd hq (by decide)|exfalso;omega)|apply aI|with_reducible exact vM rfl|exact⟨⟩|apply nM|apply fM)
  all_goals try refine VC.mk ?_
  all_goals first|omega|(exfalso;exact hq he2)|(exfalso;exact ‹¬aJ [_,_]≠0› he2)|(rw[←hx];exact BN _ _)|(simp;done)|skip
 rw[if_neg (by rw[he];simp)]
 have he2:=he;unfold xB at he2;have h4:s.size≤4096:=by
  by_cases e:4096<(s.size:Int)
  ·rw[if_pos e]at he2;cases h:Hz s kNl<;>simp[aJ,h]at he2
  ·omega
 refine bR (md:=1) (rf:=[]) mixed au zQ Tryz.func44 (by rfl) (by rfl) (by rfl) ?_
 repeat'((conv=>whnf);first|refine Exists.intro (10) ?_|(intro hq;(try simp only[vw]at hq);try first|exact absurd hq (by decide)|exfalso;omega)|apply aI|with_reducible exact vM rfl|exact⟨⟩|apply nM|apply fM)
 all_goals try refine VC.mk ?_
 all_goals(try first|omega|(exfalso;exact hq he2)|(simp;done)|(refine And.intro rfl ?_;show(jO s kNl).size<_;omega))
 conv=>whnf
 have hG:iV s=rdG rd0 (dM 10 (jO s kNl)):=rfl;have hln:=zL 10 (jO s kNl);have hsz:∀j,j<(dM 10 (jO s kNl)).length→((dM 10 (jO s kNl)).getD j .empty).size≤4096:=fun j hj=>by
  have:=ED (wZ hj);omega
 generalize dM 10 (jO s kNl)=W at hG hln hsz⊢
 refine aM (X:=Nat × Rd) (fun x=>x.1≤W.length∧Wv x.2 x.1∧iV s=rdG x.2 (W.drop x.1)) (fun x=>[(28,.int .i64 x.1)]) (fun x=>[(18,.cells (.pv [.int .i64 x.2.c,.isl (.rows .i64 x.2.L) (.own 22),.int .i64 x.2.sum,.isl (.ints .i64 x.2.gv) .none,.int .i64 x.2.line,.bp x.2.done]) false),(22,.tok 1 x.2.L.length)]) (fun x=>W.length-x.1) (0,rd0) ⟨aK,mixed,au,zQ,aP⟩ (by rfl) ⟨by omega,⟨rfl,ahO 0,fun x hx=>absurd hx (by simp[rd0]),by simp[rd0]⟩,hG⟩ ?_ ?_
 ·repeat'((conv=>whnf);first|intro _|apply aI|with_reducible exact vM rfl|exact⟨⟩|apply nM|apply fM)
  all_goals((try apply vM);(try simp only[vq]at*);try omega)
  all_goals skip
 rintro⟨i,r⟩ ⟨hi,hr,hT⟩
 simp only at hi hr hT;by_cases hlt:i<W.length
 ·have hsi:=hsz i hlt
  have hd:W.drop i=W.getD i .empty::W.drop (i+1):=by rw[ahZ,ah4 hlt];simp
  have hr1:=hr.ln;have hr2:=hr.ll;have hok:=abU hr hsi;rw[hd]at hT;unfold rdG at hT
  repeat'((conv=>whnf);first|refine Exists.intro (10) ?_|(intro hq;(try simp only[vw]at hq);try first|exact absurd hq (by decide)|exfalso;omega)|apply aI|with_reducible exact vM rfl|exact⟨⟩|apply nM|apply fM)
  all_goals((try apply vM);(try simp only[vq]at*);try omega)
  ·have hq:(nxt r (W.getD i .empty)).1=false:=hq
   rw[if_neg (by rw[hq];simp)]at hT
   rw[hT];exact BN _ _
  have hq:(nxt r (W.getD i .empty)).1=true:=hq;rw[if_pos hq]at hT;refine⟨(i+1,(nxt r (W.getD i .empty)).2),[],⟨⟨by simp only;omega,hok,hT⟩,by simp only;omega⟩,?_⟩
  repeat'((conv=>whnf);first|refine Exists.intro (10) ?_|(intro hq;(try simp only[vw]at hq);try first|exact absurd hq (by decide)|exfalso;omega)|apply aI|with_reducible exact vM rfl|exact⟨⟩|apply nM|apply fM)
  all_goals((try apply vM);(try simp only[vq]at*);try omega)
  all_goals skip
 have e:i=W.length:=by omega
 subst e;have hT2:iV s=(r,true):=by rw[hT,List.drop_length];rfl
 have hr1:=hr.ln;have hr2:=hr.ll;have hLN:bO r.L:=⟨by omega,hr.rw⟩
 have hgl:=hr.gl;rw[hT2]
 repeat'((conv=>whnf);first|refine Exists.intro (10) ?_|(intro hq;(try simp only[vw]at hq);try first|exact absurd hq (by decide)|exfalso;omega)|apply aI|with_reducible exact vM rfl|exact⟨⟩|apply nM|apply fM)
 all_goals((try apply vM);(try simp only[vq]at*);try omega)
 all_goals(try omega)
 ·rw[if_neg (by simp),if_pos hq]
  exact BN _ _
 ·exact⟨hLN,hgl⟩
 ·rename_i hd
  rw[if_neg (by simp),if_neg (by simp only[hd];simp),if_pos hq]
  exact BN _ _
 ·rename_i hd
  rw[if_neg (by simp),if_neg (by simp only[hd];simp),if_neg hq]
  exact Sup.of rfl
end Go.Eng.YtcechbdgokjmgaaGreatDoor
namespace Go.Eng.YtcechbdgokjmgaaGreatDoor
open Go.Proofs
set_option linter.unusedSimpArgs false
set_option linter.unusedVariables false
set_option maxHeartbeats 0
set_option maxRecDepth 100000
abbrev mR:ByteArray:=⟨#[99,101,108,108]⟩
abbrev sIs:ByteArray:=⟨#[105,115]⟩
abbrev I8:ByteArray:=⟨#[110,111,116]⟩
abbrev sBy:ByteArray:=⟨#[98,121]⟩
abbrev DC:ByteArray:=⟨#[111,110,32,108,105,110,101]⟩
def exW (g:Int) (r:ByteArray) (y x k:Int):List ByteArray:=
 [mR,itB y,sIs]++(if g≤3 then []else [I8])++[itB x,sBy,r]++(if 0≤k then [DC,itB k]else [])
def PY (c:Int) (ls:List (List Int)) (sum:Int) (gv:List Int) (r:ByteArray) (y x k:Int):ByteArray × Int:=
 if pzE c ls sum gv≠0 then(uY,pzE c ls sum gv)else if gF c ls r y x k≠0 then(uY,gF c ls r y x k)else(joB (exW (bJ r) r y x k) kBl,0)
noncomputable def ahh:CPT:=aA 22 (aB mM) (aA 101 (aB pY) (aA 107 (aB Bh) (aA 126 (aB VW) (aA 129 (aB FE) (aA 130 (aB qO) noC)))))
theorem gZ:aW Tryz.prog ahh:=aj (ak lT) (aj (ak rP) (aj (ak Hu) (aj (ak aeG) (aj (ak Lj) (aj (ak qP) aC)))))
theorem xC {g:Int} {r:ByteArray} {y x k:Int} (hy:oO y) (hx:oO x) (hk:oO k) (hr:r.size≤6):Vf (exW g r y x k) 1000000:=by
 have h1:=qH hy;have h2:=qH hx;have h3:=qH hk;refine⟨?_,fun w hw=>?_⟩
 ·unfold exW;split<;>split<;>simp
 ·unfold exW at hw
  simp only[ah0,ajg,List.not_mem_nil,or_false]at hw;rcases hw with((((rfl|rfl|rfl)|hw)|(rfl|rfl|rfl))|hw)
  ·decide
  ·omega
  ·decide
  ·split at hw
   ·simp at hw
   ·simp at hw;subst hw;decide
  ·omega
  ·decide
  ·omega
  ·split at hw
   ·simp at hw
    rcases hw with rfl|rfl
    ·decide
    ·omega
   ·simp at hw
theorem I9 (c:Int) (ls:List (List Int)) (sum:Int) (gv:List Int) (h:bO ls) (hg:gv.length≤5000) (r:ByteArray) (y x k:Int):
 aF Tryz.prog 63 [pzV c ls sum gv,ddV r y x k] (.tup [.str (PY c ls sum gv r y x k).1,.int .i64 (PY c ls sum gv r y x k).2]):=by
 unfold PY;by_cases he:pzE c ls sum gv=0
 case neg=>
  rw[if_pos he];refine av (md:=1) (rf:=[]) mixed au gZ Tryz.func63 (by rfl) (by rfl) (by rfl) ?_
  repeat'((conv=>whnf);first|(intro hq;(try simp only[vw]at hq);try first|exact absurd hq (by decide)|exfalso;omega)|apply aI|with_reducible exact vM rfl|exact⟨⟩|apply nM|apply fM)
  all_goals((try apply vM);(try simp only[vq]at*);try omega)
  all_goals first|exact⟨h,hg⟩|exact h|exact Sup.of rfl|(exfalso;exact he (by assumption))|(exfalso;contradiction)|skip
 rw[if_neg (by rw[he];simp)]
 by_cases hd:gF c ls r y x k=0
 case neg=>
  rw[if_pos hd];refine av (md:=1) (rf:=[]) mixed au gZ Tryz.func63 (by rfl) (by rfl) (by rfl) ?_
  repeat'((conv=>whnf);first|(intro hq;(try simp only[vw]at hq);try first|exact absurd hq (by decide)|exfalso;omega)|apply aI|with_reducible exact vM rfl|exact⟨⟩|apply nM|apply fM)
  all_goals((try apply vM);(try simp only[vq]at*);try omega)
  all_goals first|exact⟨h,hg⟩|exact h|exact Sup.of rfl|(exfalso;exact hd (by assumption))|(exfalso;contradiction)|skip
 rw[if_neg (by rw[hd];simp)]
 have hp:=bD.of he;have hc:=hp.c1;have hll:=hp.ll;have ho:=Dk.of hd;have hy:=ho.y;have hx:=ho.x;have hte:=Bg;have hk:k= -1∨(0≤k∧k<128):=by
  unfold gF at hd;by_cases h1:bJ r=0
  ·rw[if_pos h1]at hd;cases hd
  rw[if_neg h1]at hd;by_cases h2:y<0∨c≤y
  ·rw[if_pos h2]at hd;cases hd
  rw[if_neg h2]at hd;by_cases h3:x<1∨c<x
  ·rw[if_pos h3]at hd;cases hd
  rw[if_neg h3]at hd;by_cases h4:bJ r=2∨bJ r=3
  ·rw[if_pos h4]at hd
   by_cases h5:k= -1
   ·exact .inl h5
   ·rw[if_pos h5]at hd;cases hd
  ·rw[if_neg h4]at hd
   by_cases h5:k<0∨ls.length≤k∨y∉ls.getD k.toNat []
   ·rw[if_pos h5]at hd;cases hd
   ·have h6:¬k<0:=fun e=>h5 (.inl e)
    have h7:¬(ls.length:Int)≤k:=fun e=>h5 (.inr (.inl e));omega
 have b1:oO y:=⟨by omega,by omega⟩
 have b2:oO x:=⟨by omega,by omega⟩
 have b3:oO k:=⟨by omega,by omega⟩
 obtain⟨rfl,hg'⟩|⟨rfl,hg'⟩|⟨rfl,hg'⟩|⟨rfl,hg'⟩|⟨rfl,hg'⟩|hg':=uZ r
 ·rw[hg']
  have hw:=xC (g:=1) (r:=bP) (k:=k) b1 b2 b3 (by decide)
  rcases hk with hk0|hk0
  ·have e:exW 1 bP y x k=([mR,itB y,sIs]++[itB x,sBy,bP]):=by unfold exW;rw[if_pos (show(1:Int)≤3 by decide),if_neg (show¬(0:Int)≤k by omega),ajL];(try rfl)
   rw[e]at hw⊢;refine av (md:=1) (rf:=[]) mixed au gZ Tryz.func63 (by rfl) (by rfl) (by rfl) ?_
   repeat'((conv=>whnf);first|refine Exists.intro (1) ?_|(intro hq;(try simp only[vw]at hq);try first|exact absurd hq (by decide)|exfalso;omega)|apply aI|with_reducible exact vM rfl|exact⟨⟩|apply nM|apply fM)
   all_goals((try apply vM);(try simp only[vq]at*);try omega)
   all_goals first|exact⟨h,hg⟩|exact h|exact hg'|exact hd|exact he|exact b1|exact b2|exact b3|(rw[hte];decide)|exact hw|(simp;done)|(exfalso;contradiction)|(exfalso;omega)|exact Sup.of rfl|skip
  ·have e:exW 1 bP y x k=([mR,itB y,sIs]++[itB x,sBy,bP])++[DC,itB k]:=by unfold exW;rw[if_pos (show(1:Int)≤3 by decide),if_pos (show(0:Int)≤k by omega)];(try rfl)
   rw[e]at hw⊢;refine av (md:=1) (rf:=[]) mixed au gZ Tryz.func63 (by rfl) (by rfl) (by rfl) ?_
   repeat'((conv=>whnf);first|refine Exists.intro (1) ?_|(intro hq;(try simp only[vw]at hq);try first|exact absurd hq (by decide)|exfalso;omega)|apply aI|with_reducible exact vM rfl|exact⟨⟩|apply nM|apply fM)
   all_goals((try apply vM);(try simp only[vq]at*);try omega)
   all_goals first|exact⟨h,hg⟩|exact h|exact hg'|exact hd|exact he|exact b1|exact b2|exact b3|(rw[hte];decide)|exact hw|(simp;done)|(exfalso;contradiction)|(exfalso;omega)|exact Sup.of rfl|skip
 ·rw[hg']
  have hw:=xC (g:=2) (r:=bX) (k:=k) b1 b2 b3 (by decide)
  rcases hk with hk0|hk0
  ·have e:exW 2 bX y x k=([mR,itB y,sIs]++[itB x,sBy,bX]):=by unfold exW;rw[if_pos (show(2:Int)≤3 by decide),if_neg (show¬(0:Int)≤k by omega),ajL];(try rfl)
   rw[e]at hw⊢;refine av (md:=1) (rf:=[]) mixed au gZ Tryz.func63 (by rfl) (by rfl) (by rfl) ?_
   repeat'((conv=>whnf);first|refine Exists.intro (2) ?_|(intro hq;(try simp only[vw]at hq);try first|exact absurd hq (by decide)|exfalso;omega)|apply aI|with_reducible exact vM rfl|exact⟨⟩|apply nM|apply fM)
   all_goals((try apply vM);(try simp only[vq]at*);try omega)
   all_goals first|exact⟨h,hg⟩|exact h|exact hg'|exact hd|exact he|exact b1|exact b2|exact b3|(rw[hte];decide)|exact hw|(simp;done)|(exfalso;contradiction)|(exfalso;omega)|exact Sup.of rfl|skip
  ·have e:exW 2 bX y x k=([mR,itB y,sIs]++[itB x,sBy,bX])++[DC,itB k]:=by unfold exW;rw[if_pos (show(2:Int)≤3 by decide),if_pos (show(0:Int)≤k by omega)];(try rfl)
   rw[e]at hw⊢;refine av (md:=1) (rf:=[]) mixed au gZ Tryz.func63 (by rfl) (by rfl) (by rfl) ?_
   repeat'((conv=>whnf);first|refine Exists.intro (2) ?_|(intro hq;(try simp only[vw]at hq);try first|exact absurd hq (by decide)|exfalso;omega)|apply aI|with_reducible exact vM rfl|exact⟨⟩|apply nM|apply fM)
   all_goals((try apply vM);(try simp only[vq]at*);try omega)
   all_goals first|exact⟨h,hg⟩|exact h|exact hg'|exact hd|exact he|exact b1|exact b2|exact b3|(rw[hte];decide)|exact hw|(simp;done)|(exfalso;contradiction)|(exfalso;omega)|exact Sup.of rfl|skip
 ·rw[hg']
  have hw:=xC (g:=3) (r:=bZ) (k:=k) b1 b2 b3 (by decide)
  rcases hk with hk0|hk0
  ·have e:exW 3 bZ y x k=([mR,itB y,sIs]++[itB x,sBy,bZ]):=by unfold exW;rw[if_pos (show(3:Int)≤3 by decide),if_neg (show¬(0:Int)≤k by omega),ajL];(try rfl)
   rw[e]at hw⊢;refine av (md:=1) (rf:=[]) mixed au gZ Tryz.func63 (by rfl) (by rfl) (by rfl) ?_
   repeat'((conv=>whnf);first|refine Exists.intro (3) ?_|(intro hq;(try simp only[vw]at hq);try first|exact absurd hq (by decide)|exfalso;omega)|apply aI|with_reducible exact vM rfl|exact⟨⟩|apply nM|apply fM)
   all_goals((try apply vM);(try simp only[vq]at*);try omega)
   all_goals first|exact⟨h,hg⟩|exact h|exact hg'|exact hd|exact he|exact b1|exact b2|exact b3|(rw[hte];decide)|exact hw|(simp;done)|(exfalso;contradiction)|(exfalso;omega)|exact Sup.of rfl|skip
  ·have e:exW 3 bZ y x k=([mR,itB y,sIs]++[itB x,sBy,bZ])++[DC,itB k]:=by unfold exW;rw[if_pos (show(3:Int)≤3 by decide),if_pos (show(0:Int)≤k by omega)];(try rfl)
   rw[e]at hw⊢;refine av (md:=1) (rf:=[]) mixed au gZ Tryz.func63 (by rfl) (by rfl) (by rfl) ?_
   repeat'((conv=>whnf);first|refine Exists.intro (3) ?_|(intro hq;(try simp only[vw]at hq);try first|exact absurd hq (by decide)|exfalso;omega)|apply aI|with_reducible exact vM rfl|exact⟨⟩|apply nM|apply fM)
   all_goals((try apply vM);(try simp only[vq]at*);try omega)
   all_goals first|exact⟨h,hg⟩|exact h|exact hg'|exact hd|exact he|exact b1|exact b2|exact b3|(rw[hte];decide)|exact hw|(simp;done)|(exfalso;contradiction)|(exfalso;omega)|exact Sup.of rfl|skip
 ·rw[hg']
  have hw:=xC (g:=4) (r:=bV) (k:=k) b1 b2 b3 (by decide)
  rcases hk with hk0|hk0
  ·have e:exW 4 bV y x k=([mR,itB y,sIs]++[I8]++[itB x,sBy,bV]):=by unfold exW;rw[if_neg (show¬(4:Int)≤3 by decide),if_neg (show¬(0:Int)≤k by omega),ajL];(try rfl)
   rw[e]at hw⊢;refine av (md:=1) (rf:=[]) mixed au gZ Tryz.func63 (by rfl) (by rfl) (by rfl) ?_
   repeat'((conv=>whnf);first|refine Exists.intro (4) ?_|(intro hq;(try simp only[vw]at hq);try first|exact absurd hq (by decide)|exfalso;omega)|apply aI|with_reducible exact vM rfl|exact⟨⟩|apply nM|apply fM)
   all_goals((try apply vM);(try simp only[vq]at*);try omega)
   all_goals first|exact⟨h,hg⟩|exact h|exact hg'|exact hd|exact he|exact b1|exact b2|exact b3|(rw[hte];decide)|exact hw|(simp;done)|(exfalso;contradiction)|(exfalso;omega)|exact Sup.of rfl|skip
  ·have e:exW 4 bV y x k=([mR,itB y,sIs]++[I8]++[itB x,sBy,bV])++[DC,itB k]:=by unfold exW;rw[if_neg (show¬(4:Int)≤3 by decide),if_pos (show(0:Int)≤k by omega)];(try rfl)
   rw[e]at hw⊢;refine av (md:=1) (rf:=[]) mixed au gZ Tryz.func63 (by rfl) (by rfl) (by rfl) ?_
   repeat'((conv=>whnf);first|refine Exists.intro (4) ?_|(intro hq;(try simp only[vw]at hq);try first|exact absurd hq (by decide)|exfalso;omega)|apply aI|with_reducible exact vM rfl|exact⟨⟩|apply nM|apply fM)
   all_goals((try apply vM);(try simp only[vq]at*);try omega)
   all_goals first|exact⟨h,hg⟩|exact h|exact hg'|exact hd|exact he|exact b1|exact b2|exact b3|(rw[hte];decide)|exact hw|(simp;done)|(exfalso;contradiction)|(exfalso;omega)|exact Sup.of rfl|skip
 ·rw[hg']
  have hw:=xC (g:=5) (r:=bW) (k:=k) b1 b2 b3 (by decide)
  rcases hk with hk0|hk0
  ·have e:exW 5 bW y x k=([mR,itB y,sIs]++[I8]++[itB x,sBy,bW]):=by unfold exW;rw[if_neg (show¬(5:Int)≤3 by decide),if_neg (show¬(0:Int)≤k by omega),ajL];(try rfl)
   rw[e]at hw⊢;refine av (md:=1) (rf:=[]) mixed au gZ Tryz.func63 (by rfl) (by rfl) (by rfl) ?_
   repeat'((conv=>whnf);first|refine Exists.intro (5) ?_|(intro hq;(try simp only[vw]at hq);try first|exact absurd hq (by decide)|exfalso;omega)|apply aI|with_reducible exact vM rfl|exact⟨⟩|apply nM|apply fM)
   all_goals((try apply vM);(try simp only[vq]at*);try omega)
   all_goals first|exact⟨h,hg⟩|exact h|exact hg'|exact hd|exact he|exact b1|exact b2|exact b3|(rw[hte];decide)|exact hw|(simp;done)|(exfalso;contradiction)|(exfalso;omega)|exact Sup.of rfl|skip
  ·have e:exW 5 bW y x k=([mR,itB y,sIs]++[I8]++[itB x,sBy,bW])++[DC,itB k]:=by unfold exW;rw[if_neg (show¬(5:Int)≤3 by decide),if_pos (show(0:Int)≤k by omega)];(try rfl)
   rw[e]at hw⊢;refine av (md:=1) (rf:=[]) mixed au gZ Tryz.func63 (by rfl) (by rfl) (by rfl) ?_
   repeat'((conv=>whnf);first|refine Exists.intro (5) ?_|(intro hq;(try simp only[vw]at hq);try first|exact absurd hq (by decide)|exfalso;omega)|apply aI|with_reducible exact vM rfl|exact⟨⟩|apply nM|apply fM)
   all_goals((try apply vM);(try simp only[vq]at*);try omega)
   all_goals first|exact⟨h,hg⟩|exact h|exact hg'|exact hd|exact he|exact b1|exact b2|exact b3|(rw[hte];decide)|exact hw|(simp;done)|(exfalso;contradiction)|(exfalso;omega)|exact Sup.of rfl|skip
 have:=ho.g;omega
end Go.Eng.YtcechbdgokjmgaaGreatDoor
namespace Go.Eng
open Go.Proofs Go.Shelf Go.RowKit
set_option linter.unusedSimpArgs false
set_option linter.unusedVariables false
theorem yF {P:Program} {w:World} {ops:Array Oper} {rest:List Oper} {o:Oper} {a:Act} {Q:Exit→Act→World→Prop} (hgd:o.guard=none) (sl x:Operand) (t u:TypeId)
 (ho:o.op=.call {callee:=.builtin .append,args:= #[sl,x],argTypes:= #[t,u]})
 (e:TypeId) (i:TypeInfo) (ht:P.underlying t=some (.slice e)) (hu:P.underlying u=some .string) (hi:P.info? e=some i) (hz:i.zero=some (.int .u8 0)) (hsize:i.size=1) (hby:i.bytes=1)
 (v:Value) (n:Nat) (xs:List Value) (hs:a.eval sl=v) (hown:w.ownsRowF 0 e 1 v n xs) (s:ByteArray) (hx:a.eval x=.string s) (h63:n+s.size≤maxLen) (hbytes:n+s.size≤140737488355328)
 (h:∀v' w',w'.ownsRowF 0 e 1 v' (n+s.size) (xs++Lib.strCells s)→w.grownBy w' v.ownBlock→(∀b,b<w.heap.size→bsz w' b=bsz w b)→(∀g,v'.ownBlock=some g→v.ownBlock=some g∨w.heap.size≤g)→wpList P ops Q rest (a.put o.dst v') w'):
 wpList P ops Q (o::rest) a w:=by
 refine wpList_plain hgd fun K hK=>?_;obtain⟨v',w',hr,h2,h3,h4,h5⟩:=Oq (P:=P) w t u o.type e i ht hu hi hz hsize hby v n xs hown s h63 hbytes;unfold Oper.wp execOp;simp only[ho,resolve,invoke,builtin,Sem.run_bind,Sem.run_pure,Result.andThen_ok,List.map_toArray,ajN,List.map_nil,hs,hx,hr];exact hK _ _ (h v' w' h2 h3 h4 h5)
theorem yU (w:World) (a:Addr) (x:Value) (b:Nat):bsz (w.setCell a x) b=bsz w b:=by
 unfold bsz World.setCell;rw[ahU];by_cases e:a.block=b
 ·rw[if_pos e]
  cases w.heap[b]? with
  |none=>rfl
  |some o=>
   cases o with
   |cells c t f=>simp only[Option.map_some];split<;>simp
   |_=>rfl
 ·rw[if_neg e]
theorem Ja (a b:ByteArray):Lib.strCells a++Lib.strCells b=Lib.strCells (a++b):=by
 unfold Lib.strCells;rw[←List.map_append];congr 1
theorem Tk {P:Program} {ρ:Ren} (L:Lays.n240 P ρ) (X:Builder.X72 P ρ) (b:Nat) (p v:Value) (w:World) (hbk:w.heap[b]? =some (.cells #[p,v] (ρ.t 72) (0,0))) (hp:p=.pointer none∨p=.pointer (some ⟨b,0,none⟩)):
 Calls P (ρ.f 240) #[.pointer (some ⟨b,0,none⟩)] w fun e w'=>e=.returned (.tuple #[])∧w'.heap[b]? =some (.cells #[.pointer (some ⟨b,0,none⟩),v] (ρ.t 72) (0,0))∧w'.os=w.os∧w'.tape=w.tape∧w'.output=w.output∧w'.heap.size=w.heap.size∧
  (∀b',b'≠b→w'.heap[b']? =w.heap[b']?)∧∀b',bsz w' b'=bsz w b':=by
 rcases hp with rfl|rfl
 ·refine(Any.Builder_copyCheck_fresh L X b w (by rw[Lib.cell_of_heap hbk];rfl) (by simp[World.shape?,hbk]) (Lib.frozen_of_heap hbk 0)).mono ?_
  rintro e w' ⟨rfl,rfl⟩
  exact⟨rfl,by simp[World.setCell,ahU,hbk],rfl,rfl,rfl,by simp[World.setCell],fun b' hb'=>Below.heap_setCell _ _ _ _ hb',fun b'=>yU _ _ _ _⟩
 ·refine(Any.Builder_copyCheck_used L X b w (by rw[Lib.cell_of_heap hbk];rfl)).mono ?_
  rintro e w' ⟨rfl,rfl⟩
  exact⟨rfl,hbk,rfl,rfl,rfl,rfl,fun _ _=>rfl,fun _=>rfl⟩
set_option maxHeartbeats 4000000 in
set_option maxRecDepth 100000 in
theorem Tn {P:Program} {ρ:Ren} (L:Lays.n166 P ρ) (X:Builder.Extra P ρ) (b:Nat) (p v:Value) (bs s:ByteArray) (w:World) (hbk:w.heap[b]? =some (.cells #[p,v] (ρ.t 72) (0,0))) (hp:p=.pointer none∨p=.pointer (some ⟨b,0,none⟩))
 (hne:v.ownBlock≠some b) (hown:w.ownsRowF 0 (ρ.t 5) 1 v bs.size (Lib.strCells bs)) (hlen:bs.size+s.size≤140737488355328):
 Calls P (ρ.f 166) #[.pointer (some ⟨b,0,none⟩),.string s] w fun ex w'=>∃val v',ex=.returned val∧wR (ρ.t 72) (ρ.t 5) b v w w' (bs++s) v'∧val=.tuple #[.int .i64 s.size,.nilIface]:=by
 obtain⟨i0,hi,hz0,hz1,hz2⟩:=info_parts X.infoByte;have mixed:=L.mixed;have t72:=L.t72;have a72:=L.a72;have z72:=L.z72;have v72:=L.v72;have u72:=run_underlying L.t72;have t70:=L.t70;have a70:=L.a70;have z70:=L.z70;have v70:=L.v70;have u70:=run_underlying L.t70;have t37:=L.t37;have a37:=L.a37;have z37:=L.z37;have v37:=L.v37;have u37:=run_underlying L.t37;have t3:=L.t3;have a3:=L.a3;have z3:=L.z3;have v3:=L.v3;have u3:=run_underlying L.t3;have t9:=L.t9;have a9:=L.a9;have z9:=L.z9;have v9:=L.v9;have u9:=run_underlying L.t9;have t4:=L.t4;have a4:=L.a4;have z4:=L.z4;have v4:=L.v4;have u4:=run_underlying L.t4;have t164:=L.t164;have a164:=L.a164;have z164:=L.z164;have v164:=L.v164;have u164:=run_underlying L.t164;have t5:=X.t5;have a5:=X.a5;have z5:=X.z5;have v5:=X.v5;have u5:=run_underlying X.t5;have e240:∀args w,(callFunc (ρ.f 240) args).run P w=.ok (.enter (ρ.f 240) args) w:=enters_of L.f240 (by kernel_rfl) rfl
 go_enter L.f166,Body.n166_ntmps ρ
 go_wp2_with (go_at_fn (ρ.f 240);refine(Tk {L with} X.toX72 b p v _ hbk hp).mono ?_)
 rintro e w1 ⟨rfl,hb1,o1,tp1,ou1,sz1,oth1,bz1⟩
 have hown1:w1.ownsRowF 0 (ρ.t 5) 1 v bs.size (Lib.strCells bs):=ny hown fun g hg=>oth1 g (fun e=>hne (by rw[hg,e]))
 have c0:w1.cell? ⟨b,0,none⟩=some (.pointer (some ⟨b,0,none⟩)):=by rw[Lib.cell_of_heap hb1];rfl
 have c1:w1.cell? ⟨b,1,none⟩=some v:=by rw[Lib.cell_of_heap hb1];rfl
 go_wp2_with (at_builtin;refine yF rfl _ _ (ρ.t 37) (ρ.t 9) rfl (ρ.t 5) i0 L.t37 L.t9 hi hz0 hz1 hz2 _ _ _ rfl hown1 s rfl ?c3 ?c4 ?_)
 case c3=>unfold maxLen;omega
 case c4=>omega
 intro v' w2 hown' hgrow hbz hnew;have hlt:b<w1.heap.size:=lt_of_heap hb1;have hb2:w2.heap[b]? =some (.cells #[.pointer (some ⟨b,0,none⟩),v] (ρ.t 72) (0,0)):=by
  rw[hgrow.block b hlt (fun e=>hne e.symm)];exact hb1
 have d0:w2.cell? ⟨b,0,none⟩=some (.pointer (some ⟨b,0,none⟩)):=by rw[Lib.cell_of_heap hb2];rfl
 have d1:w2.cell? ⟨b,1,none⟩=some v:=by rw[Lib.cell_of_heap hb2];rfl
 have f1:w2.frozen? ⟨b,1,none⟩=false:=Lib.frozen_of_heap hb2 1;have hvb:v'.ownBlock≠some b:=fun e=>by
  rcases hnew b e with h|h
  ·exact hne h
  ·omega
 obtain⟨ao,n',cap,rfl⟩:∃ao n' cap,v'=.slice ao n' cap:=by
  rcases hown'.2 with⟨hv,_⟩|⟨g,cap,cur,fz,hv,_⟩
  ·exact⟨_,_,_,hv⟩
  ·exact⟨_,_,_,hv⟩
 go_wp2
 go_ret2
 refine⟨_,.slice ao n' cap,rfl,⟨⟨_,?_,.inr rfl⟩,hvb,?_,?_,?_,?_,?_,?_,?_,?_⟩,rfl⟩
 ·simp[World.setCell,ahU,hb2]
 ·rw[←Ja,ByteArray.size_append]
  exact ny hown' fun g hg=>Below.heap_setCell _ _ _ _ (fun e=>hvb (by rw[hg,e]))
 ·intro g hg
  rcases hnew g hg with h|h
  ·exact .inl h
  ·exact .inr (by omega)
 ·exact hgrow.os.trans o1
 ·exact hgrow.tape.trans tp1
 ·exact hgrow.output.trans ou1
 ·have:=hgrow.size;simp[World.setCell];omega
 ·intro b' h1 h2 h3
  rw[Below.heap_setCell _ _ _ _ h2,hgrow.block b' (by omega) (fun e=>h3 e.symm)]
  exact oth1 b' h2
 ·intro b' h1
  rw[yU,hbz b' (by omega)]
set_option maxHeartbeats 4000000 in
set_option maxRecDepth 100000 in
theorem PZ {P:Program} {ρ:Ren} (L:Lays.n169 P ρ) (X:Builder.Extra P ρ) (b:Nat) (p v:Value) (s:ByteArray) (w:World) (hbk:w.heap[b]? =some (.cells #[p,v] (ρ.t 72) (0,0))) (hp:p=.pointer none∨p=.pointer (some ⟨b,0,none⟩))
 (hne:v.ownBlock≠some b) (hown:w.ownsRowF 0 (ρ.t 5) 1 v s.size (Lib.strCells s)) (h0:0<s.size):
 Calls P (ρ.f 169) #[.pointer (some ⟨b,0,none⟩)] w fun ex w'=>∃val v',ex=.returned val∧wR (ρ.t 72) (ρ.t 5) b v w w' s v'∧val=.string s:=by
 obtain⟨g,cap,cur,fz,rfl,hbg,hg,hfz,hnc,hcm,hcs,htake⟩:∃g cap cur fz,v=.slice (some ⟨g,0,none⟩) s.size cap∧0≤g∧w.heap[g]? =some (.cells cur (ρ.t 5) fz)∧fz.2≤s.size*1∧s.size≤cap∧cap≤maxLen∧cur.size=cap*1∧cur.toList.take (s.size*1)=Lib.strCells s:=by
  rcases hown.2 with⟨_,hz⟩|⟨g,cap,cur,fz,hv,r⟩
  ·omega
  ·exact⟨g,cap,cur,fz,hv,r⟩
 have hgb:g≠b:=fun e=>hne (by simp[Value.ownBlock,e])
 have hls:s.data.toList.length=s.size:=by rw[ais];rfl
 have c1:w.drew.cell? ⟨b,1,none⟩=some (.slice (some ⟨g,0,none⟩) s.size cap):=by
  have:w.drew.heap[b]? =some (.cells #[p,.slice (some ⟨g,0,none⟩) s.size cap] (ρ.t 72) (0,0)):=hbk;rw[Lib.cell_of_heap this];rfl
 have hSD:(Builtin.unsafeSliceData_ #[(ρ.t 37)] (ρ.t 127) #[.slice (some ⟨g,0,none⟩) s.size cap]).run P w.drew=.ok (.pointer (some ⟨g,0,none⟩)) w.drew:=
  Lib.run_unsafeSliceData_row _ _ _ _ _ _ (by omega)
 have hUS:(Builtin.unsafeString_ #[(ρ.t 127),(ρ.t 3)] (ρ.t 9) #[.pointer (some ⟨g,0,none⟩),.int .i64 s.size]).run P w.drew=.ok (.string s) (w.drew.freeze ⟨g,0,none⟩ s.size):=by
  have:=Lib.run_unsafeString_row (P:=P) w.drew (ρ.t 127) (ρ.t 3) (ρ.t 9) (ρ.t 5) L.t127 X.cellsByte g cur.size (by have hg':w.drew.heap[g]? =some (.cells cur (ρ.t 5) fz):=hg;simp[World.shape?,hg']) s.data.toList (by intro e;rw[e]at hls;exact absurd hls (by rw[ahG];omega)) (by omega) (by unfold maxLen at hcm;omega) (by
   intro j x hx;exact hown.cells (g:=g) rfl j (.int .u8 x.toNat) (by simp[Lib.strCells,hx]))
  rw[hls]at this;exact this
 have hfin:wR (ρ.t 72) (ρ.t 5) b (.slice (some ⟨g,0,none⟩) s.size cap) w (w.drew.freeze ⟨g,0,none⟩ s.size) s (.slice (some ⟨g,0,none⟩) s.size cap):=by
  have hgn:(w.drew.freeze ⟨g,0,none⟩ s.size).heap[g]? =some (.cells cur (ρ.t 5) (if fz.1==fz.2 then(0,0+s.size)else(min fz.1 0,max fz.2 (0+s.size)))):=by
   unfold World.freeze;rw[if_neg (by omega)]
   have hg':w.drew.heap[g]? =some (.cells cur (ρ.t 5) fz):=hg;simp[ahU,hg']
  have hoth:∀b',b'≠g→(w.drew.freeze ⟨g,0,none⟩ s.size).heap[b']? =w.heap[b']? :=fun b' hb'=>by
   unfold World.freeze;rw[if_neg (by omega)]
   simp only[ahU];rw[if_neg (fun e=>hb' e.symm)];rfl
  refine⟨⟨p,(hoth b (fun e=>hgb e.symm)).trans hbk,hp⟩,hne,⟨hown.1,.inr ⟨g,cap,cur,_,rfl,hbg,hgn,?_,hnc,hcm,hcs,htake⟩⟩,fun g' hg'=>.inl hg',?_,?_,?_,?_,fun b' _ _ h3=>hoth b' (fun e=>h3 (by simp[Value.ownBlock,e])),fun b' _=>?_⟩
  ·split
   ·simp
   ·simp;omega
  ·unfold World.freeze;split<;>rfl
  ·unfold World.freeze;split<;>rfl
  ·unfold World.freeze;split<;>rfl
  ·unfold World.freeze
   split
   ·exact ahO _
   ·exact Nat.le_of_eq (Array.size_modify ..).symm
  ·by_cases e:b'=g
   ·subst e;unfold bsz;rw[hgn,hg]
   ·exact eZ (hoth b' e)
 have mixed:=L.mixed;have t72:=L.t72;have a72:=L.a72;have z72:=L.z72;have v72:=L.v72;have u72:=run_underlying L.t72;have t70:=L.t70;have a70:=L.a70;have z70:=L.z70;have v70:=L.v70;have u70:=run_underlying L.t70;have t37:=L.t37;have a37:=L.a37;have z37:=L.z37;have v37:=L.v37;have u37:=run_underlying L.t37;have t127:=L.t127;have a127:=L.a127;have z127:=L.z127;have v127:=L.v127;have u127:=run_underlying L.t127;have t3:=L.t3;have a3:=L.a3;have z3:=L.z3;have v3:=L.v3;have u3:=run_underlying L.t3;have t9:=L.t9;have a9:=L.a9;have z9:=L.z9;have v9:=L.v9;have u9:=run_underlying L.t9;have t5:=X.t5;have a5:=X.a5;have z5:=X.z5;have v5:=X.v5;have u5:=run_underlying X.t5
 go_enter L.f169,Body.n169_ntmps ρ
 go_wp2
 go_region_o
 all_goals(go_wp2;go_ret;exact⟨_,_,rfl,hfin,rfl⟩)
end Go.Eng
namespace Go.Eng.YtcechbdgokjmgaaGreatDoor
open Go.Proofs Go.RowKit
set_option linter.unusedSimpArgs false
set_option linter.unusedVariables false
set_option maxHeartbeats 0
set_option maxRecDepth 100000
def P5:CT:=fun args n H K=>match args with
 | [p,x]=>match p with
  |.rp k off=>match x with
   |.str s=>bU H k fun o=>match o with
    |.bld t e acc=>ifK (ah6 off 0&&ah6 t 163&&ah6 e 5) (VC (acc.size+s.size≤140737488355328)∧K (.tup [.int .i64 s.size,.nili]) [(k,.bld t e (acc++s))] [k] [])
    |_=>False
   |_=>False
  |_=>False
 |_=>False
def P6:CT:=fun args n H K=>match args with
 | [p]=>match p with
  |.rp k off=>bU H k fun o=>match o with
   |.bld t e acc=>ifK (ah6 off 0&&ah6 t 163&&ah6 e 5) (K (.int .i64 acc.size) [(k,.bld t e acc)] [k] [])
   |_=>False
  |_=>False
 |_=>False
def P7:CT:=fun args n H K=>match args with
 | [p]=>match p with
  |.rp k off=>bU H k fun o=>match o with
   |.bld t e acc=>ifK (ah6 off 0&&ah6 t 163&&ah6 e 5) (VC (0<acc.size)∧K (.str acc) [(k,.bld t e acc)] [k] [])
   |_=>False
  |_=>False
 |_=>False
theorem DF {S:Imm} {w:World} {ι:Ix} {k b:Nat} {v:Value} (h:Rep S w ι (.rp k 0) v) (hb:ι.o k=some b):v=.pointer (some ⟨b,0,none⟩):=by
 cases h with
 |rp _ _ _ b' hk=>rw[hb]at hk;cases hk;rfl
theorem Ww {S:Imm} {w:World} {ι:Ix} {s:ByteArray} {v:Value} (h:Rep S w ι (.str s) v):v=.string s:=by cases h;rfl
theorem Wx:COK Tryz.prog 106 P5:=by
 intro args n H K hk;unfold P5 at hk;split at hk
 ·split at hk
  ·rename_i k off
   split at hk
   ·rename_i s
    rw[aX]at hk;obtain⟨o,hob,hk⟩:=hk;split at hk
    ·rename_i t e acc
     simp only[aL,aia]at hk;obtain⟨⟨⟨h1,h2⟩,h3⟩,⟨hsz⟩,hk⟩:=hk;have h1:=aib h1;have h2:=aib h2;have h3:=aib h3;subst h1;subst h2;subst h3;refine⟨_,_,_,[],hk,zq (enters' Tryz.func106 (by rfl) (by rfl)) hob fun S w ι vs b p v hr ho h0 hp hne hown=>?_⟩
     obtain⟨v1,v2,rfl,r1,r2⟩:=G6 hr;obtain rfl:=DF r1 ho;obtain rfl:=Ww r2;refine(Tn (P:=Tryz.prog) (ρ:=Tryz.lays156_ren) {Tryz.lays156 with} Tryz.Builder_Extra_156 b p v acc s w h0 hp hne hown hsz).mono ?_
     rintro ex w' ⟨val,v',rfl,B,rfl⟩
     exact⟨_,v',rfl,B,fun S' ι'=>.tup _ _ _ rfl fun i hi=>by
      match i,hi with
      |0,_=>exact .int _ _ _
      |1,_=>exact .nili _⟩
    ·exact hk.elim
   ·exact hk.elim
  ·exact hk.elim
 ·exact hk.elim
theorem Wy:COK Tryz.prog 110 P7:=by
 intro args n H K hk;unfold P7 at hk;split at hk
 ·split at hk
  ·rename_i k off
   rw[aX]at hk;obtain⟨o,hob,hk⟩:=hk;split at hk
   ·rename_i t e acc
    simp only[aL,aia]at hk;obtain⟨⟨⟨h1,h2⟩,h3⟩,⟨hsz⟩,hk⟩:=hk;have h1:=aib h1;have h2:=aib h2;have h3:=aib h3;subst h1;subst h2;subst h3;refine⟨_,_,_,[],hk,zq (enters' Tryz.func110 (by rfl) (by rfl)) hob fun S w ι vs b p v hr ho h0 hp hne hown=>?_⟩
    obtain⟨v1,rfl,r1⟩:=zu hr;obtain rfl:=DF r1 ho;refine(PZ (P:=Tryz.prog) (ρ:=Tryz.lays156_ren) {Tryz.lays156 with} Tryz.Builder_Extra_156 b p v acc w h0 hp hne hown hsz).mono ?_
    rintro ex w' ⟨val,v',rfl,B,rfl⟩
    exact⟨_,v',rfl,B,fun S' ι'=>.str _ _⟩
   ·exact hk.elim
  ·exact hk.elim
 ·exact hk.elim
set_option maxRecDepth 100000 in
theorem abV (b:Nat) (p v:Value) (s:ByteArray) (w:World) (hbk:w.heap[b]? =some (.cells #[p,v] 163 (0,0))) (hown:w.ownsRowF 0 5 1 v s.size (Lib.strCells s)):
 Calls Tryz.prog 109 #[.pointer (some ⟨b,0,none⟩)] w fun ex w'=>ex=.returned (.int .i64 s.size)∧w'=w:=by
 obtain⟨ao,cap,rfl⟩:∃ao cap,v=.slice ao s.size cap:=by
  rcases hown.2 with⟨hv,h0⟩|⟨g,cap,cur,fz,hv,_⟩
  ·exact⟨none,0,by rw[hv,h0]⟩
  ·exact⟨_,_,hv⟩
 have c1:w.cell? ⟨b,1,none⟩=some (.slice ao s.size cap):=by rw[Lib.cell_of_heap hbk];rfl
 have mixed:=Tryz.lays156.mixed;have t72:=Tryz.underlying163;have u72:=run_underlying Tryz.underlying163
 go_enter Tryz.func109,Tryz.ntmps109
 go_wp2
 go_ret
 exact⟨rfl,rfl⟩
theorem Wz:COK Tryz.prog 109 P6:=by
 intro args n H K hk;unfold P6 at hk;split at hk
 ·split at hk
  ·rename_i k off
   rw[aX]at hk;obtain⟨o,hob,hk⟩:=hk;split at hk
   ·rename_i t e acc
    simp only[aL,aia]at hk;obtain⟨⟨⟨h1,h2⟩,h3⟩,hk⟩:=hk;have h1:=aib h1;have h2:=aib h2;have h3:=aib h3;subst h1;subst h2;subst h3;refine⟨_,_,_,[],hk,zq (enters' Tryz.func109 (by rfl) (by rfl)) hob fun S w ι vs b p v hr ho h0 hp hne hown=>?_⟩
    obtain⟨v1,rfl,r1⟩:=zu hr;obtain rfl:=DF r1 ho;refine(abV b p v acc w h0 hown).mono ?_
    rintro ex w' ⟨rfl,rfl⟩
    exact⟨_,v,rfl,⟨⟨p,h0,hp⟩,hne,hown,fun g hg=>.inl hg,rfl,rfl,rfl,ahO _,fun _ _ _ _=>rfl,fun _ _=>rfl⟩,fun S' ι'=>.int _ _ _⟩
   ·exact hk.elim
  ·exact hk.elim
 ·exact hk.elim
def sNl:ByteArray:=⟨#[10]⟩
def lnB (w:ByteArray) (l:List Int):ByteArray:=joB ([w]++l.map itB) kBl++sNl
theorem nQ {w:ByteArray} {l:List Int} (hw:w.size≤10) (h:∀x∈l,oO x):(lnB w l).size≤22*(l.length+1)+1:=by
 have:=Ht (xs:=[w]++l.map itB) (b:=21) fun x hx=>by
  rcases ah0.1 hx with hx|hx
  ·simp at hx;subst hx;omega
  ·obtain⟨n,hn,rfl⟩:=akC.1 hx
   exact qH (h n hn)
 unfold lnB;rw[ByteArray.size_append];have e:sNl.size=1:=rfl;simp only[ai7,ahK,ahG,ajO]at this;omega
noncomputable def ahi:CPT:=aA 106 P5 (aA 107 (aB Bh) (aA 108 (aB Hw) noC))
theorem abW:aW Tryz.prog ahi:=aj Wx (aj (ak Hu) (aj (ak Vh) aC))
structure DI (acc w:ByteArray) (l:List Int):Prop where
 sa:acc.size≤1000000000
 sw:w.size≤10
 sl:1≤l.length∧l.length≤100000
 sn:∀x∈l,oO x
theorem WA (acc w:ByteArray) (l:List Int) (h:DI acc w l):jm Tryz.prog 105 [.str w,.isl (.ints .i64 l) .none,.rp 0 0] [.bld 163 5 acc] [] [.bld 163 5 (acc++lnB w l)]:=by
 obtain⟨h1,h2,h3,h4⟩:=h;have hs:=nQ h2 h4;have hT:Vg l:=⟨by omega,fun i hi=>h4 _ (dx hi)⟩
 have hW:Vf ([w]++l.map itB) 1000000:=⟨by simp;omega,fun x hx=>by
  rcases ah0.1 hx with hx|hx
  ·simp at hx;subst hx;omega
  ·obtain⟨n,hn,rfl⟩:=akC.1 hx
   have:=qH (h4 n hn);omega⟩
 have e1:(joB ([w]++l.map itB) kBl).size+1=(lnB w l).size:=by
  unfold lnB;rw[ByteArray.size_append];rfl
 unfold lnB sNl;unfold lnB sNl at hs e1;refine bL (md:=1) (rf:=[]) mixed au abW 1 [] Tryz.func105 (by rfl) (by rfl) (by rfl) ?_
 repeat'((conv=>whnf);first|intro _|apply aI|with_reducible exact vM rfl|exact⟨⟩|apply nM|apply fM)
 all_goals((try apply vM);(try simp only[vq]at*);try omega)
 all_goals first|exact hT|exact hW|(simp only[ai7,ajO,ahK,ahG];omega)|(rw[ByteArray.size_append]at*;omega)|skip
def WB:LSp:=fun xs objs K=>match xs,objs with
 | [.str w,.isl (.ints .i64 l) .none,.rp 0 0],[.bld 163 5 acc]=>VC (DI acc w l)∧K [] [.bld 163 5 (acc++lnB w l)]
 |_,_=>False
theorem aeV:LOK Tryz.prog 105 WB:=by
 intro xs objs K hk;unfold WB at hk;split at hk
 ·exact⟨_,_,hk.2,WA _ _ _ hk.1.get⟩
 ·exact hk.elim
abbrev tq:ByteArray:=⟨#[99,101,108,108,115]⟩
abbrev P8:ByteArray:=⟨#[115,117,109]⟩
abbrev FU:ByteArray:=⟨#[108,105,110,101]⟩
abbrev xD:ByteArray:=⟨#[103,105,118,101,110]⟩
def prA (c:Int) (ls:List (List Int)) (sum:Int) (k:Nat):ByteArray:=(ls.take k).foldl (fun a l=>a++lnB FU l) (.empty++lnB tq [c]++lnB P8 [sum])
def xE (c:Int) (ls:List (List Int)) (sum:Int) (gv:List Int):ByteArray:=prA c ls sum ls.length++lnB xD gv
def P9 (c:Int) (ls:List (List Int)) (sum:Int) (gv:List Int):ByteArray × Int:=
 if pzE c ls sum gv≠0 then(uY,pzE c ls sum gv)else if 4096<(xE c ls sum gv).size then(uY,25)else(xE c ls sum gv,0)
theorem Jb (c:Int) (ls:List (List Int)) (sum:Int) (k:Nat) (h:k<ls.length):prA c ls sum (k+1)=prA c ls sum k++lnB FU (ls.getD k []):=by
 unfold prA;rw[List.take_add_one,ah4 h,akc,ahZ,ah4 h];rfl
noncomputable def ahj:CPT:=aA 22 (aB mM) (aA 105 (eO [] WB) (aA 109 P6 (aA 110 P7 noC)))
theorem DJ:aW Tryz.prog ahj:=aj (ak lT) (aj (dG [] aeV) (aj Wz (aj Wy aC)))
theorem WC {c:Int} {ls:List (List Int)} {sum:Int} {gv:List Int} (hp:bD c ls sum gv):∀k,k≤ls.length→(prA c ls sum k).size≤5000+1000*k:=by
 intro k;induction k with
 |zero=>
  intro _;have h1:=nQ (w:=tq) (l:=[c]) (by decide) (fun x hx=>by simp at hx;subst hx;have:=hp.c1;exact⟨by omega,by omega⟩)
  have h2:=nQ (w:=P8) (l:=[sum]) (by decide) (fun x hx=>by simp at hx;subst hx;have:=hp.sm;exact⟨by omega,by omega⟩)
  show(ByteArray.empty++lnB tq [c]++lnB P8 [sum]).size≤_;rw[ByteArray.size_append,ByteArray.size_append];simp at h1 h2⊢;omega
 |succ k ih=>
  intro hk;have hL:=hp.ln k (by omega)
  have h1:=nQ (w:=FU) (l:=ls.getD k []) (by decide) (fun x hx=>by have:=hL.rng x hx;have:=hp.c1;exact⟨by omega,by omega⟩)
  rw[Jb _ _ _ _ (by omega),ByteArray.size_append]
  have:=ih (by omega)
  have:=hL.len;omega
theorem Qa (c:Int) (ls:List (List Int)) (sum:Int) (gv:List Int) (h:bO ls) (hg:gv.length≤5000):
 aF Tryz.prog 42 [pzV c ls sum gv] (.tup [.str (P9 c ls sum gv).1,.int .i64 (P9 c ls sum gv).2]):=by
 unfold P9;by_cases he:pzE c ls sum gv=0
 case neg=>
  rw[if_pos he];refine av (md:=1) (rf:=[2163]) mixed au DJ Tryz.func42 (by rfl) (by rfl) (by rfl) ?_
  repeat'((conv=>whnf);first|(intro hq;(try simp only[vw]at hq);try first|exact absurd hq (by decide)|exfalso;omega)|apply aI|with_reducible exact vM rfl|exact⟨⟩|apply nM|apply fM)
  all_goals((try apply vM);(try simp only[vq]at*);try omega)
  all_goals first|exact⟨h,hg⟩|exact Sup.of rfl|(exfalso;exact he (by assumption))|(exfalso;contradiction)|skip
 rw[if_neg (by rw[he];simp)]
 have hp:=bD.of he;have hc:=hp.c1;have hs:=hp.sm;have hgl:=hp.gl;have hll:=hp.ll;have hA:=WC hp;have k1:DI .empty tq [c]:=⟨by decide,by decide,by simp,fun x hx=>by simp at hx;subst hx;exact⟨by omega,by omega⟩⟩
 have k2:DI (.empty++lnB tq [c]) P8 [sum]:=⟨by
  have h1:=nQ (w:=tq) (l:=[c]) (by decide) (fun x hx=>by simp at hx;subst hx;exact⟨by omega,by omega⟩)
  rw[ByteArray.size_append];simp at h1⊢;omega,by decide,by simp,fun x hx=>by simp at hx;subst hx;exact⟨by omega,by omega⟩⟩
 have k3:∀k,k<ls.length→DI (prA c ls sum k) FU (ls.getD k []):=fun k hk=>⟨by have:=hA k (by omega);omega,by decide,by have:=(hp.ln k hk).ne;have:=(hp.ln k hk).len;omega,fun x hx=>by have:=(hp.ln k hk).rng x hx;exact⟨by omega,by omega⟩⟩
 have k4:DI (prA c ls sum ls.length) xD gv:=⟨by have:=hA ls.length (ahO _);omega,by decide,by omega,fun x hx=>by have:=hp.gr x hx;exact⟨by omega,by omega⟩⟩
 have hT:0<(xE c ls sum gv).size∧(xE c ls sum gv).size≤1000000:=by
  have h1:=hA ls.length (ahO _);have h2:=nQ (w:=xD) (l:=gv) (by decide) k4.sn
  have h3:0<(lnB xD gv).size:=by unfold lnB;rw[ByteArray.size_append];exact Nat.lt_of_lt_of_le (by decide:0<sNl.size) (Nat.le_add_left _ _)
  unfold xE;rw[ByteArray.size_append];omega
 have fin:∀r:ByteArray × Int,r=(if 4096<(xE c ls sum gv).size then(uY,(25:Int))else(xE c ls sum gv,0))→aF Tryz.prog 42 [pzV c ls sum gv] (.tup [.str r.1,.int .i64 r.2]):=by
  intro r hr;refine av (md:=1) (rf:=[2163]) mixed au DJ Tryz.func42 (by rfl) (by rfl) (by rfl) ?_
  repeat'((conv=>whnf);first|(intro hq;(try simp only[vw]at hq);try first|exact absurd hq (by decide)|exfalso;omega)|apply aI|with_reducible exact vM rfl|exact⟨⟩|apply nM|apply fM)
  all_goals((try apply vM);(try simp only[vq]at*);try omega)
  all_goals(try first|exact⟨h,hg⟩|exact k1|exact k2|(exfalso;contradiction))
  all_goals(try exact(rfl:Ov.zero.cells= #[Value.pointer none,Value.slice none 0 0]))
  conv=>whnf
  refine aM (X:=Nat) (fun k=>k≤ls.length) (fun k=>[(30,.int .i64 k)]) (fun k=>[(5,.bld 163 5 (prA c ls sum k))]) (fun k=>ls.length-k) 0 ⟨aK,mixed,au,DJ,aP⟩ (by rfl) (by omega) ?_ ?_
  ·repeat'((conv=>whnf);first|intro _|apply aI|with_reducible exact vM rfl|exact⟨⟩|apply nM|apply fM)
   all_goals((try apply vM);(try simp only[vq]at*);try omega)
  intro k hk;by_cases hlt:k<ls.length
  ·have hs:=Jb c ls sum k hlt
   repeat'((conv=>whnf);first|(intro hq;(try simp only[vw]at hq);try first|exact absurd hq (by decide)|exfalso;omega)|apply aI|with_reducible exact vM rfl|exact⟨⟩|apply nM|apply fM)
   all_goals((try apply vM);(try simp only[vq]at*);try omega)
   all_goals(try first|exact k3 k hlt|omega)
   refine⟨k+1,[],⟨by omega,by omega⟩,?_⟩
   repeat'((conv=>whnf);first|intro _|apply aI|with_reducible exact vM rfl|exact⟨⟩|apply nM|apply fM)
   all_goals((try apply vM);(try simp only[vq]at*);try omega)
   all_goals(try(rw[hs]))
  have e:k=ls.length:=by omega
  subst e;have e2:prA c ls sum ls.length++lnB xD gv=xE c ls sum gv:=rfl
  repeat'((conv=>whnf);first|(intro hq;(try simp only[vw]at hq);try first|exact absurd hq (by decide)|exfalso;omega)|apply aI|with_reducible exact vM rfl|exact⟨⟩|apply nM|apply fM)
  all_goals((try apply vM);(try simp only[vq]at*);try omega)
  all_goals(try first|exact k4|omega)
  all_goals(try rw[e2]at*)
  ·rw[hr,if_pos (by omega)];exact Sup.of rfl
  ·exact hT.1
  ·rw[hr,if_neg (by omega)];exact Sup.of rfl
 exact fin _ rfl
def L9:List (List Int):=[[0,1,2],[3,4,5],[6,7,8],[0,3,6],[1,4,7],[2,5,8],[0,4,8],[2,4,6]]
def G9:List Int:=[2,7,0,0,5,0,0,0,0]
def G9b:List Int:=[2,7,5,0,0,0,0,0,0]
def N9:List Int:=[2,7,6,9,5,1,4,3,8]
def O9:List Int:=[8,7,6,5,4,3,2,1,0]
theorem aeW:pzE 9 L9 15 G9=0:=by decide+kernel
theorem afY:(sol 9 L9 15 G9 1).1.length=6∧(sol 9 L9 15 G9 1).2.1.cs.getD 3 []=[9]∧(sol 9 L9 15 G9 1).2.1.cs.length=9∧(sol 9 L9 15 G9 1).2.2=0:=by decide+kernel
theorem aeX:pK 9 L9 15 G9 5=([N9],0):=by decide+kernel
theorem afZ:IU 9 L9 15 G9=[6,0,0,0,0]:=by decide+kernel
theorem Qb:(fV 9 L9 15 G9).1=1∧(fV 9 L9 15 G9).2.2=0:=by decide+kernel
instance agn:DecidableEq Dd:=fun a b=>match a,b with
 |⟨g,y,x,k⟩,⟨g',y',x',k'⟩=>decidable_of_iff (g=g'∧y=y'∧x=x'∧k=k') ⟨fun h=>by obtain⟨rfl,rfl,rfl,rfl⟩:=h;rfl,fun h=>by cases h;exact⟨rfl,rfl,rfl,rfl⟩⟩
theorem aeY:u7 9 L9 15 G9=(some ⟨1,2,6,0⟩,0):=by decide+kernel
abbrev WE:ByteArray:=⟨#[99,101,108,108,32,50,32,105,115,32,54,32,98,121,32,108,97,115,116,32,111,110,32,108,105,110,101,32,48]⟩
theorem af0:PY 9 L9 15 G9 ⟨#[108,97,115,116]⟩ 2 6 0=(WE,0):=by decide+kernel
theorem af2:bK N9=[1,2,3,4,5,6,7,8,9]:=by
 unfold bK;simp[N9,List.mergeSort,List.MergeSort.Internal.splitInTwo,ak6,ak6.go,List.merge]
theorem ahk:jy N9=(true,0):=by
 have h:lU N9=true:=by unfold lU;rw[af2];decide
 unfold jy;rw[if_neg (by decide),h]
theorem Qc:Dz 9 L9 N9 1=0∧Wu L9 N9=true∧gG 5 O9=0:=by decide+kernel
theorem Y2:O9.foldl (mkS 9 L9 15 N9 1) N9=[2,7,0,9,0,0,0,0,0]∧gQ N9 (L9.getD 0 []) (L9.getD 0 []).length=15:=by decide+kernel
theorem af3:I7 9 L9 N9 O9 1=((9,L9,15,[2,7,0,9,0,0,0,0,0]),0):=by
 unfold I7;rw[if_neg (by rw[Qc.1];simp),if_neg (by rw[ahk];simp),if_neg (by rw[Qc.2.1];simp),if_neg (by rw[Qc.2.2];decide),Y2.2]
 rw[show(1:Int).toNat=1 from rfl,Y2.1]
abbrev kX:ByteArray:=⟨#[99,101,108,108,115,32,57,10,115,117,109,32,49,53,10,108,105,110,101,32,48,32,49,32,50,10,108,105,110,101,32,51,32,52,32,53,10,108,105,110,101,32,54,32,55,32,56,10,108,105,110,101,32,48,32,51,32,54,10,108,105,110,101,32,49,32,52,32,55,10,108,105,110,101,32,50,32,53,32,56,10,108,105,110,101,32,48,32,52,32,56,10,108,105,110,101,32,50,32,52,32,54,10,103,105,118,101,110,32,50,32,55,32,48,32,48,32,53,32,48,32,48,32,48,32,48,10]⟩
theorem af4:P9 9 L9 15 G9=(kX,0):=by decide+kernel
def Qd (z:ByteArray):Bool:=decide (0<z.size)&&decide (z.size≤9)&&(decide (z.size=1)||!decide (((z.data.getD 0 0).toNat:Int)=48))&&(dK z).all dgI
theorem zR (z:ByteArray):Di z↔Qd z=true:=by
 unfold Di Qd;simp only[aia,ajm,decide_eq_true_eq,akU,decide_eq_false_iff_not];constructor
 ·rintro⟨⟨h1,h2,h3⟩,h4⟩;exact⟨⟨⟨h1,h2⟩,h3⟩,h4⟩
 ·rintro⟨⟨⟨h1,h2⟩,h3⟩,h4⟩;exact⟨⟨h1,h2,h3⟩,h4⟩
def Qe (s:ByteArray) (sg:Bool):Bool:=preB s kMi&&(!sg||decide (kU s kMi=kZe))
theorem Jc (s:ByteArray) (sg:Bool):Pt s sg↔Qe s sg=true:=by
 unfold Pt Qe;simp
def DK (s:ByteArray) (sg:Bool):Option Int:=if(Qd (kU s kMi)&&!Qe s sg)=true then Go.Lib.atoi s.data.toList else none
theorem DL (s:ByteArray) (sg:Bool):gD s sg=DK s sg:=by
 unfold gD DK;by_cases h:Qd (kU s kMi)=true<;>by_cases h2:Qe s sg=true
 ·rw[if_neg (fun e=>e.2 ((Jc _ _).2 h2)),if_neg (by simp[h,h2])]
 ·rw[if_pos ⟨(zR _).2 h,fun e=>h2 ((Jc _ _).1 e)⟩,if_pos (by simp[h,h2])]
 ·rw[if_neg (fun e=>h ((zR _).1 e.1)),if_neg (by simp[h,h2])]
 ·rw[if_neg (fun e=>h ((zR _).1 e.1)),if_neg (by simp[h,h2])]
def Jd (s w:ByteArray):Option (List Int):=
 if(decide ((dM 32 s).getD 0 .empty=w)&&((dM 32 s).drop 1).all fun x=>(DK x (decide (w=jv))).isSome)=true then some (((dM 32 s).drop 1).map fun x=>(DK x (decide (w=jv))).getD 0)else none
theorem Mt (sg:Bool) (ws:List ByteArray):okW sg ws↔(ws.all fun x=>(DK x sg).isSome)=true:=by
 unfold okW;rw[ajp];constructor
 ·intro h x hx
  obtain⟨j,hj,rfl⟩:=List.mem_iff_getElem.1 hx;have:=h j hj;rw[ahZ,ah4 hj,DL]at this;exact this
 ·intro h j hj
  rw[DL];exact h _ (wZ hj)
theorem abX (s w:ByteArray):cZ s w=Jd s w:=by
 unfold cZ Jd numsL;simp only[DL];by_cases h:(dM 32 s).getD 0 .empty=w<;>by_cases h2:(((dM 32 s).drop 1).all fun x=>(DK x (decide (w=jv))).isSome)=true
 ·rw[if_pos ⟨h,(Mt _ _).2 h2⟩,if_pos (by rw[h2];simp only[h];simp)]
 ·rw[if_neg (fun e=>h2 ((Mt _ _).1 e.2)),if_neg (fun e=>h2 (by rw[aia]at e;exact e.2))]
 ·rw[if_neg (fun e=>h e.1),if_neg (fun e=>h (by rw[aia,decide_eq_true_eq]at e;exact e.1))]
 ·rw[if_neg (fun e=>h e.1),if_neg (fun e=>h (by rw[aia,decide_eq_true_eq]at e;exact e.1))]
def Je (r:Rd) (s:ByteArray):Bool × Rd:=
 if r.line+1≤2 then
  match Jd s (if r.line=0 then Iu else jv)with
  |none=>(false,{r with line:=r.line+1})
  |some l=>if l.length≠1 then(false,{r with line:=r.line+1})else if r.line=0 then(true,{r with line:=r.line+1,c:=l.getD 0 0})else(true,{r with line:=r.line+1,sum:=l.getD 0 0})
 else if r.done=true then(false,{r with line:=r.line+1})
 else match Jd s FQ with
  |some l=>(true,{r with line:=r.line+1,L:=r.L++[l]})
  |none=>match Jd s w9 with
   |some l=>(true,{r with line:=r.line+1,gv:=l,done:=true})
   |none=>(false,{r with line:=r.line+1,gv:=[],done:=false})
theorem abY (r:Rd) (s:ByteArray):nxt r s=Je r s:=by
 unfold nxt Je;simp only[abX];rfl
def rdC:Rd→List ByteArray→Rd × Bool
 |r,[]=>(r,true)
 |r,x::t=>if(Je r x).1=true then rdC (Je r x).2 t else((Je r x).2,false)
theorem aeZ:∀(l:List ByteArray) (r:Rd),rdG r l=rdC r l:=by
 intro l;induction l with
 |nil=>intro r;rfl
 |cons x t ih=>
  intro r;unfold rdG rdC;rw[abY,ih]
theorem ahl:((rdC rd0 (dM 10 (jO kX kNl))).1.c,(rdC rd0 (dM 10 (jO kX kNl))).1.L,(rdC rd0 (dM 10 (jO kX kNl))).1.sum,(rdC rd0 (dM 10 (jO kX kNl))).1.gv,(rdC rd0 (dM 10 (jO kX kNl))).1.done,(rdC rd0 (dM 10 (jO kX kNl))).2)=(9,L9,15,G9,true,true):=by decide+kernel
theorem af5:xB kX=0:=by decide+kernel
theorem ae0:PX kX=((9,L9,15,G9),0,0):=by
 have h:=ahl;have hG:iV kX=rdC rd0 (dM 10 (jO kX kNl)):=aeZ _ _;rw[←hG]at h;simp only[Prod.mk.injEq]at h;obtain⟨h1,h2,h3,h4,h5,h6⟩:=h;unfold PX;rw[if_neg (by rw[af5];simp),if_neg (by rw[h6];simp),if_neg (by rw[h5];simp),h1,h2,h3,h4,if_neg (by rw[aeW];simp)]
theorem ae1 (l:List Dd):Sup (.isl (dlC l) .none) (.isl (.recs 4 (l.map ddC)) .none):=⟨fun{S w ι v} hr=>by
 have hn:(CL.recs 4 (l.map ddC)).ncell=(dlC l).ncell:=by simp[CL.ncell]
 have hc:(CL.recs 4 (l.map ddC)).cnt=(dlC l).cnt:=by simp[CL.cnt]
 have hg:∀j,j<(dlC l).ncell→(CL.recs 4 (l.map ddC)).get j=(dlC l).get j:=fun j hj=>by
  simp only[CL.ncell]at hj;have:j / 4<l.length:=by omega
  simp only[CL.get];rw[ahZ,List.getElem?_map,ahZ,ah4 this];rfl
 cases hr with
 |islnil _ _ _ h=>exact .islnil _ _ _ (by rw[hc];exact h)
 |isl _ _ _ b off cap h1 h2 h3 h4 h5=>
  rw[←hc];exact .isl _ _ _ _ _ _ (by rw[hc];exact h1) (fun j hj=>h2 j (by rw[←hn];exact hj)) (fun j hj=>by rw[hg j (by rw[←hn];exact hj)];exact h3 j (by rw[←hn];exact hj)) (fun h=>by cases h) (fun k h=>by cases h)⟩
theorem KM:aF Tryz.prog 84 [] (.agg [.int .i64 9,.isl (.rows .i64 L9) .none]):=by
 refine bR (md:=1) (rf:=[]) mixed au aC Tryz.func84 (by rfl) (by rfl) (by rfl) ?_
 repeat'((conv=>whnf);first|(intro hq;(try simp only[vw]at hq);try first|exact absurd hq (by decide)|exfalso;omega)|apply aI|with_reducible exact vM rfl|exact⟨⟩|apply nM|apply fM)
 all_goals((try apply vM);(try simp only[vq]at*);try omega)
 unfold L9;all_goals(refine Sup.via ?_;repeat'((conv=>whnf);first|intro _|apply aI|with_reducible exact vM rfl|exact⟨⟩|apply nM|apply fM);all_goals((try apply vM);(try simp only[vq]at*);try omega);all_goals(try(simp[CL.sub];done)))
theorem WG:aF Tryz.prog 85 [] (.isl (.ints .i64 N9) .none):=by
 refine av (md:=1) (rf:=[]) mixed au aC Tryz.func85 (by rfl) (by rfl) (by rfl) ?_
 repeat'((conv=>whnf);first|(intro hq;(try simp only[vw]at hq);try first|exact absurd hq (by decide)|exfalso;omega)|apply aI|with_reducible exact vM rfl|exact⟨⟩|apply nM|apply fM)
 all_goals((try apply vM);(try simp only[vq]at*);try omega)
 unfold N9;all_goals(refine Sup.via ?_;repeat'((conv=>whnf);first|intro _|apply aI|with_reducible exact vM rfl|exact⟨⟩|apply nM|apply fM);all_goals((try apply vM);(try simp only[vq]at*);try omega);all_goals(try(simp[CL.sub];done)))
def DN:PSp:=fun xs K=>match xs with
 | []=>VC (True)∧K (.agg [.int .i64 9,.isl (.rows .i64 L9) .none])
 |_=>False
theorem Tp:POK Tryz.prog 84 DN:=by
 intro xs K h;unfold DN at h;split at h
 ·exact⟨_,h.2,KM⟩
 ·exact h.elim
def WH:PSp:=fun xs K=>match xs with
 | []=>VC (True)∧K (.isl (.ints .i64 N9) .none)
 |_=>False
theorem ae2:POK Tryz.prog 85 WH:=by
 intro xs K h;unfold WH at h;split at h
 ·exact⟨_,h.2,WG⟩
 ·exact h.elim
theorem nZ:bO L9:=⟨by decide,by decide⟩
def C9:List (List Int):=[[2],[7],[1,3,4,6,8,9],[1,3,4,6,8,9],[5],[1,3,4,6,8,9],[1,3,4,6,8,9],[1,3,4,6,8,9],[1,3,4,6,8,9]]
def D9:List Bool:=[true,true,false,false,true,false,false,false,false]
def T9:List (List PV):=[(6,2,0),(3,7,4),(8,8,6),(4,6,2),(9,3,3),(1,5,1)].map fun d:Int × Int × Int=>[.str bP,.int .i64 d.2.1,.int .i64 d.1,.int .i64 d.2.2]
theorem af6:xw 9 L9 15 G9=⟨C9,D9⟩:=by
 have h1:(xw 9 L9 15 G9).cs=C9:=by decide+kernel
 have h2:(xw 9 L9 15 G9).ds=D9:=by decide+kernel
 rw[←h1,←h2]
theorem ahm:aF Tryz.prog 20 [pzV 9 L9 15 G9] (.tup [.agg [.isl (.rows .i64 C9) .none,.isl (.bools D9) .none],.int .i64 0]):=by
 have h:=PI 9 L9 15 G9 nZ (by decide)
 rw[af6,aeW]at h;exact h
theorem af7:aF Tryz.prog 21 [pzV 9 L9 15 G9] (.tup [ddV bP 2 6 0,.int .i64 0]):=by
 have h:=SG 9 L9 15 G9 nZ (by decide)
 rw[aeY]at h;exact h
theorem af8:aF Tryz.prog 63 [pzV 9 L9 15 G9,ddV bP 2 6 0] (.tup [.str WE,.int .i64 0]):=by
 have h:=I9 9 L9 15 G9 nZ (by decide) bP 2 6 0
 rw[af0]at h;exact h
theorem af9:(sol 9 L9 15 G9 1).1.map ddC=T9:=by
 have h:(sol 9 L9 15 G9 1).1=[⟨1,2,6,0⟩,⟨1,7,3,4⟩,⟨1,8,8,6⟩,⟨1,6,4,2⟩,⟨1,3,9,3⟩,⟨1,5,1,1⟩]:=by decide+kernel
 rw[h];rfl
def S9:List (List Int):=[[2],[7],[6],[9],[5],[1],[4],[3],[8]]
theorem ae3:aF Tryz.prog 30 [pzV 9 L9 15 G9,.int .i64 1] (.tup [.isl (.recs 4 T9) .none,.agg [.isl (.rows .i64 S9) .none,.isl (.bools (ah9 9 true)) .none],.int .i64 0]):=by
 have h:=BJ 9 L9 15 G9 1 nZ (by decide)
 have h1:vg 9 L9 15 G9 1=sol 9 L9 15 G9 1:=by
  have e:aJ [pzE 9 L9 15 G9,jP 1]=0∧(sol 9 L9 15 G9 (1:Int).toNat).2.2≠21:=by decide+kernel
  unfold vg;rw[if_neg (by rw[e.1];simp),if_neg e.2]
  rfl
 rw[h1]at h;have h2:(sol 9 L9 15 G9 1).2.2=0:=afY.2.2.2;have h3:(sol 9 L9 15 G9 1).2.1.cs=S9:=by decide+kernel
 have h4:(sol 9 L9 15 G9 1).2.1.ds=ah9 9 true:=by decide+kernel
 rw[←af9];refine iq h (yw rfl fun i hi=>?_)
 match i,hi with
 |0,_=>exact ae1 _
 |1,_=>
  show Sup (stV _) _;rw[show stV (sol 9 L9 15 G9 1).2.1=.agg [.isl (.rows .i64 (sol 9 L9 15 G9 1).2.1.cs) .none,.isl (.bools (sol 9 L9 15 G9 1).2.1.ds) .none]from rfl,h3];rw[h4];exact dN _
 |2,_=>show Sup (.int .i64 _) _;rw[h2];exact dN _
theorem ae4:aF Tryz.prog 31 [pzV 9 L9 15 G9] (.tup [.int .i64 1,.int .i64 0]):=by
 have h:=BK 9 L9 15 G9 nZ (by decide)
 rw[Qb.1,Qb.2]at h;exact h
theorem ae5:aF Tryz.prog 32 [pzV 9 L9 15 G9] (.tup [.isl (.ints .i64 [6,0,0,0,0]) .none,.int .i64 0]):=by
 have h:=PK 9 L9 15 G9 nZ (by decide)
 rw[afZ,Qb.2]at h;exact h
theorem aga:aF Tryz.prog 53 [.agg [.int .i64 9,.isl (.rows .i64 L9) .none],.isl (.ints .i64 N9) .none,.isl (.ints .i64 O9) .none,.int .i64 1] (.tup [pzV 9 L9 15 [2,7,0,9,0,0,0,0,0],.int .i64 0]):=by
 have h:=Ti 9 L9 N9 O9 1 nZ (by decide) (by decide)
 rw[af3]at h;exact h
theorem agb:aF Tryz.prog 39 [pzV 9 L9 15 G9,.int .i64 5] (.tup [.isl (.rows .i64 [N9]) .none,.int .i64 0]):=by
 have h:=sW 9 L9 15 G9 5 nZ (by decide)
 rw[aeX]at h;exact h
theorem ae6:aF Tryz.prog 42 [pzV 9 L9 15 G9] (.tup [.str kX,.int .i64 0]):=by
 have h:=Qa 9 L9 15 G9 nZ (by decide)
 rw[af4]at h;exact h
theorem agc:aF Tryz.prog 44 [.str kX] (.tup [pzV 9 L9 15 G9,.int .i64 0,.int .i64 0]):=by
 have h:=Tj kX (by decide+kernel)
 rw[ae0]at h;exact h
theorem ae7:aF Tryz.prog 30 [pzV 9 L9 15 G9b,.int .i64 5] (.tup [.any,.agg [.isl (.rows .i64 []) .none,.isl (.bools []) .none],.int .i64 21]):=by
 have h:=BJ 9 L9 15 G9b 5 nZ (by decide)
 have h1:vg 9 L9 15 G9b 5=([],noS,21):=by
  have e:aJ [pzE 9 L9 15 G9b,jP 5]=0∧(sol 9 L9 15 G9b (5:Int).toNat).2.2=21:=by decide+kernel
  unfold vg;rw[if_neg (by rw[e.1];simp),if_pos e.2]
 rw[h1]at h;refine iq h (yw rfl fun i hi=>?_)
 match i,hi with
 |0,_=>exact⟨fun _=>.any _ _⟩
 |1,_=>exact dN _
 |2,_=>exact dN _
def Qf:PSp:=fun xs K=>match xs with
 | [.agg [.int .i64 c,.isl (.rows .i64 ls) .none,.int .i64 s,.isl (.ints .i64 gv) .none]]=>VC (c=9∧ls=L9∧s=15∧gv=G9)∧K (.tup [.agg [.isl (.rows .i64 C9) .none,.isl (.bools D9) .none],.int .i64 0])
 |_=>False
theorem abZ:POK Tryz.prog 20 Qf:=by
 intro xs K h;unfold Qf at h;split at h
 ·exact⟨_,h.2,(by obtain⟨rfl,rfl,rfl,rfl⟩:=h.1.get;exact ahm)⟩
 ·exact h.elim
def Jf:PSp:=fun xs K=>match xs with
 | [.agg [.int .i64 c,.isl (.rows .i64 ls) .none,.int .i64 s,.isl (.ints .i64 gv) .none]]=>VC (c=9∧ls=L9∧s=15∧gv=G9)∧K (.tup [ddV bP 2 6 0,.int .i64 0])
 |_=>False
theorem WI:POK Tryz.prog 21 Jf:=by
 intro xs K h;unfold Jf at h;split at h
 ·exact⟨_,h.2,(by obtain⟨rfl,rfl,rfl,rfl⟩:=h.1.get;exact af7)⟩
 ·exact h.elim
def Jg:PSp:=fun xs K=>match xs with
 | [.agg [.int .i64 c,.isl (.rows .i64 ls) .none,.int .i64 s,.isl (.ints .i64 gv) .none],.agg [.str r,.int .i64 y,.int .i64 x,.int .i64 k]]=>VC ((c=9∧ls=L9∧s=15∧gv=G9)∧r=bP∧y=2∧x=6∧k=0)∧K (.tup [.str WE,.int .i64 0])
 |_=>False
theorem WJ:POK Tryz.prog 63 Jg:=by
 intro xs K h;unfold Jg at h;split at h
 ·exact⟨_,h.2,(by obtain⟨⟨rfl,rfl,rfl,rfl⟩,rfl,rfl,rfl,rfl⟩:=h.1.get;exact af8)⟩
 ·exact h.elim
def DR:PSp:=fun xs K=>match xs with
 | [.agg [.int .i64 c,.isl (.rows .i64 ls) .none,.int .i64 s,.isl (.ints .i64 gv) .none],.int .i64 g]=>match decide (g=1)with
  |true=>VC (g=1∧c=9∧ls=L9∧s=15∧gv=G9)∧K (.tup [.isl (.recs 4 T9) .none,.agg [.isl (.rows .i64 S9) .none,.isl (.bools (ah9 9 true)) .none],.int .i64 0])
  |false=>VC (g=5∧c=9∧ls=L9∧s=15∧gv=G9b)∧K (.tup [.any,.agg [.isl (.rows .i64 []) .none,.isl (.bools []) .none],.int .i64 21])
 |_=>False
theorem Tq:POK Tryz.prog 30 DR:=by
 intro xs K hk;unfold DR at hk;split at hk
 ·split at hk
  ·obtain⟨⟨rfl,rfl,rfl,rfl,rfl⟩,hk⟩:=hk;exact⟨_,hk,ae3⟩
  ·obtain⟨⟨rfl,rfl,rfl,rfl,rfl⟩,hk⟩:=hk;exact⟨_,hk,ae7⟩
 ·exact hk.elim
def DT:PSp:=fun xs K=>match xs with
 | [.agg [.int .i64 c,.isl (.rows .i64 ls) .none,.int .i64 s,.isl (.ints .i64 gv) .none]]=>VC (c=9∧ls=L9∧s=15∧gv=G9)∧K (.tup [.int .i64 1,.int .i64 0])
 |_=>False
theorem Tt:POK Tryz.prog 31 DT:=by
 intro xs K h;unfold DT at h;split at h
 ·exact⟨_,h.2,(by obtain⟨rfl,rfl,rfl,rfl⟩:=h.1.get;exact ae4)⟩
 ·exact h.elim
def DU:PSp:=fun xs K=>match xs with
 | [.agg [.int .i64 c,.isl (.rows .i64 ls) .none,.int .i64 s,.isl (.ints .i64 gv) .none]]=>VC (c=9∧ls=L9∧s=15∧gv=G9)∧K (.tup [.isl (.ints .i64 [6,0,0,0,0]) .none,.int .i64 0])
 |_=>False
theorem Tv:POK Tryz.prog 32 DU:=by
 intro xs K h;unfold DU at h;split at h
 ·exact⟨_,h.2,(by obtain⟨rfl,rfl,rfl,rfl⟩:=h.1.get;exact ae5)⟩
 ·exact h.elim
def Jh:PSp:=fun xs K=>match xs with
 | [.agg [.int .i64 c,.isl (.rows .i64 ls) .none],.isl (.ints .i64 nv) .none,.isl (.ints .i64 ov) .none,.int .i64 g]=>VC (c=9∧ls=L9∧nv=N9∧ov=O9∧g=1)∧K (.tup [pzV 9 L9 15 [2,7,0,9,0,0,0,0,0],.int .i64 0])
 |_=>False
theorem WK:POK Tryz.prog 53 Jh:=by
 intro xs K h;unfold Jh at h;split at h
 ·exact⟨_,h.2,(by obtain⟨rfl,rfl,rfl,rfl,rfl⟩:=h.1.get;exact aga)⟩
 ·exact h.elim
def Ji:PSp:=fun xs K=>match xs with
 | [.agg [.int .i64 c,.isl (.rows .i64 ls) .none,.int .i64 s,.isl (.ints .i64 gv) .none],.int .i64 lim]=>VC ((c=9∧ls=L9∧s=15∧gv=G9)∧lim=5)∧K (.tup [.isl (.rows .i64 [N9]) .none,.int .i64 0])
 |_=>False
theorem WL:POK Tryz.prog 39 Ji:=by
 intro xs K h;unfold Ji at h;split at h
 ·exact⟨_,h.2,(by obtain⟨⟨rfl,rfl,rfl,rfl⟩,rfl⟩:=h.1.get;exact agb)⟩
 ·exact h.elim
def DV:PSp:=fun xs K=>match xs with
 | [.agg [.int .i64 c,.isl (.rows .i64 ls) .none,.int .i64 s,.isl (.ints .i64 gv) .none]]=>VC (c=9∧ls=L9∧s=15∧gv=G9)∧K (.tup [.str kX,.int .i64 0])
 |_=>False
theorem Tw:POK Tryz.prog 42 DV:=by
 intro xs K h;unfold DV at h;split at h
 ·exact⟨_,h.2,(by obtain⟨rfl,rfl,rfl,rfl⟩:=h.1.get;exact ae6)⟩
 ·exact h.elim
def Jj:PSp:=fun xs K=>match xs with
 | [.str s]=>VC (s=kX)∧K (.tup [pzV 9 L9 15 G9,.int .i64 0,.int .i64 0])
 |_=>False
theorem WM:POK Tryz.prog 44 Jj:=by
 intro xs K h;unfold Jj at h;split at h
 ·exact⟨_,h.2,(by obtain rfl:=h.1.get;exact agc)⟩
 ·exact h.elim
noncomputable def agd:CPT:=aA 20 (lq Qf) (aA 21 (lq Jf) (aA 30 (lq DR) (aA 31 (lq DT) (aA 32 (lq DU) (aA 36 (aB oG) (aA 39 (lq Ji) (aA 42 (lq DV) (aA 44 (aB Jj) (aA 53 (aB Jh) (aA 63 (lq Jg) (aA 84 (aB DN) (aA 85 (aB WH) noC))))))))))))
theorem WO:aW Tryz.prog agd:=aj (jg abZ) (aj (jg WI) (aj (jg Tq) (aj (jg Tt) (aj (jg Tv) (aj (ak r9) (aj (jg WL) (aj (jg Tw) (aj (ak WM) (aj (ak WK) (aj (jg WJ) (aj (ak Tp) (aj (ak ae2) aC))))))))))))
theorem Qg:aF Tryz.prog 17 [] (.bp true):=by
 refine bR (md:=1) (rf:=[28]) mixed au WO Tryz.func17 (by rfl) (by rfl) (by rfl) ?_
 repeat'((conv=>whnf);first|(intro hq;(try simp only[vw]at hq);try first|exact absurd hq (by decide)|exfalso;omega)|apply aI|with_reducible exact vM rfl|exact⟨⟩|apply nM|apply fM)
 all_goals((try apply vM);(try simp only[vq]at*);try omega)
 all_goals(try rfl)
 all_goals(try decide+kernel)
 all_goals(try(exfalso;exact absurd hq (by decide+kernel)))
 have hb:∀b,b=true→Sup (bI ([PV.bp b]++[])) (PV.bp true):=fun b e=>by subst e;exact Sup.of rfl
 exact hb _ (by decide+kernel)
def BO:PSp:=fun xs K=>match xs with
 | []=>VC (True)∧K (.bp true)
 |_=>False
theorem Jk:POK Tryz.prog 17 BO:=by
 intro xs K h;unfold BO at h;split at h
 ·exact⟨_,h.2,Qg⟩
 ·exact h.elim
end Go.Eng.YtcechbdgokjmgaaGreatDoor
namespace Go.Eng.YtcechbdgokjmgaaGreatDoor
open Go.Proofs
set_option linter.unusedSimpArgs false
set_option linter.unusedVariables false
set_option maxHeartbeats 0
set_option maxRecDepth 100000
theorem WQ (c:Int) (ls:List (List Int)) (sum:Int) (gv:List Int):aF Tryz.prog 19 [pzV c ls sum gv] (pzV c ls sum gv):=by
 refine av (md:=1) (rf:=[]) mixed au aC Tryz.func19 (by rfl) (by rfl) (by rfl) ?_
 repeat'((conv=>whnf);first|intro _|apply aI|with_reducible exact vM rfl|exact⟨⟩|apply nM|apply fM)
 all_goals((try apply vM);(try simp only[vq]at*);try omega)
 all_goals exact Sup.of rfl
def Jl:PSp:=fun xs K=>match xs with
 | [.agg [.int .i64 c,.isl (.rows .i64 ls) .none,.int .i64 sum,.isl (.ints .i64 gv) .none]]=>VC (True)∧K (.agg [.int .i64 c,.isl (.rows .i64 ls) .none,.int .i64 sum,.isl (.ints .i64 gv) .none])
 |_=>False
theorem Jm:POK Tryz.prog 19 Jl:=by
 intro xs K h;unfold Jl at h;split at h
 ·exact⟨_,h.2,WQ _ _ _ _⟩
 ·exact h.elim
def shB (ls:List (List Int)) (k n:Nat):Bool:=decide (ls.length≤n)&&ls.all fun l=>decide (l.length≤k)
theorem ae8 {ls:List (List Int)} {k n:Nat} (h:shB ls k n=true):ls.length≤n∧∀l∈ls,l.length≤k:=by
 unfold shB at h;rw[aia,decide_eq_true_eq,ajp]at h;exact⟨h.1,fun l hl=>of_decide_eq_true (h.2 l hl)⟩
theorem Qh (c:Int) (ls:List (List Int)) (k n:Nat) (hn:n≤1000000):aF Tryz.prog 50 [.agg [.int .i64 c,.isl (.rows .i64 ls) .none],.int .i64 (k:Int),.int .i64 (n:Int)] (.bp (shB ls k n)):=by
 by_cases h1:ls.length≤n
 case neg=>
  rw[show shB ls k n=false by unfold shB;rw[decide_eq_false h1];rfl]
  refine av (md:=1) (rf:=[]) mixed au aC Tryz.func50 (by rfl) (by rfl) (by rfl) ?_
  repeat'((conv=>whnf);first|(intro hq;(try simp only[vw]at hq);try first|exact absurd hq (by decide)|exfalso;omega)|apply aI|with_reducible exact vM rfl|exact⟨⟩|apply nM|apply fM)
  all_goals((try apply vM);(try simp only[vq]at*);try omega)
  all_goals first|omega|exact fO false|skip
 refine av (md:=1) (rf:=[]) mixed au aC Tryz.func50 (by rfl) (by rfl) (by rfl) ?_
 repeat'((conv=>whnf);first|(intro hq;(try simp only[vw]at hq);try first|exact absurd hq (by decide)|exfalso;omega)|apply aI|with_reducible exact vM rfl|exact⟨⟩|apply nM|apply fM)
 all_goals((try apply vM);(try simp only[vq]at*);try omega)
 all_goals(try omega)
 conv=>whnf
 refine aM (X:=Nat) (fun i=>i≤ls.length∧∀j,j<i→(ls.getD j []).length≤k) (fun i=>[(7,.int .i64 i)]) (fun i=>[]) (fun i=>ls.length-i) 0 ⟨aK,mixed,au,aC,aP⟩ (by rfl) ⟨by omega,fun j hj=>by omega⟩ ?_ ?_
 ·repeat'((conv=>whnf);first|intro _|apply aI|with_reducible exact vM rfl|exact⟨⟩|apply nM|apply fM)
  all_goals((try apply vM);(try simp only[vq]at*);try omega)
 intro i ⟨hi,hok⟩;by_cases hlt:i<ls.length
 ·repeat'((conv=>whnf);first|(intro hq;(try simp only[vw]at hq);try first|exact absurd hq (by decide)|exfalso;omega)|apply aI|with_reducible exact vM rfl|exact⟨⟩|apply nM|apply fM)
  all_goals((try apply vM);(try simp only[vq]at*);try omega)
  all_goals(try omega)
  ·have:shB ls k n=false:=by
    unfold shB;rw[ak7.2 ⟨ls.getD i [],l5 hlt,by rw[decide_eq_false (by omega)];simp⟩,aj3]
   rw[this];exact fO false
  ·refine⟨i+1,[],⟨⟨by omega,fun j hj=>?_⟩,by omega⟩,?_⟩
   ·by_cases e:j=i
    ·subst e;omega
    ·exact hok j (by omega)
   repeat'((conv=>whnf);first|intro _|apply aI|with_reducible exact vM rfl|exact⟨⟩|apply nM|apply fM)
   all_goals((try apply vM);(try simp only[vq]at*);try omega)
 have e:i=ls.length:=by omega
 subst e;have:shB ls k n=true:=by
  unfold shB;rw[decide_eq_true h1,akz,ajp];intro l hl;obtain⟨j,hj,rfl⟩:=ah3 hl;have:=hok j hj;rw[ahZ,ah4 hj]at this;exact decide_eq_true this
 rw[this]
 repeat'((conv=>whnf);first|(intro hq;(try simp only[vw]at hq);try first|exact absurd hq (by decide)|exfalso;omega)|apply aI|with_reducible exact vM rfl|exact⟨⟩|apply nM|apply fM)
 all_goals((try apply vM);(try simp only[vq]at*);try omega)
 all_goals first|omega|exact fO true
def Jo:PSp:=fun xs K=>match xs with
 | [.agg [.int .i64 c,.isl (.rows .i64 ls) .none],.int .i64 k,.int .i64 n]=>VC (0≤k∧0≤n∧n≤1000000)∧K (.bp (shB ls k.toNat n.toNat))
 |_=>False
theorem WR:POK Tryz.prog 50 Jo:=by
 intro xs K hk;unfold Jo at hk;split at hk
 ·rename_i c ls k n
  obtain⟨⟨h1,h2,h3⟩,hk⟩:=hk;obtain⟨k',rfl⟩:∃k':Nat,k=k':=⟨k.toNat,by omega⟩
  obtain⟨n',rfl⟩:∃n':Nat,n=n':=⟨n.toNat,by omega⟩
  exact⟨_,hk,Qh _ _ _ _ (by omega)⟩
 ·exact hk.elim
def vk (c:Int) (ls:List (List Int)) (k n:Nat):Bool:=shB ls k n&&(decide (fU c ls=0)&&decide (c≤k))
noncomputable def ahn:CPT:=aA 50 (aB Jo) (aA 120 (aB FP) noC)
theorem DW:aW Tryz.prog ahn:=aj (ak WR) (aj (ak LM) aC)
theorem Mv {ls:List (List Int)} {k n:Nat} (h:shB ls k n=true) (hk:k≤5000) (hn:n≤1000000):bO ls:=by
 obtain⟨h1,h2⟩:=ae8 h;exact⟨by omega,fun l hl=>by have:=h2 l hl;omega⟩
theorem WS (c:Int) (ls:List (List Int)) (k n:Nat) (hk:k≤5000) (hn:n≤1000000):aF Tryz.prog 52 [.agg [.int .i64 c,.isl (.rows .i64 ls) .none],.int .i64 (k:Int),.int .i64 (n:Int)] (.bp (vk c ls k n)):=by
 unfold vk;cases h:shB ls k n with
 |false=>
  rw[aj9];refine av (md:=1) (rf:=[]) mixed au DW Tryz.func52 (by rfl) (by rfl) (by rfl) ?_
  repeat'((conv=>whnf);first|(intro hq;(try simp only[vw]at hq);try first|exact absurd hq (by decide)|exfalso;omega)|apply aI|with_reducible exact vM rfl|exact⟨⟩|apply nM|apply fM)
  all_goals((try apply vM);(try simp only[vq]at*);try omega)
  all_goals first|omega|exact fO false|exact absurd (hq.symm.trans h) (by decide)|(exfalso;exact absurd (h.symm.trans (‹shB ls _ _=true›)) (by decide))|skip
 |true=>
  have hL:=Mv h hk hn;rw[akz];by_cases h1:fU c ls=0
  ·rw[decide_eq_true h1,akz]
   refine av (md:=1) (rf:=[]) mixed au DW Tryz.func52 (by rfl) (by rfl) (by rfl) ?_
   repeat'((conv=>whnf);first|(intro hq;(try simp only[vw]at hq);try first|exact absurd hq (by decide)|exfalso;omega)|apply aI|with_reducible exact vM rfl|exact⟨⟩|apply nM|apply fM)
   all_goals((try apply vM);(try simp only[vq]at*);try omega)
   all_goals first|omega|exact hL|exact Sup.of rfl|exact absurd (h.symm.trans hq) (by decide)|(exfalso;exact hq h1)|skip
  ·rw[decide_eq_false h1,aj9]
   refine av (md:=1) (rf:=[]) mixed au DW Tryz.func52 (by rfl) (by rfl) (by rfl) ?_
   repeat'((conv=>whnf);first|(intro hq;(try simp only[vw]at hq);try first|exact absurd hq (by decide)|exfalso;omega)|apply aI|with_reducible exact vM rfl|exact⟨⟩|apply nM|apply fM)
   all_goals((try apply vM);(try simp only[vq]at*);try omega)
   all_goals first|omega|exact hL|exact fO false|exact absurd (h.symm.trans hq) (by decide)|(exfalso;exact h1 hq)|skip
def WT:PSp:=fun xs K=>match xs with
 | [.agg [.int .i64 c,.isl (.rows .i64 ls) .none],.int .i64 k,.int .i64 n]=>VC ((0≤k∧k≤5000)∧0≤n∧n≤1000000)∧K (.bp (vk c ls k.toNat n.toNat))
 |_=>False
theorem ae9:POK Tryz.prog 52 WT:=by
 intro xs K hk;unfold WT at hk;split at hk
 ·rename_i c ls k n
  obtain⟨⟨h1,h2,h3⟩,hk⟩:=hk;obtain⟨k',rfl⟩:∃k':Nat,k=k':=⟨k.toNat,by omega⟩
  obtain⟨n',rfl⟩:∃n':Nat,n=n':=⟨n.toNat,by omega⟩
  exact⟨_,hk,WS _ _ _ _ (by omega) (by omega)⟩
 ·exact hk.elim
def xG (c:Int) (ls:List (List Int)) (sum:Int) (gv:List Int) (k n:Nat):Bool:=vk c ls k n&&(decide ((gv.length:Int)≤k)&&decide (pzE c ls sum gv=0))
noncomputable def aho:CPT:=aA 18 (aB PD) (aA 52 (aB WT) noC)
theorem DX:aW Tryz.prog aho:=aj (ak SA) (aj (ak ae9) aC)
theorem Jp {c:Int} {ls:List (List Int)} {k n:Nat} (h:vk c ls k n=true) (hk:k≤5000) (hn:n≤1000000):bO ls:=by
 unfold vk at h;rw[aia]at h;exact Mv h.1 hk hn
theorem Tx (c:Int) (ls:List (List Int)) (sum:Int) (gv:List Int) (k n:Nat) (hk:k≤5000) (hn:n≤1000000):aF Tryz.prog 29 [pzV c ls sum gv,.int .i64 (k:Int),.int .i64 (n:Int)] (.bp (xG c ls sum gv k n)):=by
 unfold xG;cases h:vk c ls k n with
 |false=>
  rw[aj9];refine av (md:=1) (rf:=[]) mixed au DX Tryz.func29 (by rfl) (by rfl) (by rfl) ?_
  repeat'((conv=>whnf);first|(intro hq;(try simp only[vw]at hq);try first|exact absurd hq (by decide)|exfalso;omega)|apply aI|with_reducible exact vM rfl|exact⟨⟩|apply nM|apply fM)
  all_goals((try apply vM);(try simp only[vq]at*);try omega)
  all_goals first|omega|exact fO false|exact absurd (hq.symm.trans h) (by decide)|(exfalso;exact absurd (h.symm.trans (‹vk c ls _ _=true›)) (by decide))|skip
 |true=>
  have hL:=Jp h hk hn;rw[akz];by_cases h1:(gv.length:Int)≤k
  ·rw[decide_eq_true h1,akz]
   refine av (md:=1) (rf:=[]) mixed au DX Tryz.func29 (by rfl) (by rfl) (by rfl) ?_
   repeat'((conv=>whnf);first|(intro hq;(try simp only[vw]at hq);try first|exact absurd hq (by decide)|exfalso;omega)|apply aI|with_reducible exact vM rfl|exact⟨⟩|apply nM|apply fM)
   all_goals((try apply vM);(try simp only[vq]at*);try omega)
   all_goals first|omega|exact⟨hL,by omega⟩|exact Sup.of rfl|exact absurd (h.symm.trans hq) (by decide)|(exfalso;exact hq h1)|skip
  ·rw[decide_eq_false h1,aj9]
   refine av (md:=1) (rf:=[]) mixed au DX Tryz.func29 (by rfl) (by rfl) (by rfl) ?_
   repeat'((conv=>whnf);first|(intro hq;(try simp only[vw]at hq);try first|exact absurd hq (by decide)|exfalso;omega)|apply aI|with_reducible exact vM rfl|exact⟨⟩|apply nM|apply fM)
   all_goals((try apply vM);(try simp only[vq]at*);try omega)
   all_goals first|omega|exact⟨hL,by omega⟩|exact fO false|exact absurd (h.symm.trans hq) (by decide)|(exfalso;exact h1 hq)|skip
def Qi:PSp:=fun xs K=>match xs with
 | [.agg [.int .i64 c,.isl (.rows .i64 ls) .none,.int .i64 sum,.isl (.ints .i64 gv) .none],.int .i64 k,.int .i64 n]=>VC ((0≤k∧k≤5000)∧0≤n∧n≤1000000)∧K (.bp (xG c ls sum gv k.toNat n.toNat))
 |_=>False
theorem ab0:POK Tryz.prog 29 Qi:=by
 intro xs K hk;unfold Qi at hk;split at hk
 ·rename_i c ls sum gv k n
  obtain⟨⟨h1,h2,h3⟩,hk⟩:=hk;obtain⟨k',rfl⟩:∃k':Nat,k=k':=⟨k.toNat,by omega⟩
  obtain⟨n',rfl⟩:∃n':Nat,n=n':=⟨n.toNat,by omega⟩
  exact⟨_,hk,Tx _ _ _ _ _ _ (by omega) (by omega)⟩
 ·exact hk.elim
end Go.Eng.YtcechbdgokjmgaaGreatDoor
namespace Go.Eng.YtcechbdgokjmgaaGreatDoor
open Go.Proofs Go.RowKit
set_option linter.unusedSimpArgs false
set_option linter.unusedVariables false
set_option maxHeartbeats 0
set_option maxRecDepth 100000
def mU (p:PSp) (u:PV):PSp:=fun xs K=>p xs (fun v=>VC (Sup v u))∧K u
theorem jN {g:FuncId} {p:PSp} (h:POK Tryz.prog g p) (u:PV):POK Tryz.prog g (mU p u):=by
 intro xs K hk;obtain⟨v,hv,hp⟩:=h _ _ hk.1;exact⟨u,hk.2,iq hp hv.get⟩
theorem qW {a b:Bool} (h:a=b):Sup (.bp a) (.bool b):=⟨fun hr=>by cases hr;subst h;exact .bool _ _⟩
theorem iW {a b:Int} (h:a=b):Sup (.int .i64 a) (.int .i64 b):=Sup.of (by rw[h])
theorem Qj {g:FuncId} {xs ys:List PV} {v:PV} (h:aF Tryz.prog g xs v) (hl:ys.length=xs.length) (hs:∀i,i<ys.length→Sup (aD ys i) (aD xs i)):aF Tryz.prog g ys v:=
 ⟨h.1,fun S w vs hB hI hA=>h.2 S w vs hB hI ⟨hl.symm.trans hA.1,fun i hi=>(hs i (by omega)).get (hA.2 i (by omega))⟩⟩
theorem ab1 {S:Imm} {w:World} {ι:Ix} {c:CL} {v:Value} (h:Rep S w ι (.isl (.ints .i64 []) .none) v) (hc:c.cnt=0):Rep S w ι (.isl c .none) v:=by
 cases h with
 |islnil _ _ _ h=>exact .islnil _ _ _ hc
 |isl _ _ _ b off cap h1 hs h hf ho=>exact iY _ hc (.inr ⟨b,off,rfl⟩) _
end Go.Eng.YtcechbdgokjmgaaGreatDoor
namespace Go.Eng.YtcechbdgokjmgaaGreatDoor
open Go.Proofs
set_option linter.unusedSimpArgs false
set_option linter.unusedVariables false
set_option maxHeartbeats 0
set_option maxRecDepth 100000
structure ahD (c:Int) (ls:List (List Int)) (sum:Int) (s:St) (o:List Int) (x:Int):Prop where
 bd:aR c ls sum s
 rng:∀y∈o,0≤y∧y<c
 len:o.length≤16
 x: -2000000000≤x∧x≤2000000000
structure ahE (c:Int) (ls:List (List Int)) (sum:Int) (s:St) (o used:List Int) (x:Int):Prop where
 bd:aR c ls sum s
 rng:∀y∈o,0≤y∧y<c
 len:o.length+used.length≤30
 x: -2000000000+16*(o.length:Int)≤x∧x≤2000000000
structure ahF (c:Int) (ls:List (List Int)) (sum:Int) (s:St) (k:Int):Prop where
 bd:aR c ls sum s
 k:0≤k∧k<ls.length
theorem KO (c:Int) (ls:List (List Int)) (sum:Int) (gv:List Int) (h:gv.length≤9223372036854775807):aF Tryz.prog 38 [pzV c ls sum gv] (.int .i64 ((gv.filter fun x=>decide (x=0)).length:Nat)):=by
 have ha:∀i,i<gv.length→((gv.take (i+1)).filter fun x=>decide (x=0)).length=((gv.take i).filter fun x=>decide (x=0)).length+if gv.getD i 0=0 then 1 else 0:=fun i hi=>by
  rw[dH hi,List.filter_append,ai7];congr 1;by_cases e:gv.getD i 0=0
  ·rw[if_pos e];simp only[akP,decide_eq_true e];rfl
  ·rw[if_neg e];simp only[akP,decide_eq_false e];rfl
 have hb:∀i,i≤gv.length→((gv.take i).filter fun x=>decide (x=0)).length≤i:=fun i hi=>Nat.le_trans (List.length_filter_le _ _) (by rw[aiG];omega)
 refine av (md:=1) (rf:=[]) mixed au aC Tryz.func38 (by rfl) (by rfl) (by rfl) ?_
 repeat'((conv=>whnf);first|intro _|apply aI|with_reducible exact vM rfl|exact⟨⟩|apply nM|apply fM)
 all_goals((try apply vM);(try simp only[vq]at*);try omega)
 conv=>whnf
 refine aM (X:=Nat) (fun i=>i≤gv.length) (fun i=>[(4,.int .i64 i),(3,.int .i64 (((gv.take i).filter fun x=>decide (x=0)).length:Nat))]) (fun i=>[]) (fun i=>gv.length-i) 0 ⟨aK,mixed,au,aC,aP⟩ (by rfl) (by omega) ?_ ?_
 ·repeat'((conv=>whnf);first|intro _|apply aI|with_reducible exact vM rfl|exact⟨⟩|apply nM|apply fM)
  all_goals((try apply vM);(try simp only[vq]at*);try omega)
 intro i hi;by_cases hlt:i<gv.length
 ·have hx:=ha i hlt
  have hbi:=hb i (by omega)
  repeat'((conv=>whnf);first|(intro hq;(try simp only[vw]at hq);try first|exact absurd hq (by decide)|exfalso;omega)|apply aI|with_reducible exact vM rfl|exact⟨⟩|apply nM|apply fM)
  all_goals((try apply vM);(try simp only[vq]at*);try omega)
  all_goals(try omega)
  ·rw[if_pos hq]at hx
   refine⟨i+1,[],⟨by omega,by omega⟩,?_⟩
   rw[hx]
   repeat'((conv=>whnf);first|intro _|apply aI|with_reducible exact vM rfl|exact⟨⟩|apply nM|apply fM)
   all_goals((try apply vM);(try simp only[vq]at*);try omega)
  ·rw[if_neg hq,Nat.add_zero]at hx
   refine⟨i+1,[],⟨by omega,by omega⟩,?_⟩
   rw[hx]
   repeat'((conv=>whnf);first|intro _|apply aI|with_reducible exact vM rfl|exact⟨⟩|apply nM|apply fM)
   all_goals((try apply vM);(try simp only[vq]at*);try omega)
 ·have:i=gv.length:=by omega
  subst this;rw[ajS]
  repeat'((conv=>whnf);first|(intro hq;(try simp only[vw]at hq);try first|exact absurd hq (by decide)|exfalso;omega)|apply aI|with_reducible exact vM rfl|exact⟨⟩|apply nM|apply fM)
  all_goals((try apply vM);(try simp only[vq]at*);try omega)
  all_goals first|omega|exact Sup.of rfl
end Go.Eng.YtcechbdgokjmgaaGreatDoor
namespace Go.Eng.YtcechbdgokjmgaaGreatDoor
set_option linter.unusedSimpArgs false
set_option linter.unusedVariables false
def sF (g:Int→Int):List Int→Int
 | []=>0
 |x::r=>g x+sF g r
theorem DY (g:Int→Int):∀(l:List Int) (a:Int),l.foldl (fun a x=>a+g x) a=a+sF g l:=by
 intro l;induction l with
 |nil=>intro a;simp[sF]
 |cons x r ih=>intro a;rw[ak8,ih];simp only[sF];omega
theorem yA {g h:Int→Int}:∀{l:List Int},(∀x∈l,g x≤h x)→sF g l≤sF h l:=by
 intro l;induction l with
 |nil=>intro _;exact ak9 _
 |cons x r ih=>
  intro hh;have h1:=hh x (by simp)
  have h2:=ih fun y hy=>hh y (by simp[hy])
  simp only[sF];omega
theorem dF {g h:Int→Int} {l:List Int} (hh:∀x∈l,g x=h x):sF g l=sF h l:=by
 have h1:=yA (g:=g) (h:=h) fun x hx=>by rw[hh x hx];exact ak9 _
 have h2:=yA (g:=h) (h:=g) fun x hx=>by rw[hh x hx];exact ak9 _
 omega
theorem lD (g h:Int→Int):∀(l:List Int),sF (fun x=>g x+h x) l=sF g l+sF h l:=by
 intro l;induction l with
 |nil=>rfl
 |cons x r ih=>simp only[sF,ih];omega
theorem Tz (g:Int→Int) (p:Int→Bool):∀(l:List Int),sF g (l.filter p)=sF (fun x=>if p x then g x else 0) l:=by
 intro l;induction l with
 |nil=>rfl
 |cons x r ih=>
  rw[akP];cases hp:p x with
  |true=>rw[if_pos rfl];simp only[sF,ih,hp];rfl
  |false=>rw[if_neg (by simp)];simp only[sF,ih,hp];simp
theorem qg:∀(l:List Int),sF (fun _=>0) l=0:=by
 intro l;induction l with
 |nil=>rfl
 |cons x r ih=>simp only[sF,ih];rfl
theorem Jq {y a:Int}:∀{l:List Int},l.Pairwise (·< ·)→y∈l→sF (fun x=>if x=y then a else 0) l=a:=by
 intro l;induction l with
 |nil=>intro _ h;simp at h
 |cons x r ih=>
  intro hp hy;have hp':=ajh.1 hp;simp only[sF];by_cases e:x=y
  ·subst e
   have:sF (fun z=>if z=x then a else 0) r=sF (fun _=>0) r:=dF fun z hz=>by
    have:=hp'.1 z hz;rw[if_neg (by omega)]
   rw[if_pos rfl,this,qg];omega
  ·rw[if_neg e,ih hp'.2 (by rcases ajg.1 hy with h|h;exact absurd h.symm e;exact h)];omega
theorem WU (s:St):∀(l:List Int) (a:Int),l.foldl (fun a x=>if s.dc x.toNat then a-hd0 (s.cd x.toNat)else a) a=a-sF (fun x=>if s.dc x.toNat then hd0 (s.cd x.toNat)else 0) l:=by
 intro l;induction l with
 |nil=>intro a;simp[sF]
 |cons x r ih=>
  intro a;rw[ak8,ih];simp only[sF];split<;>omega
theorem oK (s:St) (sum:Int) (l:List Int):rst s sum l=sum-sF (fun x=>if s.dc x.toNat then hd0 (s.cd x.toNat)else 0) l:=WU s l sum
theorem tC (s:St) (o:List Int):qJ s o=sF (fun y=>hd0 (s.cd y.toNat)) o:=by
 unfold qJ;rw[DY (fun y=>hd0 (s.cd y.toNat))];omega
theorem tF (s:St) (o:List Int):qK s o=sF (fun y=>ls0 (s.cd y.toNat)) o:=by
 unfold qK;rw[DY (fun y=>ls0 (s.cd y.toNat))];omega
theorem tH (N l:List Int):fZ N l=sF (fun x=>N.getD x.toNat 0) l:=by
 unfold fZ;rw[DY (fun x=>N.getD x.toNat 0)];omega
theorem lF (s:St) (l:List Int) (but:Int) (g:Int→Int):sF g (opn s l but)=sF (fun x=>if !(s.dc x.toNat)&&decide (x≠but)then g x else 0) l:=by
 unfold opn;exact Tz g _ l
theorem aV {s:St} {l:List Int} {but z:Int}:z∈opn s l but↔z∈l∧s.dc z.toNat=false∧z≠but:=by
 unfold opn;rw[aj2];simp
theorem qX {s:St} {l:List Int} {but:Int} (h:l.Pairwise (·< ·)):(opn s l but).Pairwise (·< ·):=h.filter _
def ChF (s:St) (o used:List Int) (sum:Int) (h:Int→Int):Prop:=
 (∀y∈o,h y∈s.cd y.toNat∧h y∉used)∧(∀y∈o,∀z∈o,y≠z→h y≠h z)∧sF h o=sum
theorem nR (s:St):∀(o used:List Int) (sum:Int),o.Pairwise (·< ·)→(chs s o used sum=true↔∃h,ChF s o used sum h):=by
 intro o;induction o with
 |nil=>
  intro used sum _;simp only[chs,decide_eq_true_eq,ChF];constructor
  ·rintro rfl
   exact⟨fun _=>0,fun y hy=>by simp at hy,fun y hy=>by simp at hy,rfl⟩
  ·rintro⟨h,_,_,h3⟩
   exact h3.symm
 |cons y r ih=>
  intro used sum hp;have hp':=ajh.1 hp;simp only[chs,ako,aj2,akU,decide_eq_false_iff_not];constructor
  ·rintro⟨x,⟨hx,hu⟩,hc⟩
   obtain⟨h,h1,h2,h3⟩:=(ih _ _ hp'.2).1 hc;have hne:∀z∈r,z≠y:=fun z hz=>by have:=hp'.1 z hz;omega
   refine⟨fun z=>if z=y then x else h z,fun z hz=>?_,fun z hz w hw hzw=>?_,?_⟩
   ·rcases ajg.1 hz with rfl|hz
    ·simp only[if_true];exact⟨hx,hu⟩
    ·simp only[if_neg (hne z hz)]
     exact⟨(h1 z hz).1,fun hm=>(h1 z hz).2 (by simp[hm])⟩
   ·rcases ajg.1 hz with rfl|hz2<;>rcases ajg.1 hw with rfl|hw2
    ·exact absurd rfl hzw
    ·simp only[if_true,if_neg (hne w hw2)]
     exact fun e=>(h1 w hw2).2 (by simp[←e])
    ·simp only[if_true,if_neg (hne z hz2)]
     exact fun e=>(h1 z hz2).2 (by simp[e])
    ·simp only[if_neg (hne z hz2),if_neg (hne w hw2)]
     exact h2 z hz2 w hw2 hzw
   ·simp only[sF,if_true]
    have:sF (fun z=>if z=y then x else h z) r=sF h r:=dF fun z hz=>by simp only[if_neg (hne z hz)]
    rw[this,h3];omega
  ·rintro⟨h,h1,h2,h3⟩
   refine⟨h y,h1 y (by simp),(ih _ _ hp'.2).2 ⟨h,fun z hz=>⟨(h1 z (by simp[hz])).1,fun hm=>?_⟩,fun z hz w hw=>h2 z (by simp[hz]) w (by simp[hw]),?_⟩⟩
   ·rcases ah0.1 hm with hm|hm
    ·exact(h1 z (by simp[hz])).2 hm
    ·have:=hp'.1 z hz
     exact h2 z (by simp[hz]) y (by simp) (by omega) (akx.1 hm)
   ·simp only[sF]at h3;omega
structure kY (c:Int) (ls:List (List Int)) (sum:Int) (f:List Int):Prop where
 len:(f.length:Int)=c
 nrm:lU f=true
 sum:∀i,i<ls.length→fZ f (ls.getD i [])=sum
structure Alw (s:St) (f:List Int):Prop where
 len:s.cs.length=f.length
 mem:∀i,i<f.length→f.getD i 0∈s.cd i
theorem kY.rng {c:Int} {ls:List (List Int)} {sum:Int} {f:List Int} (h:kY c ls sum f) {i:Nat} (hi:i<f.length):1≤f.getD i 0∧f.getD i 0≤c:=by
 have h1:=sZ h.nrm (f.getD i 0) (cu hi);have:=h.len;omega
theorem kY.inj {c:Int} {ls:List (List Int)} {sum:Int} {f:List Int} (h:kY c ls sum f) {i j:Nat} (hi:i<f.length) (hj:j<f.length) (e:f.getD i 0=f.getD j 0):i=j:=by
 have hn:=Tf h.nrm;rw[cK hi,cK hj]at e;exact(ala hn).1 e
theorem kY.sur {c:Int} {ls:List (List Int)} {sum:Int} {f:List Int} (h:kY c ls sum f) {x:Int} (hx:1≤x∧x≤c):∃i,i<f.length∧f.getD i 0=x:=by
 have hl:=h.len;have h1:x∈bK f:=by
  rw[BL h.nrm];exact akC.2 ⟨(x-1).toNat,ajF.2 (by omega),by omega⟩
 have h2:x∈f:=(akZ f _).mem_iff.1 h1;obtain⟨i,hi,rfl⟩:=(bG _ x).1 h2;exact⟨i,hi,rfl⟩
theorem Alw.dec {c:Int} {ls:List (List Int)} {sum:Int} {s:St} {f:List Int} (hB:aR c ls sum s) (hA:Alw s f) {i:Nat} (hi:i<f.length) (hd:s.dc i=true):s.cd i=[f.getD i 0]:=by
 have h1:=hB.dec i (by rw[hA.len];exact hi) hd
 obtain⟨z,hz⟩:=alb.1 h1;have:=hA.mem i hi;rw[hz,akx]at this;rw[hz,this]
theorem Jr {c:Int} {ls:List (List Int)} {sum:Int} {s:St} {f:List Int} (hB:aR c ls sum s) (hA:Alw s f) (hf:kY c ls sum f) {k:Nat} (hk:k<ls.length):
 rst s sum (ls.getD k [])=sF (fun x=>if !(s.dc x.toNat)then f.getD x.toNat 0 else 0) (ls.getD k []):=by
 have h1:=hf.sum k hk;rw[tH]at h1;rw[oK];have h2:sF (fun x=>f.getD x.toNat 0) (ls.getD k [])=sF (fun x=>(if s.dc x.toNat then hd0 (s.cd x.toNat)else 0)+(if !(s.dc x.toNat)then f.getD x.toNat 0 else 0)) (ls.getD k []):=dF fun x hx=>by
  have hr:=(hB.ln k hk).rng x hx;have hl:=hf.len;cases hd:s.dc x.toNat with
  |true=>
   rw[hA.dec hB (by omega) hd]
   simp[hd0]
  |false=>simp
 rw[lD]at h2;omega
theorem zS {c:Int} {ls:List (List Int)} {sum:Int} {s:St} {f:List Int} (hB:aR c ls sum s) (hA:Alw s f) (hf:kY c ls sum f) {k:Nat} (hk:k<ls.length) {y:Int} (hy:y∈ls.getD k []) (hd:s.dc y.toNat=false):
 rst s sum (ls.getD k [])=f.getD y.toNat 0+sF (fun x=>f.getD x.toNat 0) (opn s (ls.getD k []) y):=by
 rw[Jr hB hA hf hk,lF];have h1:sF (fun x=>if !(s.dc x.toNat)then f.getD x.toNat 0 else 0) (ls.getD k [])=sF (fun x=>(if x=y then f.getD y.toNat 0 else 0)+(if !(s.dc x.toNat)&&decide (x≠y)then f.getD x.toNat 0 else 0)) (ls.getD k []):=dF fun x hx=>by
  by_cases e:x=y
  ·subst e;simp[hd]
  ·simp[e]
 rw[h1,lD,Jq (hB.ln k hk).pw hy]
structure jA (c:Int) (ls:List (List Int)) (g:Nat) (y x k:Int):Prop where
 gg:1≤g∧g≤5
 yy:0≤y∧y<c
 xx:1≤x∧x≤c
 kk:lnG g=true→(0≤k∧k<ls.length)∧y∈ls.getD k.toNat []
theorem dS {g:Nat} {s:St} {sum:Int} {l:List Int} {y x:Int}:okJ g s sum l y x=true↔s.dc y.toNat=false∧x∈s.cd y.toNat∧jst g s sum l y x=true:=by
 unfold okJ;simp
theorem sound {c:Int} {ls:List (List Int)} {sum:Int} {s:St} {f:List Int} (hB:aR c ls sum s) (hA:Alw s f) (hf:kY c ls sum f) {g:Nat} {y x k:Int} (hL:jA c ls g y x k) (h:okJ g s sum (ls.getD k.toNat []) y x=true):
 g≤3↔f.getD y.toNat 0=x:=by
 obtain⟨hd,hx,hj⟩:=dS.1 h;have hc:=hB.c1;have hfl:=hf.len;have hsl:=hB.cl;have hyf:y.toNat<f.length:=by have:=hL.yy;omega
 have hfy:=hA.mem _ hyf;have hg:=hL.gg;obtain rfl|rfl|rfl|rfl|rfl:g=1∨g=2∨g=3∨g=4∨g=5:=by omega
 ·refine⟨fun _=>?_,fun _=>by omega⟩
  obtain⟨hk,hm⟩:=hL.kk rfl;have:=zS hB hA hf (k:=k.toNat) (by omega) hm hd
  simp only[jst,uS,aia,decide_eq_true_eq]at hj;rw[alc hj.1]at this;simp only[sF]at this;omega
 ·refine⟨fun _=>?_,fun _=>by omega⟩
  simp only[jst,uT,decide_eq_true_eq]at hj;obtain⟨z,hz⟩:=alb.1 hj;rw[hz,akx]at hx hfy;rw[hx,hfy]
 ·refine⟨fun _=>?_,fun _=>by omega⟩
  simp only[jst,oP,ajp,ajF,ajm,decide_eq_true_eq,akU,decide_eq_false_iff_not]at hj;obtain⟨i,hi,e⟩:=hf.sur hL.xx;have h1:=hA.mem i hi;rw[e]at h1;rcases hj i (by rw[hA.len];exact hi)with h2|h2
  ·rw[←h2];simpa using e
  ·exact absurd h1 h2
 ·refine⟨fun h=>by omega,fun e=>?_⟩
  exfalso
  obtain⟨hk,hm⟩:=hL.kk rfl;have h1:=zS hB hA hf (k:=k.toNat) (by omega) hm hd
  have hr:=fun z (hz:z∈opn s (ls.getD k.toNat []) y)=>(hB.ln k.toNat (by omega)).rng z (aV.1 hz).1
  have hz:=fun z (hz:z∈opn s (ls.getD k.toNat []) y)=>hA.mem z.toNat (by have:=hr z hz;omega)
  have hasc:=fun z (hz:z∈opn s (ls.getD k.toNat []) y)=>(hB.asc z.toNat (by have:=hr z hz;omega)).1.pw
  have h2:qJ s (opn s (ls.getD k.toNat []) y)≤sF (fun x=>f.getD x.toNat 0) (opn s (ls.getD k.toNat []) y):=by
   rw[tC];exact yA fun z hzz=>Bo (hasc z hzz) _ (hz z hzz)
  have h3:sF (fun x=>f.getD x.toNat 0) (opn s (ls.getD k.toNat []) y)≤qK s (opn s (ls.getD k.toNat []) y):=by
   rw[tF];exact yA fun z hzz=>qI (hasc z hzz) _ (hz z hzz)
  simp only[jst,oQ,ajm,ako,decide_eq_true_eq]at hj;rcases hj with⟨z,hzz,e0⟩|hj
  ·have:=hz z hzz
   rw[e0]at this;simp at this
  ·omega
 ·refine⟨fun h=>by omega,fun e=>?_⟩
  exfalso
  obtain⟨hk,hm⟩:=hL.kk rfl;have h1:=zS hB hA hf (k:=k.toNat) (by omega) hm hd
  have hr:=fun z (hz:z∈opn s (ls.getD k.toNat []) y)=>(hB.ln k.toNat (by omega)).rng z (aV.1 hz).1
  simp only[jst,rZ,aia,decide_eq_true_eq,akU]at hj;have:chs s (opn s (ls.getD k.toNat []) y) [x] (rst s sum (ls.getD k.toNat [])-x)=true:=by
   refine(nR s _ _ _ (qX (hB.ln k.toNat (by omega)).pw)).2 ⟨fun z=>f.getD z.toNat 0,fun z hz=>⟨hA.mem _ (by have:=hr z hz;omega),fun hm=>?_⟩,fun z hz w hw hne e1=>?_,by omega⟩
   ·have h2:=hr z hz
    have:=hf.inj (i:=z.toNat) (j:=y.toNat) (by omega) hyf (by rw[e];exact akx.1 hm)
    exact(aV.1 hz).2.2 (by have:=hL.yy;omega)
   ·have h2:=hr z hz
    have h3:=hr w hw;have:=hf.inj (i:=z.toNat) (j:=w.toNat) (by omega) (by omega) e1
    omega
  rw[this]at hj;exact absurd hj.2 (by simp)
theorem ab2 {c:Int} {ls:List (List Int)} {sum:Int} {s:St} {f:List Int} (hB:aR c ls sum s) (hA:Alw s f) (hf:kY c ls sum f) {g:Nat} {y x k:Int} (hL:jA c ls g y x k) (h:okJ g s sum (ls.getD k.toNat []) y x=true):Alw (apl g s y x) f:=by
 have hs:=sound hB hA hf hL h;have hc:=hB.c1;have hfl:=hf.len;have hsl:=hB.cl;have hy:=hL.yy;refine⟨nO.1.trans hA.len,fun i hi=>?_⟩;have hm:=hA.mem i hi;rw[sU (by omega) i (by omega)]
 by_cases hg:g≤3
 ·have hfy:=hs.1 hg
  rw[if_pos hg];split
  ·rename_i e;rw[e,hfy];simp
  ·rename_i e
   exact eD.2 ⟨hm,fun e1=>e (hf.inj hi (by omega) (by rw[e1,hfy]))⟩
 ·have hfy:f.getD y.toNat 0≠x:=fun e=>hg (hs.2 e)
  rw[if_neg hg];split
  ·rename_i e
   rw[e]at hm⊢;exact eD.2 ⟨hm,hfy⟩
  ·exact hm
theorem ab3 {c:Int} {ls:List (List Int)} {sum:Int} {s:St} {f:List Int} (hB:aR c ls sum s) (hA:Alw s f) (hf:kY c ls sum f):brk c ls sum s=false:=by
 have hfl:=hf.len;have hcl:=hB.cl;unfold brk;simp only[ald,ale,ajp,ajF,ako,akp,decide_eq_true_eq,aia];refine⟨⟨fun i hi=>?_,fun l hl e=>?_⟩,fun l hl=>?_⟩
 ·obtain⟨j,hj,e⟩:=hf.sur (x:=(i:Int)+1) (by omega)
  have:=hA.mem j hj;rw[e]at this;exact⟨s.cd j,cu (by omega),this⟩
 ·obtain⟨j,hj,rfl⟩:=ah3 hl
  have:=hA.mem j (by rw[←hA.len];exact hj)
  unfold St.cd at this;rw[ahZ,ah4 hj]at this;simp only[ah5]at this;rw[e]at this;simp at this
 ·rintro⟨h1,h2⟩
  obtain⟨k,hk,rfl⟩:=ah3 hl;have e:ls[k]=ls.getD k []:=by rw[ahZ,ah4 hk];rfl
  rw[e]at h1 h2;rw[Jr hB hA hf hk]at h2;apply h2;have:sF (fun x=>f.getD x.toNat 0) (opn s (ls.getD k []) (-1))=0:=by rw[alc h1];rfl
  rw[lF]at this;refine Eq.trans ?_ this;refine dF fun x hx=>?_;have:=(hB.ln k hk).rng x hx;have h3:x≠ -1:=by omega
  simp[h3]
theorem afa {c:Int} {ls:List (List Int)} {sum:Int} {s:St} (hB:aR c ls sum s) {g:Nat} (hg:1≤g∧g≤5) {d:Dd} (hm:d∈kV g s sum ls):jA c ls d.g d.y d.x d.k∧okJ d.g s sum (ls.getD d.k.toNat []) d.y d.x=true:=by
 obtain⟨h1,h2,h3,h4⟩:=qV.1 hm;have hcl:=hB.cl;obtain⟨h5,h6,h7⟩:=dS.1 h4;have hA:=hB.asc d.y.toNat (by omega)
 subst h1;refine⟨⟨hg,by omega,?_,fun hl=>?_⟩,h4⟩
 ·have:=hA.1.rng _ h6;have:=hA.2 _ h6;omega
 ·rw[if_pos hl]at h3;exact h3
theorem Mx {c:Int} {ls:List (List Int)} {sum:Int} {s:St} (hB:aR c ls sum s) {n:Nat} (hn:n≤5) {d:Dd} (hf:gV s sum ls n=some d):jA c ls d.g d.y d.x d.k∧okJ d.g s sum (ls.getD d.k.toNat []) d.y d.x=true∧d.g≤n:=by
 obtain⟨g,g1,g2,hm⟩:=zO hf;obtain⟨h1,h2⟩:=afa hB ⟨g1,by omega⟩ hm
 exact⟨h1,h2,by rw[(qV.1 hm).1];exact g2⟩
theorem WV {c:Int} {ls:List (List Int)} {sum:Int} {f:List Int} (hf:kY c ls sum f) {n:Nat} (hn:n≤5):∀(u:Nat) (s:St) (l:List Dd),aR c ls sum s→StI s→Alw s f→
 (jQ c ls sum n u s l).2.2≠21∧Alw (jQ c ls sum n u s l).2.1 f∧aR c ls sum (jQ c ls sum n u s l).2.1:=by
 intro u;induction u with
 |zero=>exact fun s l hB hI hA=>⟨by simp[jQ],hA,hB⟩
 |succ u ih=>
  intro s l hB hI hA;unfold jQ;rw[ab3 hB hA hf];simp only[aiF,if_false];split
  ·exact⟨by simp,hA,hB⟩
  ·split
   ·exact⟨by simp,hA,hB⟩
   ·rename_i d hd
    obtain⟨h1,h2,h3⟩:=Mx hB hn hd;obtain⟨h4,h5,h6⟩:=dS.1 h2;obtain⟨h7,h8⟩:=lC hB hI (g:=d.g) h1.yy h1.xx h4 h5;exact ih _ _ h7 h8 (ab2 hB hA hf h1 h2)
def okP (ls:List (List Int)) (sum:Int) (f:List Int):Bool:=ls.all fun l=>!decide (l.getD (l.length-1) 0<f.length)||decide (fZ f l=sum)
def skp (gv f:List Int) (x:Int):Bool:=decide (x∈f)||(decide (0<gv.getD f.length 0)&&decide (gv.getD f.length 0≠x))||(decide (gv.getD f.length 0=0)&&decide (x∈gv))
def eB (c:Int) (ls:List (List Int)) (sum:Int) (gv:List Int):Nat→List Int→List (List Int)
 |0,f=>if okP ls sum f then [f]else []
 |k+1,f=>if okP ls sum f then(ahX c.toNat).flatMap fun x:Nat=>if skp gv f ((x:Int)+1)then []else eB c ls sum gv k (f++[(x:Int)+1])else []
def stP (c:Int) (gv F:List Int) (i:Nat):Prop:=(1≤F.getD i 0∧F.getD i 0≤c)∧F.getD i 0∉F.take i∧(0<gv.getD i 0→gv.getD i 0=F.getD i 0)∧(gv.getD i 0=0→F.getD i 0∉gv)
theorem take_one {F f:List Int} {x:Int} (h:F.take (f.length+1)=f++[x]):F.take f.length=f∧F.getD f.length 0=x∧f.length<F.length:=by
 have hl:=congrArg List.length h;rw[aiG,ai7,alf]at hl;have h1:F.take f.length=f:=by
  have:=congrArg (akt f.length) h;rw[List.take_take,aiy (by omega),List.take_left]at this
  exact this
 rw[dH (show f.length<F.length by omega),h1]at h
 have:=List.append_cancel_left h;exact⟨h1,by simpa using this,by omega⟩
theorem zT {c:Int} {ls:List (List Int)} {sum:Int} {gv:List Int} (hgr:∀i,0≤gv.getD i 0):∀(k:Nat) (f F:List Int),((f.length+k:Nat):Int)=c→
 (F∈eB c ls sum gv k f↔((F.length:Int)=c∧F.take f.length=f)∧(∀i,f.length≤i→i<F.length→stP c gv F i)∧∀j,f.length≤j→j≤F.length→okP ls sum (F.take j)=true):=by
 intro k;induction k with
 |zero=>
  intro f F hl;unfold eB;constructor
  ·intro h
   split at h
   ·rename_i ho
    rw[akx]at h;subst h;exact⟨⟨by omega,ajS⟩,fun i h1 h2=>by omega,fun j h1 h2=>by rw[akL h1];exact ho⟩
   ·simp at h
  ·rintro⟨⟨h1,h2⟩,h3,h4⟩
   have h5:=h4 f.length (ahO _) (by omega)
   rw[h2]at h5;rw[if_pos h5,akx,←h2,akL (by omega)]
 |succ k ih=>
  intro f F hl;unfold eB;constructor
  ·intro h
   split at h
   ·rename_i ho
    obtain⟨x,hx,h⟩:=akT.1 h;split at h
    ·simp at h
    ·rename_i hs
     have hx:=ajF.1 hx;obtain⟨⟨h1,h2⟩,h3,h4⟩:=(ih _ _ (by rw[ai7,alf];omega)).1 h
     rw[ai7,alf]at h2 h3 h4;obtain⟨h5,h6,h7⟩:=take_one h2;unfold skp at hs;simp only[ajm,aia,decide_eq_true_eq,not_or,not_and,Decidable.not_not]at hs;refine⟨⟨h1,h5⟩,fun i i1 i2=>?_,fun j j1 j2=>?_⟩
     ·by_cases e:i=f.length
      ·subst e
       refine⟨by omega,by rw[h5,h6];exact hs.1.1,fun hp=>by rw[h6];exact hs.1.2 hp,fun hz=>by rw[h6];exact hs.2 hz⟩
      ·exact h3 i (by omega) i2
     ·by_cases e:j=f.length
      ·subst e;rw[h5];exact ho
      ·exact h4 j (by omega) j2
   ·simp at h
  ·rintro⟨⟨h1,h2⟩,h3,h4⟩
   have h5:=h4 f.length (ahO _) (by omega)
   rw[h2]at h5;rw[if_pos h5];obtain⟨s1,s2,s3,s4⟩:=h3 f.length (ahO _) (by omega)
   have he:(((F.getD f.length 0-1).toNat:Nat):Int)+1=F.getD f.length 0:=by omega
   refine akT.2 ⟨(F.getD f.length 0-1).toNat,ajF.2 (by omega),?_⟩
   rw[he];have hs:skp gv f (F.getD f.length 0)=false:=by
    unfold skp;rw[h2]at s2;simp only[ald,alg,decide_eq_false_iff_not];refine⟨⟨s2,?_⟩,?_⟩
    ·by_cases e:0<gv.getD f.length 0
     ·right;exact fun hn=>hn (s3 e)
     ·left;exact e
    ·by_cases e:gv.getD f.length 0=0
     ·right;exact s4 e
     ·left;exact e
   rw[hs,if_neg (by simp)]
   refine(ih _ _ (by rw[ai7,alf];omega)).2 ?_
   rw[ai7,alf];refine⟨⟨h1,by rw[dH (by omega),h2]⟩,fun i i1 i2=>h3 i (by omega) i2,fun j j1 j2=>h4 j (by omega) j2⟩
theorem Qk {c:Int} {ls:List (List Int)} {sum:Int} {gv:List Int} (hgr:∀i,0≤gv.getD i 0):∀(k:Nat) (f:List Int),((f.length+k:Nat):Int)=c→(eB c ls sum gv k f).Nodup:=by
 intro k;induction k with
 |zero=>intro f _;unfold eB;split<;>simp
 |succ k ih=>
  intro f hl;unfold eB;split
  ·rw[List.Nodup,List.pairwise_flatMap]
   refine⟨fun x _=>?_,?_⟩
   ·split
    ·simp
    ·exact ih _ (by rw[ai7,alf];omega)
   ·refine ak1.imp fun hne F hF G hG e=>?_
    subst e;split at hF
    ·simp at hF
    ·split at hG
     ·simp at hG
     ·have h1:=((zT hgr k _ _ (by rw[ai7,alf];omega)).1 hF).1.2
      have h2:=((zT hgr k _ _ (by rw[ai7,alf];omega)).1 hG).1.2
      rw[ai7,alf]at h1 h2;have h3:=(take_one h1).2.1;have h4:=(take_one h2).2.1;omega
  ·simp
theorem afb {l:List Int} (hp:l.Pairwise (·< ·)) {a:Int} (ha:∀x∈l,a≤x):∀i,i<l.length→a+i≤l.getD i 0:=by
 intro i;induction i with
 |zero=>intro hi;have:=ha _ (cu (d:=(0:Int)) hi);omega
 |succ i ih=>
  intro hi;have h1:=ih (by omega)
  have h2:=ak3.1 hp i (i+1) (by omega) hi (by omega)
  rw[cK (show i<l.length by omega)]at h1
  rw[cK hi];omega
theorem afc {l:List Int} (hp:l.Pairwise (·< ·)) {b:Int} (hb:∀x∈l,x≤b):∀d i,i+d+1=l.length→l.getD i 0+d≤b:=by
 intro d;induction d with
 |zero=>intro i hi;have:=hb _ (cu (l:=l) (d:=(0:Int)) (show i<l.length by omega));omega
 |succ d ih=>
  intro i hi;have h1:=ih (i+1) (by omega)
  have h2:=ak3.1 hp i (i+1) (by omega) (by omega) (by omega)
  rw[cK (show i+1<l.length by omega)]at h1
  rw[cK (show i<l.length by omega)];omega
theorem BP {F:List Int} (hn:F.Nodup) (hr:∀x∈F,1≤x∧x≤F.length):lU F=true:=by
 have hp:(bK F).Perm F:=akZ F _;have hs:(bK F).Pairwise (·≤ ·):=by
  have:=alh (le:=fun x y:Int=>decide (x≤y)) (fun a b c h1 h2=>by simp at*;omega) (fun a b=>by simp;omega) F
  exact this.imp fun h=>by simpa using h
 have hs2:(bK F).Pairwise (·< ·):=by
  have hn2:(bK F).Pairwise (·≠ ·):=hp.nodup_iff.2 hn;exact hs.imp₂ (fun a b h1 h2=>by omega) hn2
 have hlo:=afb hs2 (a:=1) fun x hx=>(hr x (hp.mem_iff.1 hx)).1;have hhi:=afc hs2 (b:=F.length) fun x hx=>(hr x (hp.mem_iff.1 hx)).2;refine EI fun i hi=>?_;have h1:=hlo i (by rw[jf];exact hi)
 have h2:=hhi (F.length-1-i) i (by rw[jf];omega)
 omega
structure DZ (c:Int) (ls:List (List Int)) (sum:Int) (gv F:List Int):Prop where
 s:kY c ls sum F
 g:∀i,i<gv.length→0<gv.getD i 0→gv.getD i 0=F.getD i 0
theorem rQ {F l:List Int} {j:Nat} (h:∀x∈l,0≤x∧x<j):fZ (F.take j) l=fZ F l:=by
 rw[tH,tH];refine dF fun x hx=>?_;have:=h x hx;rw[ahZ,ahZ,ajH (by omega)]
theorem mV {F:List Int} {i:Nat} {x:Int} (hi:i≤F.length):x∈F.take i↔∃j,j<i∧F.getD j 0=x:=by
 constructor
 ·intro h
  obtain⟨j,hj,e⟩:=(bG _ _).1 h;rw[aiG]at hj;refine⟨j,by omega,?_⟩
  rw[←e,ahZ,ahZ,ajH (by omega)]
 ·rintro⟨j,hj,e⟩
  rw[←e];exact sj hj hi
theorem vo {c:Int} {ls:List (List Int)} {sum:Int} {gv:List Int} (h:bD c ls sum gv) (F:List Int):F∈eB c ls sum gv gv.length []↔DZ c ls sum gv F:=by
 have hgl:=h.gl;have hgr:∀i,0≤gv.getD i 0:=fun i=>by
  by_cases e:i<gv.length
  ·exact(h.gr _ (cu e)).1
  ·rw[ahZ,ajK (by omega)];exact ak9 _
 rw[zT hgr gv.length [] F (by simpa using hgl)]
 simp only[ahG,ali,Nat.zero_le,true_implies];have hlast:∀k,k<ls.length→∀j:Nat,(ls.getD k []).getD ((ls.getD k []).length-1) 0<j→∀x∈ls.getD k [],0≤x∧x<j:=fun k hk j hj x hx=>by
  have hL:=h.ln k hk;have h1:=qI hL.pw x hx;unfold ls0 at h1;have:=hL.rng x hx;omega
 constructor
 ·rintro⟨⟨h1,_⟩,h3,h4⟩
  have hnd:F.Nodup:=by
   rw[List.Nodup,ak3];intro i j hi hj hij e;refine(h3 j hj).2.1 ((mV (by omega)).2 ⟨i,hij,?_⟩)
   rw[cK hi,cK hj];exact e
  refine⟨⟨h1,BP hnd fun x hx=>?_,fun k hk=>?_⟩,fun i hi hp=>(h3 i (by omega)).2.2.1 hp⟩
  ·obtain⟨i,hi,rfl⟩:=(bG _ _).1 hx
   have:=(h3 i hi).1;omega
  ·have h5:=h4 F.length (ahO _)
   rw[ajS]at h5;unfold okP at h5;have h6:=ajp.1 h5 (ls.getD k []) (cu hk);have hL:=h.ln k hk;have hm:=lZ hL.ne;have:=hL.rng _ hm;unfold ls0 at this;rw[ajm,akU,decide_eq_false_iff_not,decide_eq_true_eq]at h6;rcases h6 with h6|h6
   ·exact absurd (by omega) h6
   ·exact h6
 ·rintro⟨hS,hg⟩
  have hFl:=hS.len;refine⟨⟨hFl,trivial⟩,fun i hi=>⟨hS.rng hi,fun hm=>?_,fun hp=>hg i (by omega) hp,fun hz hm=>?_⟩,fun j hj=>?_⟩
  ·obtain⟨j,hj,e⟩:=(mV (by omega)).1 hm
   have:=hS.inj (i:=j) (j:=i) (by omega) hi e
   omega
  ·obtain⟨j,hj,e⟩:=(bG _ _).1 hm
   have h1:=hS.rng hi;have h2:=hg j hj (by omega)
   have:=hS.inj (i:=i) (j:=j) hi (by omega) (by omega)
   subst this;omega
  ·unfold okP
   refine ajp.2 fun l hl=>?_;obtain⟨k,hk,rfl⟩:=ah3 hl;have e:ls[k]=ls.getD k []:=by rw[ahZ,ah4 hk];rfl
   rw[e];rw[ajm,akU,decide_eq_false_iff_not,decide_eq_true_eq,aiG,aiy hj];by_cases hlt:(ls.getD k []).getD ((ls.getD k []).length-1) 0<j
   ·right
    rw[rQ (hlast k hk j hlt)];exact hS.sum k hk
   ·exact .inl hlt
theorem TA {α:Type} (A B:List α) (m:Nat):(A++B).take m=A.take m++B.take (m-A.length):=List.take_append
structure SrJ (c:Int) (ls:List (List Int)) (sum:Int) (gv:List Int) (f:Nat) (N U:List Int):Prop where
 fl:f≤gv.length
 nl:N.length=gv.length
 tl:∀j,gv.length-f≤j→j<gv.length→N.getD j 0=gv.getD j 0
 us:∀x:Int,1≤x→(x∈U↔x∈gv∨x∈N.take (gv.length-f))
 gd:∀i,i<gv.length-f→(0<gv.getD i 0→N.getD i 0=gv.getD i 0)∧(gv.getD i 0=0→N.getD i 0∉gv)
 pv:1≤gv.length-f→okP ls sum (N.take (gv.length-f-1))=true
theorem TD {c:Int} {ls:List (List Int)} {sum:Int} {gv:List Int} (h:bD c ls sum gv) {f:Nat} {N U:List Int} (hJ:SrJ c ls sum gv f N U):jS ls sum N ((gv.length-f:Nat):Int)=okP ls sum (N.take (gv.length-f)):=by
 obtain⟨m,hm⟩:∃m,gv.length-f=m:=⟨_,rfl⟩;have hnl:=hJ.nl;have hpv:=hJ.pv;rw[hm]at hpv⊢;have hm2:m≤gv.length:=by omega
 unfold jS okP;rw[aiG,aiy (by omega)]
 unfold okP at hpv;rw[aiG,aiy (by omega)]at hpv
 rw[ajU,ajp,ajp];have key:∀l∈ls,(∀j:Nat,l.getD (l.length-1) 0<j→∀x∈l,0≤x∧x<j):=fun l hl j hj x hx=>by
  obtain⟨k,hk,rfl⟩:=ah3 hl;have e:ls[k]=ls.getD k []:=by rw[ahZ,ah4 hk];rfl
  rw[e]at hj hx;have hL:=h.ln k hk;have h1:=qI hL.pw x hx;unfold ls0 at h1;have:=hL.rng x hx;omega
 have last0:∀l∈ls,0≤l.getD (l.length-1) 0:=fun l hl=>by
  obtain⟨k,hk,rfl⟩:=ah3 hl;have e:ls[k]=ls.getD k []:=by rw[ahZ,ah4 hk];rfl
  rw[e];have hL:=h.ln k hk;have:=hL.rng _ (lZ hL.ne);unfold ls0 at this;omega
 constructor
 ·intro hf l hl
  rw[ajm,akU,decide_eq_false_iff_not,decide_eq_true_eq];by_cases hlt:l.getD (l.length-1) 0<(m:Int)
  ·right
   rw[rQ (key l hl m hlt)];by_cases e:l.getD (l.length-1) 0=(m:Int)-1
   ·have:=hf l hl
    unfold su at this;rw[decide_eq_true e,Bool.not_true,Bool.false_or,decide_eq_true_eq]at this;exact this
   ·have h0:=last0 l hl
    have hlt2:l.getD (l.length-1) 0<((m-1:Nat):Int):=by omega
    have:=ajp.1 (hpv (by omega)) l hl
    rw[ajm,akU,decide_eq_false_iff_not,decide_eq_true_eq]at this;rcases this with h1|h1
    ·exact absurd hlt2 h1
    ·rw[rQ (key l hl _ hlt2)]at h1
     exact h1
  ·exact .inl hlt
 ·intro hf l hl
  unfold su;rw[ajm,akU,decide_eq_false_iff_not,decide_eq_true_eq];by_cases e:l.getD (l.length-1) 0=(m:Int)-1
  ·right
   have:=hf l hl;rw[ajm,akU,decide_eq_false_iff_not,decide_eq_true_eq]at this;rcases this with h1|h1
   ·exact absurd (by omega) h1
   ·rw[rQ (key l hl m (by omega))]at h1
    exact h1
  ·exact .inl e
theorem TG {α:Type} {g:Nat→List α} {a:Nat}:∀{m:Nat},a<m→(∀x,x<m→x≠a→g x=[])→(ahX m).flatMap g=g a:=by
 intro m;induction m with
 |zero=>intro h;omega
 |succ m ih=>
  intro ha hn;rw[akM,akN,alj];by_cases e:a=m
  ·subst e
   have:(ahX a).flatMap g=[]:=List.flatMap_eq_nil_iff.2 fun x hx=>hn x (by have:=ajF.1 hx;omega) (by have:=ajF.1 hx;omega)
   rw[this];rfl
  ·rw[ih (by omega) fun x hx hne=>hn x (by omega) hne,hn m (by omega) (Ne.symm e),ajL]
theorem WW {c:Int} {ls:List (List Int)} {sum:Int} {gv:List Int} (h:bD c ls sum gv) (lim:Nat):∀(f:Nat) (R:List (List Int)) (N U:List Int),SrJ c ls sum gv f N U→
 kE lim ls sum gv f R N U=R++(eB c ls sum gv f (N.take (gv.length-f))).take (lim-R.length):=by
 have hgl:=h.gl;intro f;induction f with
 |zero=>
  intro R N U hJ;have hf:=TD h hJ;have hnl:=hJ.nl;have hN:N.take (gv.length-0)=N:=akL (by omega)
  rw[hN]at hf⊢;rw[Nat.sub_zero]at hf;unfold kE eB;by_cases h1:(lim:Int)≤R.length
  ·rw[if_pos (.inl h1),show lim-R.length=0 by omega,ali,ajL]
  ·by_cases h2:jS ls sum N gv.length=false
   ·rw[if_pos (.inr h2),←hf,h2];simp
   ·rw[if_neg (fun hh=>hh.elim h1 h2)]
    have:okP ls sum N=true:=by rw[←hf];simpa using h2
    rw[if_pos this,akL (by rw[alf];omega)]
 |succ f ih=>
  intro R N U hJ;have hf:=TD h hJ;have hfl:=hJ.fl;have hnl:=hJ.nl;obtain⟨m,hm⟩:∃m,gv.length-(f+1)=m:=⟨_,rfl⟩;have hm1:gv.length-f=m+1:=by omega
  have hpl:(N.take m).length=m:=by rw[aiG];omega
  unfold kE eB;rw[hm]at hf⊢;by_cases h1:(lim:Int)≤R.length
  ·rw[if_pos (.inl h1),show lim-R.length=0 by omega,ali,ajL]
  ·by_cases h2:jS ls sum N (m:Nat)=false
   ·rw[if_pos (.inr h2),←hf,h2];simp
   ·have hok:okP ls sum (N.take m)=true:=by rw[←hf];simpa using h2
    rw[if_neg (fun hh=>hh.elim h1 h2),if_pos hok];have skv:∀x:Int,skp gv (N.take m) x=(decide (x∈N.take m)||(decide (0<gv.getD m 0)&&decide (gv.getD m 0≠x))||(decide (gv.getD m 0=0)&&decide (x∈gv))):=fun x=>by unfold skp;rw[hpl]
    have nxt:∀(N' U':List Int) (v:Int),N'.length=gv.length→N'.take m=N.take m→N'.getD m 0=v→(∀j,m+1≤j→j<gv.length→N'.getD j 0=N.getD j 0)→(∀x:Int,1≤x→(x∈U'↔x∈gv∨x∈N.take m∨x=v))→(0<gv.getD m 0→v=gv.getD m 0)→(gv.getD m 0=0→v∉gv)→SrJ c ls sum gv f N' U'∧N'.take (gv.length-f)=N.take m++[v]:=fun N' U' v a1 a2 a3 a4 a5 a6 a7=>by
     have ht:N'.take (m+1)=N.take m++[v]:=by rw[dH (by omega),a2,a3]
     refine⟨⟨by omega,a1,fun j j1 j2=>?_,fun x hx=>?_,fun i hi=>?_,fun _=>?_⟩,by rw[hm1,ht]⟩
     ·rw[a4 j (by omega) j2];exact hJ.tl j (by omega) j2
     ·rw[hm1,ht,a5 x hx,ah0,akx]
     ·rw[hm1]at hi
      by_cases e:i=m
      ·subst e;rw[a3];exact⟨a6,a7⟩
      ·have e1:N'.getD i 0=N.getD i 0:=by
        have:=congrArg (fun l:List Int=>l.getD i 0) a2;simp only[ahZ]at this⊢;rw[ajH (by omega),ajH (by omega)]at this
        exact this
       rw[e1];exact hJ.gd i (by omega)
     ·rw[hm1,Nat.add_sub_cancel,a2];exact hok
    by_cases hp:0<gv.getD m 0
    ·rw[if_pos hp]
     have hv:=hJ.tl m (by omega) (by omega)
     have hvm:gv.getD m 0∈gv:=cu (by omega)
     have hvr:=h.gr _ hvm;have hU:=hJ.us;rw[hm]at hU;obtain⟨j1,j2⟩:=nxt N U (gv.getD m 0) hnl rfl hv (fun _ _ _=>rfl) (fun x hx=>by
      rw[hU x hx];constructor
      ·rintro(q|q)
       ·exact .inl q
       ·exact .inr (.inl q)
      ·rintro(q|q|q)
       ·exact .inl q
       ·exact .inr q
       ·exact .inl (q▸hvm)) (fun _=>rfl) (fun e=>by omega)
     rw[ih R N U j1,j2];have hnin:gv.getD m 0∉N.take m:=fun hmm=>by
      obtain⟨j,hj,e⟩:=(mV (by omega)).1 hmm
      have hg:=hJ.gd j (by omega)
      by_cases e0:0<gv.getD j 0
      ·exact h.gd j m hj (by omega) hp ((hg.1 e0).symm.trans e)
      ·have:=(h.gr _ (cu (l:=gv) (d:=(0:Int)) (show j<gv.length by omega))).1
       exact hg.2 (by omega) (e▸hvm)
     have he:(((gv.getD m 0-1).toNat:Nat):Int)+1=gv.getD m 0:=by omega
     rw[TG (a:=(gv.getD m 0-1).toNat) (by omega) fun x hx hne=>by
      rw[skv,if_pos];have:gv.getD m 0≠(x:Int)+1:=by omega
      simp only[ajm,aia,decide_eq_true_eq];exact .inl (.inr ⟨hp,this⟩)]
     rw[he,skv,if_neg];simp only[ajm,aia,decide_eq_true_eq]
     rintro((q|q)|q)
     ·exact hnin q
     ·exact q.2 rfl
     ·omega
    ·have hz:gv.getD m 0=0:=by
      have:=(h.gr _ (cu (l:=gv) (d:=(0:Int)) (show m<gv.length by omega))).1
      omega
     rw[if_neg hp];have hU:=hJ.us;rw[hm]at hU;have hcn:c.toNat=gv.length:=by omega
     rw[hcn];have step:∀q,q≤gv.length→(ahX q).foldl (fun R (x:Nat)=>if((x:Int)+1)∈U then R else kE lim ls sum gv f R (N.set m ((x:Int)+1)) (U++[(x:Int)+1])) R=R++((ahX q).flatMap fun x:Nat=>if skp gv (N.take m) ((x:Int)+1)then []else eB c ls sum gv f (N.take m++[(x:Int)+1])).take (lim-R.length):=by
      intro q;induction q with
      |zero=>intro _;simp
      |succ q ihq=>
       intro hq;rw[akM,akc,akN,ihq (by omega),alj]
       simp only[ak8,alk];obtain⟨A,hA⟩:∃A,((ahX q).flatMap fun x:Nat=>if skp gv (N.take m) ((x:Int)+1)then []else eB c ls sum gv f (N.take m++[(x:Int)+1]))=A:=⟨_,rfl⟩;rw[hA];have hsk:skp gv (N.take m) ((q:Int)+1)=decide (((q:Int)+1)∈U):=by
        rw[skv,ajU];simp only[ajm,aia,decide_eq_true_eq];rw[hU _ (by omega)]
        constructor
        ·rintro((q1|⟨q1,_⟩)|⟨_,q1⟩)
         ·exact .inr q1
         ·exact absurd q1 hp
         ·exact .inl q1
        ·rintro(q1|q1)
         ·exact .inr ⟨hz,q1⟩
         ·exact .inl (.inl q1)
       by_cases hin:((q:Int)+1)∈U
       ·rw[if_pos hin,hsk,decide_eq_true hin,if_pos rfl,ajL]
       ·rw[if_neg hin,hsk,decide_eq_false hin,if_neg (by simp)]
        have hgv:((q:Int)+1)∉gv:=fun e=>hin ((hU _ (by omega)).2 (.inl e))
        obtain⟨j1,j2⟩:=nxt (N.set m ((q:Int)+1)) (U++[(q:Int)+1]) ((q:Int)+1) (by rw[ait];exact hnl) (by rw[List.take_set_of_le (ahO _)]) (by simp[ahZ,show m<N.length by omega]) (fun j hj _=>by simp[ahZ,aiu (show m≠j by omega)]) (fun x hx=>by
         rw[ah0,akx,hU x hx,or_assoc]) (fun e=>absurd e hp) (fun _=>hgv)
        rw[ih _ _ _ j1,j2,List.append_assoc,TA,ai7,aiG];congr 2;congr 1;omega
     exact step gv.length (ahO _)
theorem TH {c:Int} {ls:List (List Int)} {sum:Int} {gv:List Int} (h:bD c ls sum gv) (lim:Nat):kE lim ls sum gv gv.length [] gv gv=(eB c ls sum gv gv.length []).take lim:=by
 rw[WW h lim gv.length [] gv gv ⟨ahO _,rfl,fun _ _ _=>rfl,fun x hx=>by simp,fun i hi=>by omega,fun hi=>by omega⟩]
 simp
end Go.Eng.YtcechbdgokjmgaaGreatDoor
namespace Go.Eng.YtcechbdgokjmgaaGreatDoor
open Go.Proofs
set_option linter.unusedSimpArgs false
set_option linter.unusedVariables false
set_option maxHeartbeats 0
set_option maxRecDepth 100000
theorem KP (l f:List Int) (h:l.length≤1000) (hl:∀x∈l,0≤x∧x<f.length) (hf:∀x∈f,0≤x∧x≤16):aF Tryz.prog 119 [.isl (.ints .i64 l) .none,.isl (.ints .i64 f) .none] (.int .i64 (fZ f l)):=by
 refine av (md:=1) (rf:=[]) mixed au aC Tryz.func119 (by rfl) (by rfl) (by rfl) ?_
 repeat'((conv=>whnf);first|(intro hq;(try simp only[vw]at hq);try first|exact absurd hq (by decide)|exfalso;omega)|apply aI|with_reducible exact vM rfl|exact⟨⟩|apply nM|apply fM)
 all_goals((try apply vM);(try simp only[vq]at*);try omega)
 conv=>whnf
 refine aM (X:=Nat) (fun i=>i≤l.length) (fun i=>[(6,.int .i64 i),(5,.int .i64 (fZ f (l.take i)))]) (fun i=>[]) (fun i=>l.length-i) 0 ⟨aK,mixed,au,aC,aP⟩ (by rfl) (by omega) ?_ ?_
 ·repeat'((conv=>whnf);first|intro _|apply aI|with_reducible exact vM rfl|exact⟨⟩|apply nM|apply fM)
  all_goals((try apply vM);(try simp only[vq]at*);try omega)
  all_goals rfl
 intro i hi;have hbd:=qd hf (l.take i);rw[aiG]at hbd;by_cases hlt:i<l.length
 ·have hx:=hl _ (cu (d:=(0:Int)) hlt)
  have hxl:(l.getD i 0).toNat<f.length:=by omega
  have hfx:=hf _ (cu (d:=(0:Int)) hxl);have hap:=zP f (l.take i) (l.getD i 0);rw[←dH hlt]at hap
  repeat'((conv=>whnf);first|(intro hq;(try simp only[vw]at hq);try first|exact absurd hq (by decide)|exfalso;omega)|apply aI|with_reducible exact vM rfl|exact⟨⟩|apply nM|apply fM)
  all_goals((try apply vM);(try simp only[vq]at*);try omega)
  all_goals(try omega)
  refine⟨i+1,[],⟨by omega,by omega⟩,?_⟩
  rw[hap]
  repeat'((conv=>whnf);first|intro _|apply aI|with_reducible exact vM rfl|exact⟨⟩|apply nM|apply fM)
  all_goals((try apply vM);(try simp only[vq]at*);try omega)
 ·have:i=l.length:=by omega
  subst this;rw[ajS]
  repeat'((conv=>whnf);first|(intro hq;(try simp only[vw]at hq);try first|exact absurd hq (by decide)|exfalso;omega)|apply aI|with_reducible exact vM rfl|exact⟨⟩|apply nM|apply fM)
  all_goals((try apply vM);(try simp only[vq]at*);try omega)
  all_goals(try first|omega|exact Sup.of rfl)
def D6:PSp:=fun xs K=>match xs with
 | [.isl (.ints .i64 l) .none,.isl (.ints .i64 f) .none]=>VC (l.length≤1000∧(∀x∈l,0≤x∧x<f.length)∧∀x∈f,0≤x∧x≤16)∧K (.int .i64 (fZ f l))
 |_=>False
theorem TI:POK Tryz.prog 119 D6:=by
 intro xs K h;unfold D6 at h;split at h
 ·exact⟨_,h.2,KP _ _ h.1.get.1 h.1.get.2.1 h.1.get.2.2⟩
 ·exact h.elim
theorem clD {b:Bool} (h:b=false) (h':b=true):False:=by rw[h]at h';cases h'
def zU (f:List Int):Bool:=(ahX f.length).all fun k:Nat=>decide ((k:Int)+1∈f)
theorem MB {α:Type} [DecidableEq α]:∀(l m:List α),l.Nodup→(∀x∈l,x∈m)→l.length≤m.length:=by
 intro l;induction l with
 |nil=>intro m _ _;simp
 |cons x r ih=>
  intro m hn hm;have hn':=ajh.1 hn;have hx:=hm x (by simp)
  have:=ih (m.erase x) hn'.2 fun y hy=>(List.mem_erase_of_ne (fun e=>hn'.1 y hy e.symm)).2 (hm y (by simp[hy]))
  rw[List.length_erase_of_mem hx]at this;have:=alm hx;simp only[ahK];omega
def rR (n:Nat):List Int:=(ahX n).map fun k:Nat=>(k:Int)+1
theorem WX (n:Nat):(rR n).Nodup:=by
 unfold rR;rw[List.Nodup,ak0];exact List.pairwise_lt_range.imp fun h e=>by omega
theorem EJ {n:Nat} {x:Int}:x∈rR n↔1≤x∧x≤n:=by
 unfold rR;rw[akC];constructor
 ·rintro⟨k,hk,rfl⟩
  have:=ajF.1 hk;omega
 ·intro h
  exact⟨(x-1).toNat,ajF.2 (by omega),by omega⟩
theorem ab4 {l:List Int} {j:Nat} {x:Int} (hj:j<l.length) (hx:x∈l) (h:x=l.getD j 0→∃i,i<l.length∧i≠j∧l.getD i 0=x):x∈l.eraseIdx j:=by
 obtain⟨i,hi,e⟩:=(bG l x).1 hx;rw[List.mem_eraseIdx_iff_getElem];by_cases q:i=j
 ·obtain⟨k,h1,h2,h3⟩:=h (by rw[←e,q])
  exact⟨k,h1,h2,by rw[←cK h1];exact h3⟩
 ·exact⟨i,hi,q,by rw[←cK hi];exact e⟩
theorem D7 {f:List Int}:zU f=true↔lU f=true:=by
 constructor
 ·intro h
  have hs:∀x∈rR f.length,x∈f:=fun x hx=>by
   have h1:=EJ.1 hx;have:=ajp.1 h (x-1).toNat (ajF.2 (by omega))
   rw[decide_eq_true_eq,show(((x-1).toNat:Nat):Int)+1=x by omega]at this
   exact this
  have key:∀j,j<f.length→(∀x∈rR f.length,x=f.getD j 0→∃i,i<f.length∧i≠j∧f.getD i 0=x)→False:=fun j hj hx=>by
   have:=MB (rR f.length) (f.eraseIdx j) (WX _) fun x hm=>ab4 hj (hs x hm) (hx x hm);rw[List.length_eraseIdx_of_lt hj]at this;simp only[rR,ajO,List.length_range]at this;omega
  refine BP ?_ fun x hx=>?_
  ·rw[List.Nodup,ak3]
   intro i j hi hj hij e;exact key j hj fun x hx e1=>⟨i,hi,by omega,by rw[e1,cK hi,cK hj];exact e⟩
  ·obtain⟨j,hj,rfl⟩:=(bG f x).1 hx
   refine aln fun hno=>key j hj fun x hx e1=>?_;have:=EJ.1 hx;exact absurd (by rw[e1]at this;exact this) hno
 ·intro h
  refine ajp.2 fun k hk=>decide_eq_true ?_;have hk:=ajF.1 hk;have h1:(k:Int)+1∈bK f:=by
   rw[BL h];exact akC.2 ⟨k,ajF.2 hk,rfl⟩
  exact(akZ f _).mem_iff.1 h1
theorem TJ (f:List Int) (h:f.length≤1000000):aF Tryz.prog 54 [.isl (.ints .i64 f) .none] (.bp (zU f)):=by
 refine av (md:=1) (rf:=[]) mixed au aC Tryz.func54 (by rfl) (by rfl) (by rfl) ?_
 repeat'((conv=>whnf);first|(intro hq;(try simp only[vw]at hq);try first|exact absurd hq (by decide)|exfalso;omega)|apply aI|with_reducible exact vM rfl|exact⟨⟩|apply nM|apply fM)
 all_goals((try apply vM);(try simp only[vq]at*);try omega)
 conv=>whnf
 refine aM (X:=Nat) (fun n=>n≤f.length∧∀k,k<n→(k:Int)+1∈f) (fun n=>[(3,.int .i64 ((n:Int)+1))]) (fun n=>[]) (fun n=>f.length-n) 0 ⟨aK,mixed,au,aC,aP⟩ (by rfl) ⟨by omega,fun k hk=>by omega⟩ ?_ ?_
 ·repeat'((conv=>whnf);first|intro _|apply aI|with_reducible exact vM rfl|exact⟨⟩|apply nM|apply fM)
  all_goals((try apply vM);(try simp only[vq]at*);try omega)
 intro n ⟨hn,hok⟩;by_cases hlt:n<f.length
 case neg=>
  have e:zU f=true:=ajp.2 fun k hk=>decide_eq_true (hok k (by have:=ajF.1 hk;omega))
  rw[e]
  repeat'((conv=>whnf);first|(intro hq;(try simp only[vw]at hq);try first|exact absurd hq (by decide)|exfalso;omega)|apply aI|with_reducible exact vM rfl|exact⟨⟩|apply nM|apply fM)
  all_goals((try apply vM);(try simp only[vq]at*);try omega)
  all_goals(try first|omega|exact fO true)
 repeat'((conv=>whnf);first|(intro hq;(try simp only[vw]at hq);try first|exact absurd hq (by decide)|exfalso;omega)|apply aI|with_reducible exact vM rfl|exact⟨⟩|apply nM|apply fM)
 all_goals((try apply vM);(try simp only[vq]at*);try omega)
 all_goals(try omega)
 conv=>whnf
 refine aM (X:=Nat) (fun i=>i≤f.length) (fun i=>[(5,.int .i64 i),(4,.bp (decide ((n:Int)+1∈f.take i)))]) (fun i=>[]) (fun i=>f.length-i) 0 ⟨aK,mixed,au,aC,aP⟩ (by rfl) (by omega) ?_ ?_
 ·repeat'((conv=>whnf);first|intro _|apply aI|with_reducible exact vM rfl|exact⟨⟩|apply nM|apply fM)
  all_goals((try apply vM);(try simp only[vq]at*);try omega)
  all_goals(try(simp;done))
 intro i hi;by_cases hli:i<f.length
 ·have ht:=dH hli
  have hin:(n:Int)+1∈f.take i→decide ((n:Int)+1∈f.take (i+1))=true:=fun a=>decide_eq_true (by rw[ht];exact ah1 _ a)
  have hout:(n:Int)+1∉f.take i→decide ((n:Int)+1∈f.take (i+1))=decide (f.getD i 0=(n:Int)+1):=fun a=>by
   rw[ht];by_cases e:f.getD i 0=(n:Int)+1
   ·rw[decide_eq_true e,decide_eq_true (by rw[e];simp)]
   ·rw[decide_eq_false e,decide_eq_false (by rw[ah0,akx];rintro(q|q);exact a q;exact e q.symm)]
  repeat'((conv=>whnf);first|(intro hq;(try simp only[vw]at hq);try first|exact absurd hq (by decide)|exfalso;omega)|apply aI|with_reducible exact vM rfl|exact⟨⟩|apply nM|apply fM)
  all_goals((try apply vM);(try simp only[vq]at*);try omega)
  all_goals(try omega)
  ·refine⟨i+1,[],⟨by omega,by omega⟩,?_⟩
   rw[hout hq]
   repeat'((conv=>whnf);first|intro _|apply aI|with_reducible exact vM rfl|exact⟨⟩|apply nM|apply fM)
   all_goals((try apply vM);(try simp only[vq]at*);try omega)
  ·refine⟨i+1,[],⟨by omega,by omega⟩,?_⟩
   rw[decide_eq_true (show(n:Int)+1∈f.take (i+1) by rw[ht];exact ah1 _ hq)]
   repeat'((conv=>whnf);first|intro _|apply aI|with_reducible exact vM rfl|exact⟨⟩|apply nM|apply fM)
   all_goals((try apply vM);(try simp only[vq]at*);try omega)
 have:i=f.length:=by omega
 subst this;rw[ajS]
 repeat'((conv=>whnf);first|(intro hq;(try simp only[vw]at hq);try first|exact absurd hq (by decide)|exfalso;omega)|apply aI|with_reducible exact vM rfl|exact⟨⟩|apply nM|apply fM)
 all_goals((try apply vM);(try simp only[vq]at*);try omega)
 all_goals(try omega)
 ·rw[show zU f=false from ak7.2 ⟨n,ajF.2 hlt,by rw[decide_eq_false hq];simp⟩]
  exact fO false
 ·refine⟨n+1,[],⟨⟨by omega,fun k hk=>?_⟩,by omega⟩,?_⟩
  ·by_cases e:k=n
   ·subst e;exact hq
   ·exact hok k (by omega)
  repeat'((conv=>whnf);first|intro _|apply aI|with_reducible exact vM rfl|exact⟨⟩|apply nM|apply fM)
  all_goals((try apply vM);(try simp only[vq]at*);try omega)
def Ql:PSp:=fun xs K=>match xs with
 | [.isl (.ints .i64 f) .none]=>VC (f.length≤1000000)∧K (.bp (zU f))
 |_=>False
theorem ab5:POK Tryz.prog 54 Ql:=by
 intro xs K h;unfold Ql at h;split at h
 ·exact⟨_,h.2,TJ _ h.1.get⟩
 ·exact h.elim
def mW (c:Int) (ls:List (List Int)) (sum:Int) (gv f:List Int):Bool:=decide ((f.length:Int)=c)&&(zU f&&((ahX f.length).all (fun i=>!(decide (0<gv.getD i 0)&&decide (gv.getD i 0≠f.getD i 0)))&&ls.all fun l=>decide (fZ f l=sum)))
noncomputable def ahp:CPT:=aA 54 (aB Ql) (aA 119 (aB D6) noC)
theorem tJ:aW Tryz.prog ahp:=aj (ak ab5) (aj (ak TI) aC)
theorem KQ (c:Int) (ls:List (List Int)) (sum:Int) (gv f:List Int) (h:bD c ls sum gv):aF Tryz.prog 48 [pzV c ls sum gv,.isl (.ints .i64 f) .none] (.bp (mW c ls sum gv f)):=by
 have hc:=h.c1;have hgl:=h.gl;have no:mW c ls sum gv f=false→Sup (bI [PV.bool false]) (.bp (mW c ls sum gv f)):=fun e=>by rw[e];exact fO false
 by_cases h1:(f.length:Int)=c
 case neg=>
  have e:mW c ls sum gv f=false:=by unfold mW;rw[decide_eq_false h1];rfl
  refine av (md:=1) (rf:=[]) mixed au tJ Tryz.func48 (by rfl) (by rfl) (by rfl) ?_
  repeat'((conv=>whnf);first|(intro hq;(try simp only[vw]at hq);try first|exact absurd hq (by decide)|exfalso;omega)|apply aI|with_reducible exact vM rfl|exact⟨⟩|apply nM|apply fM)
  all_goals((try apply vM);(try simp only[vq]at*);try omega)
  all_goals(try first|omega|exact no e)
 cases hn:zU f with
 |false=>
  have e:mW c ls sum gv f=false:=by unfold mW;rw[hn,aj9,aj3]
  refine av (md:=1) (rf:=[]) mixed au tJ Tryz.func48 (by rfl) (by rfl) (by rfl) ?_
  repeat'((conv=>whnf);first|(intro hq;(try simp only[vw]at hq);try first|exact absurd hq (by decide)|exfalso;omega)|apply aI|with_reducible exact vM rfl|exact⟨⟩|apply nM|apply fM)
  all_goals((try apply vM);(try simp only[vq]at*);try omega)
  all_goals(try first|omega|exact no e|(exfalso;exact clD hn hq)|exact absurd (hn.symm.trans hq) (by decide))
  all_goals skip
 |true=>
  have hfr:∀x∈f,0≤x∧x≤16:=fun x hx=>by have:=sZ (D7.1 hn) x hx;omega
  have eG:mW c ls sum gv f=((ahX f.length).all (fun i=>!(decide (0<gv.getD i 0)&&decide (gv.getD i 0≠f.getD i 0)))&&ls.all fun l=>decide (fZ f l=sum)):=by
   unfold mW;rw[decide_eq_true h1,hn,akz,akz]
  refine av (md:=1) (rf:=[]) mixed au tJ Tryz.func48 (by rfl) (by rfl) (by rfl) ?_
  repeat'((conv=>whnf);first|(intro hq;(try simp only[vw]at hq);try first|exact absurd hq (by decide)|exfalso;omega)|apply aI|with_reducible exact vM rfl|exact⟨⟩|apply nM|apply fM)
  all_goals((try apply vM);(try simp only[vq]at*);try omega)
  all_goals(try first|omega|exact absurd (hn.symm.trans hq) (by decide)|exact absurd (hq.symm.trans hn) (by decide))
  conv=>whnf
  refine aM (X:=Nat) (fun i=>i≤f.length∧∀j,j<i→¬(0<gv.getD j 0∧gv.getD j 0≠f.getD j 0)) (fun i=>[(5,.int .i64 i)]) (fun i=>[]) (fun i=>f.length-i) 0 ⟨aK,mixed,au,tJ,aP⟩ (by rfl) ⟨by omega,fun j hj=>by omega⟩ ?_ ?_
  ·repeat'((conv=>whnf);first|intro _|apply aI|with_reducible exact vM rfl|exact⟨⟩|apply nM|apply fM)
   all_goals((try apply vM);(try simp only[vq]at*);try omega)
  intro i ⟨hi,hok⟩;by_cases hlt:i<f.length
  ·have nxt:¬(0<gv.getD i 0∧gv.getD i 0≠f.getD i 0)→∀j,j<i+1→¬(0<gv.getD j 0∧gv.getD j 0≠f.getD j 0):=fun a j hj=>by
    by_cases e:j=i
    ·subst e;exact a
    ·exact hok j (by omega)
   repeat'((conv=>whnf);first|(intro hq;(try simp only[vw]at hq);try first|exact absurd hq (by decide)|exfalso;omega)|apply aI|with_reducible exact vM rfl|exact⟨⟩|apply nM|apply fM)
   all_goals((try apply vM);(try simp only[vq]at*);try omega)
   all_goals(try omega)
   ·refine no ?_
    rename_i hq2;rw[eG,ak7.2 ⟨i,ajF.2 hlt,by rw[decide_eq_true hq2,decide_eq_true hq];simp⟩,aj9]
   ·refine⟨i+1,[],⟨⟨by omega,nxt (fun a=>hq a.2)⟩,by omega⟩,?_⟩
    repeat'((conv=>whnf);first|intro _|apply aI|with_reducible exact vM rfl|exact⟨⟩|apply nM|apply fM)
    all_goals((try apply vM);(try simp only[vq]at*);try omega)
   ·refine⟨i+1,[],⟨⟨by omega,nxt (fun a=>hq a.1)⟩,by omega⟩,?_⟩
    repeat'((conv=>whnf);first|intro _|apply aI|with_reducible exact vM rfl|exact⟨⟩|apply nM|apply fM)
    all_goals((try apply vM);(try simp only[vq]at*);try omega)
  have e:i=f.length:=by omega
  subst e;have hA:(ahX f.length).all (fun i=>!(decide (0<gv.getD i 0)&&decide (gv.getD i 0≠f.getD i 0)))=true:=ajp.2 fun j hj=>by
   have h2:=hok j (ajF.1 hj);rw[akU,alg,decide_eq_false_iff_not,decide_eq_false_iff_not];by_cases a:0<gv.getD j 0
   ·exact .inr fun b=>h2 ⟨a,b⟩
   ·exact .inl a
  rw[hA,akz]at eG
  repeat'((conv=>whnf);first|(intro hq;(try simp only[vw]at hq);try first|exact absurd hq (by decide)|exfalso;omega)|apply aI|with_reducible exact vM rfl|exact⟨⟩|apply nM|apply fM)
  all_goals((try apply vM);(try simp only[vq]at*);try omega)
  all_goals(try omega)
  conv=>whnf
  refine aM (X:=Nat) (fun i=>i≤ls.length∧∀j,j<i→fZ f (ls.getD j [])=sum) (fun i=>[(6,.int .i64 i)]) (fun i=>[]) (fun i=>ls.length-i) 0 ⟨aK,mixed,au,tJ,aP⟩ (by rfl) ⟨by omega,fun j hj=>by omega⟩ ?_ ?_
  ·repeat'((conv=>whnf);first|intro _|apply aI|with_reducible exact vM rfl|exact⟨⟩|apply nM|apply fM)
   all_goals((try apply vM);(try simp only[vq]at*);try omega)
  intro i ⟨hi,hok2⟩;have hll:=h.ll;by_cases hlt:i<ls.length
  ·have hL:=h.ln i hlt
   have hlen:=hL.len;have hbd:=qd hfr (ls.getD i []);have hso:(ls.getD i []).length≤1000∧(∀x∈ls.getD i [],0≤x∧x<(f.length:Int))∧∀x∈f,0≤x∧x≤16:=⟨by omega,fun x hx=>by have:=hL.rng x hx;omega,hfr⟩
   repeat'((conv=>whnf);first|(intro hq;(try simp only[vw]at hq);try first|exact absurd hq (by decide)|exfalso;omega)|apply aI|with_reducible exact vM rfl|exact⟨⟩|apply nM|apply fM)
   all_goals((try apply vM);(try simp only[vq]at*);try omega)
   all_goals(try first|omega|exact hso)
   ·refine no ?_
    rw[eG];exact ak7.2 ⟨_,cu (d:=([]:List Int)) hlt,by rw[decide_eq_false hq];simp⟩
   ·refine⟨i+1,[],⟨⟨by omega,fun j hj=>?_⟩,by omega⟩,?_⟩
    ·by_cases e:j=i
     ·subst e;omega
     ·exact hok2 j (by omega)
    repeat'((conv=>whnf);first|intro _|apply aI|with_reducible exact vM rfl|exact⟨⟩|apply nM|apply fM)
    all_goals((try apply vM);(try simp only[vq]at*);try omega)
  have e:i=ls.length:=by omega
  subst e;have hT:mW c ls sum gv f=true:=by
   rw[eG];refine ajp.2 fun l hl=>decide_eq_true ?_;obtain⟨j,hj,rfl⟩:=ah3 hl;have:=hok2 j hj;rw[ahZ,ah4 hj]at this;exact this
  rw[hT]
  repeat'((conv=>whnf);first|(intro hq;(try simp only[vw]at hq);try first|exact absurd hq (by decide)|exfalso;omega)|apply aI|with_reducible exact vM rfl|exact⟨⟩|apply nM|apply fM)
  all_goals((try apply vM);(try simp only[vq]at*);try omega)
  all_goals(try first|omega|exact fO true)
theorem ab6 {c:Int} {ls:List (List Int)} {sum:Int} {gv f:List Int} (h:bD c ls sum gv):mW c ls sum gv f=true↔DZ c ls sum gv f:=by
 have hgl:=h.gl;unfold mW;simp only[aia,decide_eq_true_eq,ajp,ajF];constructor
 ·rintro⟨h1,h2,h3,h4⟩
  refine⟨⟨h1,D7.1 h2,fun i hi=>h4 _ (cu hi)⟩,fun i hi hp=>?_⟩;have:=h3 i (by omega)
  rw[akU,alg,decide_eq_false_iff_not,decide_eq_false_iff_not]at this;rcases this with a|a
  ·exact absurd hp a
  ·exact aiK.1 a
 ·rintro⟨⟨h1,h2,h3⟩,h4⟩
  refine⟨h1,D7.2 h2,fun i hi=>?_,fun l hl=>?_⟩
  ·rw[akU,alg,decide_eq_false_iff_not,decide_eq_false_iff_not]
   by_cases a:0<gv.getD i 0
   ·exact .inr fun b=>b (h4 i (by omega) a)
   ·exact .inl a
  ·obtain⟨j,hj,rfl⟩:=ah3 hl
   have:=h3 j hj;rw[ahZ,ah4 hj]at this;exact this
def Qm:PSp:=fun xs K=>match xs with
 | [.agg [.int .i64 c,.isl (.rows .i64 ls) .none,.int .i64 sum,.isl (.ints .i64 gv) .none],.isl (.ints .i64 f) .none]=>VC (bD c ls sum gv)∧K (.bp (mW c ls sum gv f))
 |_=>False
theorem ab7:POK Tryz.prog 48 Qm:=by
 intro xs K h;unfold Qm at h;split at h
 ·exact⟨_,h.2,KQ _ _ _ _ _ h.1.get⟩
 ·exact h.elim
noncomputable def afd:CPT:=aA 19 (aB Jl) (aA 29 (aB Qi) noC)
theorem TK:aW Tryz.prog afd:=aj (ak Jm) (aj (ak ab0) aC)
theorem Qn (c:Int) (ls:List (List Int)) (sum:Int) (gv:List Int):aF Tryz.prog 47 [pzV c ls sum gv] (.bp (xG c ls sum gv 9 10)):=by
 refine av (md:=1) (rf:=[]) mixed au TK Tryz.func47 (by rfl) (by rfl) (by rfl) ?_
 repeat'((conv=>whnf);first|(intro hq;(try simp only[vw]at hq);try first|exact absurd hq (by decide)|exfalso;omega)|apply aI|with_reducible exact vM rfl|exact⟨⟩|apply nM|apply fM)
 all_goals((try apply vM);(try simp only[vq]at*);try omega)
 all_goals first|omega|exact Sup.of rfl|skip
def BQ:PSp:=fun xs K=>match xs with
 | [.agg [.int .i64 c,.isl (.rows .i64 ls) .none,.int .i64 sum,.isl (.ints .i64 gv) .none]]=>VC (True)∧K (.bp (xG c ls sum gv 9 10))
 |_=>False
theorem Js:POK Tryz.prog 47 BQ:=by
 intro xs K h;unfold BQ at h;split at h
 ·exact⟨_,h.2,Qn _ _ _ _⟩
 ·exact h.elim
theorem afe {c:Int} {ls:List (List Int)} {sum:Int} {gv:List Int} {k n:Nat} (h:xG c ls sum gv k n=true) (hk:k≤5000) (hn:n≤1000000):pzE c ls sum gv=0∧bO ls∧c≤k∧(gv.length:Int)≤k:=by
 unfold xG at h;simp only[aia,decide_eq_true_eq]at h;have h1:=h.1;unfold vk at h1;simp only[aia,decide_eq_true_eq]at h1;exact⟨h.2.2,Jp h.1 hk hn,h1.2.2,h.2.1⟩
end Go.Eng.YtcechbdgokjmgaaGreatDoor
namespace Go.Eng.YtcechbdgokjmgaaGreatDoor
open Go.Proofs Go.RowKit
set_option linter.unusedSimpArgs false
set_option linter.unusedVariables false
set_option maxHeartbeats 0
set_option maxRecDepth 100000
def FV:PSp:=fun xs K=>match xs with
 | [.agg [.int .i64 c,.isl (.rows .i64 ls) .none,.int .i64 sum,.isl (.ints .i64 gv) .none]]=>VC (gv.length≤9223372036854775807)∧K (.int .i64 (zeN gv:Nat))
 |_=>False
theorem MC:POK Tryz.prog 38 FV:=by
 intro xs K h;unfold FV at h;split at h
 ·exact⟨_,h.2,KO _ _ _ _ h.1.get⟩
 ·exact h.elim
end Go.Eng.YtcechbdgokjmgaaGreatDoor
namespace Go.Eng.YtcechbdgokjmgaaGreatDoor
open Go.Proofs
set_option linter.unusedSimpArgs false
set_option linter.unusedVariables false
set_option maxHeartbeats 0
set_option maxRecDepth 100000
def gW (n:Int):Int:=if n<0∨256<n then 3 else 0
theorem TL (n:Int):aF Tryz.prog 143 [.int .i64 n] (.int .i64 (gW n)):=by
 unfold gW;by_cases h:n<0∨256<n
 ·rw[if_pos h]
  refine av (md:=1) (rf:=[]) mixed au aC Tryz.func143 (by rfl) (by rfl) (by rfl) ?_
  repeat'((conv=>whnf);first|(intro hq;(try simp only[vw]at hq);try first|exact absurd hq (by decide)|exfalso;omega)|apply aI|with_reducible exact vM rfl|exact⟨⟩|apply nM|apply fM)
  all_goals((try apply vM);(try simp only[vq]at*);try omega)
  all_goals first|omega|exact Sup.of rfl
 ·rw[if_neg h]
  refine av (md:=1) (rf:=[]) mixed au aC Tryz.func143 (by rfl) (by rfl) (by rfl) ?_
  repeat'((conv=>whnf);first|(intro hq;(try simp only[vw]at hq);try first|exact absurd hq (by decide)|exfalso;omega)|apply aI|with_reducible exact vM rfl|exact⟨⟩|apply nM|apply fM)
  all_goals((try apply vM);(try simp only[vq]at*);try omega)
  all_goals first|omega|exact Sup.of rfl
def Qo:PSp:=fun xs K=>match xs with
 | [.int .i64 n]=>VC (True)∧K (.int .i64 (gW n))
 |_=>False
theorem ab8:POK Tryz.prog 143 Qo:=by
 intro xs K h;unfold Qo at h;split at h
 ·exact⟨_,h.2,TL _⟩
 ·exact h.elim
def iD (q:List Int) (n:Int):Int:=if gW n≠0 then 3 else if(q.length:Int)≠n then 2 else gG 5 q
noncomputable def ahq:CPT:=aA 56 (aB IC) (aA 143 (aB Qo) noC)
theorem tK:aW Tryz.prog ahq:=aj (ak V5) (aj (ak ab8) aC)
theorem TM (q:List Int) (b:Bool) (n:Int) (h:q.length≤5000):aF Tryz.prog 80 [.agg [.isl (.ints .i64 q) .none,.bp b],.int .i64 n] (.int .i64 (iD q n)):=by
 unfold iD;by_cases h1:gW n=0
 case neg=>
  rw[if_pos h1];refine av (md:=1) (rf:=[]) mixed au tK Tryz.func80 (by rfl) (by rfl) (by rfl) ?_
  repeat'((conv=>whnf);first|(intro hq;(try simp only[vw]at hq);try first|exact absurd hq (by decide)|exfalso;omega)|apply aI|with_reducible exact vM rfl|exact⟨⟩|apply nM|apply fM)
  all_goals((try apply vM);(try simp only[vq]at*);try omega)
  all_goals first|omega|exact Sup.of rfl|(exfalso;exact hq h1)|(exfalso;exact h1 hq)|skip
 rw[if_neg (by rw[h1];simp)]
 by_cases h2:(q.length:Int)=n
 case neg=>
  rw[if_pos h2];refine av (md:=1) (rf:=[]) mixed au tK Tryz.func80 (by rfl) (by rfl) (by rfl) ?_
  repeat'((conv=>whnf);first|(intro hq;(try simp only[vw]at hq);try first|exact absurd hq (by decide)|exfalso;omega)|apply aI|with_reducible exact vM rfl|exact⟨⟩|apply nM|apply fM)
  all_goals((try apply vM);(try simp only[vq]at*);try omega)
  all_goals first|omega|exact Sup.of rfl|(exfalso;exact hq h1)|skip
 rw[if_neg (by simpa using h2)]
 refine av (md:=1) (rf:=[]) mixed au tK Tryz.func80 (by rfl) (by rfl) (by rfl) ?_
 repeat'((conv=>whnf);first|(intro hq;(try simp only[vw]at hq);try first|exact absurd hq (by decide)|exfalso;omega)|apply aI|with_reducible exact vM rfl|exact⟨⟩|apply nM|apply fM)
 all_goals((try apply vM);(try simp only[vq]at*);try omega)
 all_goals first|omega|exact h|exact Sup.of rfl|(exfalso;exact hq h1)|skip
def jB (ls:List (List Int)):Bool:=ls.all fun l=>decide (l.length=(ls.getD 0 []).length)
end Go.Eng.YtcechbdgokjmgaaGreatDoor
namespace Go.Eng.YtcechbdgokjmgaaGreatDoor
set_option linter.unusedSimpArgs false
set_option linter.unusedVariables false
structure LeS (t s:St):Prop where
 len:t.cs.length=s.cs.length
 cd:∀i,i<s.cs.length→∀x∈t.cd i,x∈s.cd i
 dc:∀i,i<s.cs.length→s.dc i=true→t.dc i=true
def NeS (t:St):Prop:=∀i,i<t.cs.length→1≤(t.cd i).length
def vB (c:Int) (ls:List (List Int)) (sum:Int) (n:Nat) (t:St):Prop:=∀g y x k,jA c ls g y x k→g≤n→okJ g t sum (ls.getD k.toNat []) y x=false
structure TS (c:Int) (ls:List (List Int)) (sum:Int) (t s:St):Prop where
 bt:aR c ls sum t
 it:StI t
 ne:NeS t
 bs:aR c ls sum s
 le:LeS t s
theorem TS.at {c:Int} {ls:List (List Int)} {sum:Int} {t s:St} (h:TS c ls sum t s) {z:Int} (hz:0≤z∧z<c):z.toNat<t.cs.length∧z.toNat<s.cs.length:=by
 have:=h.bt.cl;have:=h.bs.cl;omega
theorem TS.hd {c:Int} {ls:List (List Int)} {sum:Int} {t s:St} (h:TS c ls sum t s) {z:Int} (hz:0≤z∧z<c):hd0 (t.cd z.toNat)∈t.cd z.toNat∧ls0 (t.cd z.toNat)∈t.cd z.toNat∧hd0 (s.cd z.toNat)≤hd0 (t.cd z.toNat)∧ls0 (t.cd z.toNat)≤ls0 (s.cd z.toNat):=by
 obtain⟨h1,h2⟩:=h.at hz;have h3:=h.ne _ h1;have h4:=iT h3;have h5:=lZ h3;exact⟨h4,h5,Bo (h.bs.asc _ h2).1.pw _ (h.le.cd _ h2 _ h4),qI (h.bs.asc _ h2).1.pw _ (h.le.cd _ h2 _ h5)⟩
theorem TS.dec {c:Int} {ls:List (List Int)} {sum:Int} {t s:St} (h:TS c ls sum t s) {z:Int} (hz:0≤z∧z<c) (hd:s.dc z.toNat=true):t.dc z.toNat=true∧t.cd z.toNat=s.cd z.toNat:=by
 obtain⟨h1,h2⟩:=h.at hz;have h3:=h.le.dc _ h2 hd;refine⟨h3,?_⟩;have h4:=(h.bs.num hz hd).2.2;have h5:=(h.bt.num hz h3).2.2;have h6:=h.le.cd _ h2 _ (h.hd hz).1;rw[h4,akx]at h6;rw[h5,h4,h6]
theorem TN {c:Int} {ls:List (List Int)} {sum:Int} {t:St} (h:aR c ls sum t) {z:Int} (hz:0≤z∧z<c) (hd:t.dc z.toNat=true):ls0 (t.cd z.toNat)=hd0 (t.cd z.toNat):=by
 have:=(h.num hz hd).2.2;rw[this];rfl
theorem D8 {s t:St} {sum:Int} {l:List Int} {but but':Int} {g g':Int→Int}
 (h:∀z∈l,(if s.dc z.toNat then hd0 (s.cd z.toNat)else 0)+(if !(s.dc z.toNat)&&decide (z≠but)then g z else 0)≤(if t.dc z.toNat then hd0 (t.cd z.toNat)else 0)+(if !(t.dc z.toNat)&&decide (z≠but')then g' z else 0)):
 rst t sum l-sF g' (opn t l but')≤rst s sum l-sF g (opn s l but):=by
 have:=yA h;rw[lD,lD]at this;rw[oK,oK,lF,lF];omega
theorem Ea {s t:St} {sum:Int} {l:List Int} {but but':Int} {g g':Int→Int}
 (h:∀z∈l,(if t.dc z.toNat then hd0 (t.cd z.toNat)else 0)+(if !(t.dc z.toNat)&&decide (z≠but')then g' z else 0)≤(if s.dc z.toNat then hd0 (s.cd z.toNat)else 0)+(if !(s.dc z.toNat)&&decide (z≠but)then g z else 0)):
 rst s sum l-sF g (opn s l but)≤rst t sum l-sF g' (opn t l but'):=by
 have:=yA h;rw[lD,lD]at this;rw[oK,oK,lF,lF];omega
theorem tL {s t:St} {sum:Int} {l:List Int} {but but':Int} {g g':Int→Int}
 (h:∀z∈l,(if s.dc z.toNat then hd0 (s.cd z.toNat)else 0)+(if !(s.dc z.toNat)&&decide (z≠but)then g z else 0)=(if t.dc z.toNat then hd0 (t.cd z.toNat)else 0)+(if !(t.dc z.toNat)&&decide (z≠but')then g' z else 0)):
 rst s sum l-sF g (opn s l but)=rst t sum l-sF g' (opn t l but'):=by
 have h1:=D8 (sum:=sum) fun z hz=>alo (h z hz);have h2:=Ea (sum:=sum) fun z hz=>alo (h z hz).symm;omega
theorem TS.opn {c:Int} {ls:List (List Int)} {sum:Int} {t s:St} (h:TS c ls sum t s) {l:List Int} (hl:∀z∈l,0≤z∧z<c) {y z:Int} (hz:z∈opn t l y):z∈opn s l y:=by
 obtain⟨h1,h2,h3⟩:=aV.1 hz;refine aV.2 ⟨h1,?_,h3⟩;cases hd:s.dc z.toNat with
 |false=>rfl
 |true=>rw[(h.dec (hl z h1) hd).1]at h2;cases h2
theorem TS.opn_len {c:Int} {ls:List (List Int)} {sum:Int} {t s:St} (h:TS c ls sum t s) {l:List Int} (hl:∀z∈l,0≤z∧z<c) (y:Int):(Eng.YtcechbdgokjmgaaGreatDoor.opn t l y).length≤(Eng.YtcechbdgokjmgaaGreatDoor.opn s l y).length:=by
 unfold Eng.YtcechbdgokjmgaaGreatDoor.opn;rw[←alp,←alp];refine alq fun z hz hp=>?_;have:z∈Eng.YtcechbdgokjmgaaGreatDoor.opn t l y:=by unfold Eng.YtcechbdgokjmgaaGreatDoor.opn;exact aj2.2 ⟨hz,hp⟩
 have:=h.opn hl this;unfold Eng.YtcechbdgokjmgaaGreatDoor.opn at this;exact(aj2.1 this).2
def mrg (t:St) (h:Int→Int) (z:Int):Int:=if t.dc z.toNat then hd0 (t.cd z.toNat)else h z
theorem TS.ch {c:Int} {ls:List (List Int)} {sum:Int} {t s:St} (h:TS c ls sum t s) {l:List Int} (hl:∀z∈l,0≤z∧z<c) {y x r:Int} (hy:0≤y∧y<c) (hx:x∈t.cd y.toNat)
 {H:Int→Int} (hH:∀z∈l,z≠y→t.dc z.toNat=false→H z∈t.cd z.toNat∧H z≠x) (hd:∀z∈l,∀w∈l,z≠y→w≠y→t.dc z.toNat=false→t.dc w.toNat=false→z≠w→H z≠H w) (hr:sF (mrg t H) (Eng.YtcechbdgokjmgaaGreatDoor.opn s l y)=r):
 ChF s (Eng.YtcechbdgokjmgaaGreatDoor.opn s l y) [x] r (mrg t H):=by
 have inm:∀z∈Eng.YtcechbdgokjmgaaGreatDoor.opn s l y,mrg t H z∈t.cd z.toNat:=fun z hz=>by
  obtain⟨h1,h2,h3⟩:=aV.1 hz;unfold mrg;split
  ·exact(h.hd (hl z h1)).1
  ·rename_i hd
   exact(hH z h1 h3 (by simpa using hd)).1
 have key:∀(z w:Int),0≤z∧z<c→0≤w∧w<c→z≠w→t.dc z.toNat=true→∀v∈t.cd w.toNat,hd0 (t.cd z.toNat)≠v:=fun z w hz hw hne hd v hv e=>by
  have:=h.it z.toNat w.toNat (h.at hz).1 (h.at hw).1 (by omega) hd
  rw[e]at this;exact this hv
 refine⟨fun z hz=>?_,fun z hz w hw hne=>?_,hr⟩
 ·obtain⟨h1,h2,h3⟩:=aV.1 hz
  refine⟨h.le.cd _ (h.at (hl z h1)).2 _ (inm z hz),fun hm=>?_⟩;rw[akx]at hm;unfold mrg at hm;split at hm
  ·rename_i hd1
   exact key z y (hl z h1) hy h3 hd1 x hx hm
  ·rename_i hd1
   exact(hH z h1 h3 (by simpa using hd1)).2 hm
 ·obtain⟨h1,h2,h3⟩:=aV.1 hz
  obtain⟨w1,w2,w3⟩:=aV.1 hw;cases ez:t.dc z.toNat with
  |true=>
   have:mrg t H z=hd0 (t.cd z.toNat):=by unfold mrg;rw[if_pos ez]
   rw[this];exact key z w (hl z h1) (hl w w1) hne ez _ (inm w hw)
  |false=>
   cases ew:t.dc w.toNat with
   |true=>
    have:mrg t H w=hd0 (t.cd w.toNat):=by unfold mrg;rw[if_pos ew]
    rw[this];exact fun e=>key w z (hl w w1) (hl z h1) (Ne.symm hne) ew _ (inm z hz) e.symm
   |false=>
    have e1:mrg t H z=H z:=by unfold mrg;rw[ez];rfl
    have e2:mrg t H w=H w:=by unfold mrg;rw[ew];rfl
    rw[e1,e2];exact hd z h1 w w1 h3 w3 ez ew hne
theorem Jt {c:Int} {ls:List (List Int)} {sum:Int} {t s:St} (h:TS c ls sum t s) {g:Nat} {y x k:Int} (hL:jA c ls g y x k) (hj:jst g s sum (ls.getD k.toNat []) y x=true) (hd:t.dc y.toNat=false) (hx:x∈t.cd y.toNat):
 jst g t sum (ls.getD k.toNat []) y x=true:=by
 have hg:=hL.gg;obtain⟨hyt,hys⟩:=h.at hL.yy;have hds:s.dc y.toNat=false:=by
  cases e:s.dc y.toNat with
  |false=>rfl
  |true=>rw[h.le.dc _ hys e]at hd;cases hd
 obtain rfl|rfl|rfl|rfl|rfl:g=1∨g=2∨g=3∨g=4∨g=5:=by omega
 ·obtain⟨hk,hm⟩:=hL.kk rfl
  have hl:=(h.bs.ln k.toNat (by omega)).rng
  simp only[jst,uS,aia,decide_eq_true_eq]at hj⊢;have h1:=h.opn_len hl y;have hle:(opn t (ls.getD k.toNat []) y).length=0:=by omega
  have h2:rst s sum (ls.getD k.toNat [])-sF (fun _=>0) (opn s (ls.getD k.toNat []) y)=rst t sum (ls.getD k.toNat [])-sF (fun _=>0) (opn t (ls.getD k.toNat []) y):=tL fun z hz=>by
   by_cases e:z=y
   ·subst e;rw[hd,hds];simp
   ·have:s.dc z.toNat=true:=by
     cases e1:s.dc z.toNat with
     |true=>rfl
     |false=>
      have:z∈opn s (ls.getD k.toNat []) y:=aV.2 ⟨hz,e1,e⟩;rw[alc hj.1]at this;simp at this
    obtain⟨t1,t2⟩:=h.dec (hl z hz) this;rw[this,t1,t2]
  rw[qg,qg]at h2;exact⟨hle,by omega⟩
 ·simp only[jst,uT,decide_eq_true_eq]at hj⊢
  obtain⟨z,hz⟩:=alb.1 hj;have hp:=(h.bt.asc _ hyt).1.pw;have hall:∀v∈t.cd y.toNat,v=z:=fun v hv=>by
   have:=h.le.cd _ hys v hv;rw[hz]at this;exact akx.1 this
  obtain⟨q,hq⟩:∃q,t.cd y.toNat=q:=⟨_,rfl⟩;rw[hq]at hp hall hx⊢;cases q with
  |nil=>simp at hx
  |cons a r=>
   cases r with
   |nil=>rfl
   |cons b r=>
    have h1:=hall a (by simp)
    have h2:=hall b (by simp)
    have h3:=(ajh.1 hp).1 b (by simp)
    omega
 ·simp only[jst,oP,ajp,ajF,ajm,decide_eq_true_eq,akU,decide_eq_false_iff_not]at hj⊢
  intro i hi;rw[h.le.len]at hi;rcases hj i hi with h1|h1
  ·exact .inl h1
  ·exact .inr fun hm=>h1 (h.le.cd i hi x hm)
 ·obtain⟨hk,hm⟩:=hL.kk rfl
  have hl:=(h.bs.ln k.toNat (by omega)).rng
  simp only[jst,oQ,ajm,ako,decide_eq_true_eq]at hj⊢;rcases hj with⟨z,hz,e⟩|hj
  ·exfalso
   have h1:=hl z (aV.1 hz).1;have h2:=h.le.cd _ (h.at h1).2 _ (h.hd h1).1;rw[e]at h2;simp at h2
  ·refine .inr ?_
   rw[tC,tF]at hj⊢;rcases hj with hj|hj
   ·left
    have:=D8 (s:=s) (t:=t) (sum:=sum) (l:=ls.getD k.toNat []) (but:=y) (but':=y) (g:=fun y=>hd0 (s.cd y.toNat)) (g':=fun y=>hd0 (t.cd y.toNat)) fun z hz=>by
     by_cases e:z=y
     ·subst e;rw[hd,hds];simp
     ·cases e1:s.dc z.toNat with
      |true=>obtain⟨t1,t2⟩:=h.dec (hl z hz) e1;rw[t1,t2];simp
      |false=>
       have h3:=(h.hd (hl z hz)).2.2.1;cases e2:t.dc z.toNat<;>simp[e]<;>exact h3
    omega
   ·right
    have:=Ea (s:=s) (t:=t) (sum:=sum) (l:=ls.getD k.toNat []) (but:=y) (but':=y) (g:=fun y=>ls0 (s.cd y.toNat)) (g':=fun y=>ls0 (t.cd y.toNat)) fun z hz=>by
     by_cases e:z=y
     ·subst e;rw[hd,hds];simp
     ·cases e1:s.dc z.toNat with
      |true=>obtain⟨t1,t2⟩:=h.dec (hl z hz) e1;rw[t1,t2];simp
      |false=>
       have h3:=(h.hd (hl z hz)).2.2.2;cases e2:t.dc z.toNat with
       |true=>have:=TN h.bt (hl z hz) e2;simp[e];omega
       |false=>simp[e];exact h3
    omega
 ·obtain⟨hk,hm⟩:=hL.kk rfl
  have hl:=(h.bs.ln k.toNat (by omega)).rng
  have hpw:=(h.bs.ln k.toNat (by omega)).pw
  simp only[jst,rZ,aia,decide_eq_true_eq,akU]at hj⊢;refine⟨by have:=h.opn_len hl y;omega,?_⟩
  cases hch:chs t (opn t (ls.getD k.toNat []) y) [x] (rst t sum (ls.getD k.toNat [])-x)with
  |false=>rfl
  |true=>
   exfalso
   obtain⟨H,h1,h2,h3⟩:=(nR t _ _ _ (qX hpw)).1 hch;have hs:=tL (s:=s) (t:=t) (sum:=sum) (l:=ls.getD k.toNat []) (but:=y) (but':=y) (g:=mrg t H) (g':=H) fun z hz=>by
    by_cases e:z=y
    ·subst e;rw[hd,hds];simp
    ·cases e1:s.dc z.toNat with
     |true=>obtain⟨t1,t2⟩:=h.dec (hl z hz) e1;rw[t1,t2];simp
     |false=>cases e2:t.dc z.toNat<;>simp[e,mrg,e2]
   have:=(nR s _ _ _ (qX hpw)).2 ⟨_,h.ch (y:=y) (x:=x) (r:=rst s sum (ls.getD k.toNat [])-x) hl hL.yy hx (H:=H)
    (fun z hz hne hdz=>⟨(h1 z (aV.2 ⟨hz,hdz,hne⟩)).1,fun e=>(h1 z (aV.2 ⟨hz,hdz,hne⟩)).2 (by rw[e];simp)⟩)
    (fun z hz w hw hz' hw' dz dw hne=>h2 z (aV.2 ⟨hz,dz,hz'⟩) w (aV.2 ⟨hw,dw,hw'⟩) hne) (by omega)⟩
   rw[this]at hj;exact absurd hj.2 (by simp)
theorem TP {c:Int} {ls:List (List Int)} {sum:Int} {t s:St} (h:TS c ls sum t s) {g:Nat} {y x k:Int} (hL:jA c ls g y x k) (h3:g≤3→t.dc y.toNat=true∧t.cd y.toNat=[x]) (h4:4≤g→x∉t.cd y.toNat):LeS t (apl g s y x):=by
 obtain⟨hyt,hys⟩:=h.at hL.yy;have hsd:y.toNat<s.ds.length:=by have:=h.bs.dl;have:=hL.yy;omega
 refine⟨by rw[nO.1];exact h.le.len,fun i hi v hv=>?_,fun i hi hdi=>?_⟩
 ·rw[nO.1]at hi
  have hm:=h.le.cd i hi v hv;rw[sU hys i hi];by_cases hg:g≤3
  ·obtain⟨e1,e2⟩:=h3 hg
   rw[if_pos hg];split
   ·rename_i e;subst e;rw[e2]at hv;exact hv
   ·rename_i e
    refine eD.2 ⟨hm,fun e3=>?_⟩;have:=h.it y.toNat i hyt (by rw[h.le.len];exact hi) (Ne.symm e) e1
    rw[e2]at this;exact this (by rw[e3]at hv;exact hv)
  ·rw[if_neg hg]
   split
   ·rename_i e;subst e
    exact eD.2 ⟨hm,fun e3=>h4 (by omega) (e3▸hv)⟩
   ·exact hm
 ·rw[nO.1]at hi
  rw[xq hsd]at hdi;by_cases hg:g≤3∧i=y.toNat
  ·rw[hg.2];exact(h3 hg.1).1
  ·rw[if_neg hg]at hdi
   exact h.le.dc i hi hdi
theorem agf {c:Int} {ls:List (List Int)} {sum:Int} {t s:St} {f:List Int} (hB:aR c ls sum t) (hI:StI t) (hA:Alw t f) (hBs:aR c ls sum s) (hle:LeS t s):TS c ls sum t s:=
 ⟨hB,hI,fun i hi=>alm (hA.mem i (by rw[←hA.len];exact hi)),hBs,hle⟩
theorem aff {c:Int} {ls:List (List Int)} {sum:Int} {t s:St} {f:List Int} (hf:kY c ls sum f) (hA:Alw t f) (h:TS c ls sum t s) {n:Nat} (hS:vB c ls sum n t) {g:Nat} (hgn:g≤n) {y x k:Int} (hL:jA c ls g y x k) (hj:okJ g s sum (ls.getD k.toNat []) y x=true):LeS t (apl g s y x):=by
 obtain⟨hds,hxs,hjs⟩:=dS.1 hj;have hAs:Alw s f:=⟨h.le.len.symm.trans hA.len,fun i hi=>h.le.cd i (by rw[←h.le.len,hA.len];exact hi) _ (hA.mem i hi)⟩
 have hs:=sound h.bs hAs hf hL hj;obtain⟨hyt,hys⟩:=h.at hL.yy;have hyf:y.toNat<f.length:=by rw[←hA.len];exact hyt
 have hno:=hS g y x k hL hgn;have hfm:=hA.mem _ hyf;have hopen:t.dc y.toNat=false→x∉t.cd y.toNat:=fun hd hx=>by
  have:=dS.2 ⟨hd,hx,Jt h hL hjs hd hx⟩;rw[hno]at this;cases this
 refine TP h hL (fun hg=>?_) fun hg hx=>?_
 ·have hfy:=hs.1 hg
  have hd:t.dc y.toNat=true:=by
   cases e:t.dc y.toNat with
   |true=>rfl
   |false=>exact absurd (hfy▸hfm) (hopen e)
  exact⟨hd,by rw[hA.dec h.bt hyf hd,hfy]⟩
 ·have hfy:f.getD y.toNat 0≠x:=fun e=>by have:=hs.2 e;omega
  cases e:t.dc y.toNat with
  |false=>exact hopen e hx
  |true=>
   rw[hA.dec h.bt hyf e,akx]at hx;exact hfy hx.symm
theorem oL {s:St} {l:List Int} {y:Int} (hp:l.Pairwise (·< ·)) (h0:∀z∈l,0≤z) (hy:y∈l) (hd:s.dc y.toNat=false) (g:Int→Int):sF g (opn s l (-1))=g y+sF g (opn s l y):=by
 rw[lF,lF];have h1:sF (fun x=>if !(s.dc x.toNat)&&decide (x≠ -1)then g x else 0) l=sF (fun x=>(if x=y then g y else 0)+(if !(s.dc x.toNat)&&decide (x≠y)then g x else 0)) l:=dF fun x hx=>by
  have h2:x≠ -1:=by have:=h0 x hx;omega
  by_cases e:x=y
  ·subst e;simp[hd,h2]
  ·simp[e,h2]
 rw[h1,lD,Jq hp hy]
structure Unb (c:Int) (ls:List (List Int)) (sum:Int) (t:St):Prop where
 num:∀x:Int,1≤x→x≤c→∃i,i<t.cs.length∧x∈t.cd i
 ne:NeS t
 line:∀k,k<ls.length→opn t (ls.getD k []) (-1)=[]→rst t sum (ls.getD k [])=0
theorem TQ {c:Int} {ls:List (List Int)} {sum:Int} {t:St} (h:brk c ls sum t=false):Unb c ls sum t:=by
 unfold brk at h;simp only[ald,ale,ajp,ajF,ako,akp,decide_eq_true_eq,aia]at h;obtain⟨⟨h1,h2⟩,h3⟩:=h;refine⟨fun x hx hxc=>?_,fun i hi=>?_,fun k hk ho=>?_⟩
 ·obtain⟨l,hl,hm⟩:=h1 (x-1).toNat (by omega)
  obtain⟨j,hj,rfl⟩:=ah3 hl;refine⟨j,hj,?_⟩;have e:t.cd j=t.cs[j]:=by unfold St.cd;rw[ahZ,ah4 hj];rfl
  rw[e];have e2:(((x-1).toNat:Nat):Int)+1=x:=by omega
  rw[e2]at hm;exact hm
 ·have:=h2 (t.cd i) (cu hi)
  rcases Nat.eq_zero_or_pos (t.cd i).length with e|e
  ·exact absurd (alc e) this
  ·exact e
 ·have:=h3 (ls.getD k []) (cu hk)
  by_cases e:rst t sum (ls.getD k [])=0
  ·exact e
  ·exact absurd ⟨by rw[ho];rfl,e⟩ this
theorem ME {c:Int} {ls:List (List Int)} {sum:Int} {t:St} (h:Unb c ls sum t):brk c ls sum t=false:=by
 unfold brk;simp only[ald,ale,ajp,ajF,ako,akp,decide_eq_true_eq,aia];refine⟨⟨fun i hi=>?_,fun l hl e=>?_⟩,fun l hl=>?_⟩
 ·obtain⟨j,hj,hm⟩:=h.num ((i:Int)+1) (by omega) (by omega)
  exact⟨t.cd j,cu hj,hm⟩
 ·obtain⟨j,hj,rfl⟩:=ah3 hl
  have:=h.ne j hj;unfold St.cd at this;rw[ahZ,ah4 hj]at this;simp only[ah5]at this;rw[e]at this;simp at this
 ·rintro⟨h1,h2⟩
  obtain⟨k,hk,rfl⟩:=ah3 hl;have e:ls[k]=ls.getD k []:=by rw[ahZ,ah4 hk];rfl
  rw[e]at h1 h2;exact h2 (h.line k hk (alc h1))
theorem WY {c:Int} {ls:List (List Int)} {sum:Int} {t s:St} (h:TS c ls sum t s) (hu:brk c ls sum t=false):brk c ls sum s=false:=by
 have hu:=TQ hu;refine ME ⟨fun x h1 h2=>?_,fun i hi=>?_,fun k hk ho=>?_⟩
 ·obtain⟨i,hi,hm⟩:=hu.num x h1 h2
  rw[h.le.len]at hi;exact⟨i,hi,h.le.cd i hi x hm⟩
 ·have:=iT (h.ne i (by rw[h.le.len];exact hi))
  exact alm (h.le.cd i hi _ this)
 ·have hl:=(h.bs.ln k hk).rng
  have hot:opn t (ls.getD k []) (-1)=[]:=by
   refine alr.2 fun z hz=>?_;have:=h.opn hl hz;rw[ho]at this;simp at this
  have h1:=hu.line k hk hot;have:=tL (s:=s) (t:=t) (sum:=sum) (l:=ls.getD k []) (but:= -1) (but':= -1) (g:=fun _=>0) (g':=fun _=>0) fun z hz=>by
   have h0:s.dc z.toNat=true:=by
    cases e:s.dc z.toNat with
    |true=>rfl
    |false=>
     have:z∈opn s (ls.getD k []) (-1):=aV.2 ⟨hz,e,by have:=hl z hz;omega⟩
     rw[ho]at this;simp at this
   obtain⟨t1,t2⟩:=h.dec (hl z hz) h0;rw[h0,t1,t2]
  rw[qg,qg]at this;omega
theorem ab9 {c:Int} {ls:List (List Int)} {sum:Int} {t s:St} (h:TS c ls sum t s) (hu:Unb c ls sum t) (hS:vB c ls sum 5 t) {g:Nat} {y x k:Int} (hL:jA c ls g y x k) (hj:okJ g s sum (ls.getD k.toNat []) y x=true):LeS t (apl g s y x):=by
 obtain⟨hds,hxs,hjs⟩:=dS.1 hj;obtain⟨hyt,hys⟩:=h.at hL.yy;have hg:=hL.gg;have hno:=hS g y x k hL hg.2;have hopen:x∈t.cd y.toNat→t.dc y.toNat=true:=fun hx=>by
  cases hd:t.dc y.toNat with
  |true=>rfl
  |false=>
   have:=dS.2 ⟨hd,hx,Jt h hL hjs hd hx⟩;rw[hno]at this;cases this
 have hone:∀v,v∈t.cd y.toNat→t.dc y.toNat=true→t.cd y.toNat=[v]:=fun v hv hd=>by
  have:=(h.bt.num hL.yy hd).2.2;rw[this]at hv⊢;rw[akx]at hv;rw[hv]
 have key4:4≤g→x∈t.cd y.toNat→False:=fun h4 hx=>by
  have hdy:=hopen hx;have hcy:=hone x hx hdy;have hlg:lnG g=true:=by rcases(show g=4∨g=5 by omega)with rfl|rfl<;>rfl
  obtain⟨hk,hm⟩:=hL.kk hlg;have hLn:=h.bs.ln k.toNat (by omega)
  have hl:=hLn.rng;have h0:∀z∈ls.getD k.toNat [],0≤z:=fun z hz=>(hl z hz).1;have hsp:=fun g'=>oL (s:=s) hLn.pw h0 hm hds g';have leg:∀g' z,(g'=4∨g'=5)→z∈opn t (ls.getD k.toNat []) (-1)→∀w∈t.cd z.toNat,jA c ls g' z w k:=fun g' z hg' hz w hw=>by
   have h1:=aV.1 hz;have h2:=hl z h1.1;have h3:=h.bt.asc z.toNat (h.at h2).1;have h4:=h3.1.rng w hw;have h5:=h3.2 w hw;exact⟨by omega,h2,by omega,fun _=>⟨hk,h1.1⟩⟩
  obtain rfl|rfl:g=4∨g=5:=by omega
  ·simp only[jst,oQ,ajm,ako,decide_eq_true_eq]at hjs
   rcases hjs with⟨z,hz,e⟩|hjs|hjs
   ·have h1:=hl z (aV.1 hz).1
    have h2:=h.le.cd _ (h.at h1).2 _ (h.hd h1).1;rw[e]at h2;simp at h2
   ·rw[tC]at hjs
    have h1:=D8 (s:=s) (t:=t) (sum:=sum) (l:=ls.getD k.toNat []) (but:= -1) (but':= -1) (g:=fun z=>if z=y then x else hd0 (s.cd z.toNat)) (g':=fun z=>hd0 (t.cd z.toNat)) fun z hz=>by
     have hz1:z≠ -1:=by have:=h0 z hz;omega
     by_cases e:z=y
     ·subst e;rw[hdy,hds,hcy];simp[hd0,hz1]
     ·cases e1:s.dc z.toNat with
      |true=>obtain⟨t1,t2⟩:=h.dec (hl z hz) e1;rw[t1,t2];simp
      |false=>
       have h3:=(h.hd (hl z hz)).2.2.1;cases e2:t.dc z.toNat<;>simp[e,hz1]<;>exact h3
    rw[hsp]at h1;have h2:sF (fun z=>if z=y then x else hd0 (s.cd z.toNat)) (opn s (ls.getD k.toNat []) y)=sF (fun z=>hd0 (s.cd z.toNat)) (opn s (ls.getD k.toNat []) y):=dF fun z hz=>if_neg (aV.1 hz).2.2;rw[h2,if_pos rfl]at h1;cases ho:opn t (ls.getD k.toNat []) (-1)with
    |nil=>
     have h3:=hu.line k.toNat (by omega) ho
     rw[ho]at h1;simp only[sF]at h1;omega
    |cons z r=>
     have hz:z∈opn t (ls.getD k.toNat []) (-1):=by rw[ho];simp
     have hz1:=aV.1 hz;have hw:=(h.hd (hl z hz1.1)).1;have h3:=hS 4 z _ k (leg 4 z (.inl rfl) hz _ hw) (by omega)
     have h4:=oL (s:=t) hLn.pw h0 hz1.1 hz1.2.1 fun z=>hd0 (t.cd z.toNat);have:okJ 4 t sum (ls.getD k.toNat []) z (hd0 (t.cd z.toNat))=true:=dS.2 ⟨hz1.2.1,hw,by
      simp only[jst,oQ,ajm,ako,decide_eq_true_eq];exact .inr (.inl (by rw[tC];omega))⟩
     rw[h3]at this;cases this
   ·rw[tF]at hjs
    have h1:=Ea (s:=s) (t:=t) (sum:=sum) (l:=ls.getD k.toNat []) (but:= -1) (but':= -1) (g:=fun z=>if z=y then x else ls0 (s.cd z.toNat)) (g':=fun z=>ls0 (t.cd z.toNat)) fun z hz=>by
     have hz1:z≠ -1:=by have:=h0 z hz;omega
     by_cases e:z=y
     ·subst e;rw[hdy,hds,hcy];simp[hd0,hz1]
     ·cases e1:s.dc z.toNat with
      |true=>obtain⟨t1,t2⟩:=h.dec (hl z hz) e1;rw[t1,t2];simp
      |false=>
       have h3:=(h.hd (hl z hz)).2.2.2;cases e2:t.dc z.toNat with
       |true=>have:=TN h.bt (hl z hz) e2;simp[e,hz1];omega
       |false=>simp[e,hz1];exact h3
    rw[hsp]at h1;have h2:sF (fun z=>if z=y then x else ls0 (s.cd z.toNat)) (opn s (ls.getD k.toNat []) y)=sF (fun z=>ls0 (s.cd z.toNat)) (opn s (ls.getD k.toNat []) y):=dF fun z hz=>if_neg (aV.1 hz).2.2;rw[h2,if_pos rfl]at h1;cases ho:opn t (ls.getD k.toNat []) (-1)with
    |nil=>
     have h3:=hu.line k.toNat (by omega) ho
     rw[ho]at h1;simp only[sF]at h1;omega
    |cons z r=>
     have hz:z∈opn t (ls.getD k.toNat []) (-1):=by rw[ho];simp
     have hz1:=aV.1 hz;have hw:=(h.hd (hl z hz1.1)).2.1;have h3:=hS 4 z _ k (leg 4 z (.inl rfl) hz _ hw) (by omega)
     have h4:=oL (s:=t) hLn.pw h0 hz1.1 hz1.2.1 fun z=>ls0 (t.cd z.toNat);have:okJ 4 t sum (ls.getD k.toNat []) z (ls0 (t.cd z.toNat))=true:=dS.2 ⟨hz1.2.1,hw,by
      simp only[jst,oQ,ajm,ako,decide_eq_true_eq];exact .inr (.inr (by rw[tF];omega))⟩
     rw[h3]at this;cases this
  ·simp only[jst,rZ,aia,decide_eq_true_eq,akU]at hjs
   have no:∀H:Int→Int,(∀z∈ls.getD k.toNat [],t.dc z.toNat=false→H z∈t.cd z.toNat)→(∀z∈ls.getD k.toNat [],∀w∈ls.getD k.toNat [],t.dc z.toNat=false→t.dc w.toNat=false→z≠w→H z≠H w)→sF H (opn t (ls.getD k.toNat []) (-1))=rst t sum (ls.getD k.toNat [])→False:=fun H h1 h2 h3=>by
    have hs:=tL (s:=s) (t:=t) (sum:=sum) (l:=ls.getD k.toNat []) (but:= -1) (but':= -1) (g:=mrg t H) (g':=H) fun z hz=>by
     have hz1:z≠ -1:=by have:=h0 z hz;omega
     cases e1:s.dc z.toNat with
     |true=>obtain⟨t1,t2⟩:=h.dec (hl z hz) e1;rw[t1,t2];simp
     |false=>cases e2:t.dc z.toNat<;>simp[mrg,e2,hz1]
    rw[hsp]at hs;have hmy:mrg t H y=x:=by unfold mrg;rw[if_pos hdy,hcy];rfl
    have hx2:∀z∈ls.getD k.toNat [],z≠y→x∉t.cd z.toNat:=fun z hz hne=>by
     have:=h.it y.toNat z.toNat hyt (h.at (hl z hz)).1 (by have:=hl z hz;have:=hL.yy;omega) hdy
     rw[hcy]at this;exact this
    have:=(nR s _ _ _ (qX hLn.pw)).2 ⟨_,h.ch (y:=y) (x:=x) (r:=rst s sum (ls.getD k.toNat [])-x) hl hL.yy hx (H:=H)
     (fun z hz hne hdz=>⟨h1 z hz hdz,fun e=>hx2 z hz hne (e▸h1 z hz hdz)⟩)
     (fun z hz w hw hz' hw' dz dw hne=>h2 z hz w hw dz dw hne) (by omega)⟩
    rw[this]at hjs;exact absurd hjs.2 (by simp)
   cases ho:opn t (ls.getD k.toNat []) (-1)with
   |nil=>
    have h3:=hu.line k.toNat (by omega) ho
    have hnone:∀z∈ls.getD k.toNat [],t.dc z.toNat=false→False:=fun z hz hd=>by
     have:z∈opn t (ls.getD k.toNat []) (-1):=aV.2 ⟨hz,hd,by have:=h0 z hz;omega⟩
     rw[ho]at this;simp at this
    exact no (fun _=>0) (fun z hz hd=>(hnone z hz hd).elim) (fun z hz w hw hd=>(hnone z hz hd).elim) (by rw[ho,h3];rfl)
   |cons z r=>
    have hz:z∈opn t (ls.getD k.toNat []) (-1):=by rw[ho];simp
    have hz1:=aV.1 hz;have hw:=(h.hd (hl z hz1.1)).1;have h3:=hS 5 z _ k (leg 5 z (.inr rfl) hz _ hw) (by omega)
    have h4:=fun H=>oL (s:=t) hLn.pw h0 hz1.1 hz1.2.1 H;have hlen:(opn t (ls.getD k.toNat []) z).length<4:=by
     have:(opn t (ls.getD k.toNat []) z).length≤(opn s (ls.getD k.toNat []) y).length:=by
      unfold opn;rw[←alp,←alp];refine alq fun v hv hp=>?_;have h5:v∈opn t (ls.getD k.toNat []) z:=by unfold opn;exact aj2.2 ⟨hv,hp⟩
      obtain⟨h6,h7,h8⟩:=aV.1 h5;have h9:v≠y:=fun e=>by rw[e,hdy]at h7;cases h7
      have h10:=(aV.1 (h.opn hl (y:=y) (aV.2 ⟨h6,h7,h9⟩))).2.1;rw[h10];simp[h9]
     omega
    have hch:chs t (opn t (ls.getD k.toNat []) z) [hd0 (t.cd z.toNat)] (rst t sum (ls.getD k.toNat [])-hd0 (t.cd z.toNat))=true:=by
     cases e:chs t (opn t (ls.getD k.toNat []) z) [hd0 (t.cd z.toNat)] (rst t sum (ls.getD k.toNat [])-hd0 (t.cd z.toNat))with
     |true=>rfl
     |false=>
      have:okJ 5 t sum (ls.getD k.toNat []) z (hd0 (t.cd z.toNat))=true:=dS.2 ⟨hz1.2.1,hw,by
       simp only[jst,rZ,aia,decide_eq_true_eq,akU];exact⟨hlen,e⟩⟩
      rw[h3]at this;cases this
    obtain⟨H,c1,c2,c3⟩:=(nR t _ _ _ (qX hLn.pw)).1 hch;refine no (fun v=>if v=z then hd0 (t.cd z.toNat)else H v) (fun v hv hd=>?_) (fun v hv w hw' dv dw hne=>?_) ?_
    ·split
     ·rename_i e;subst e;exact hw
     ·rename_i e;exact(c1 v (aV.2 ⟨hv,hd,e⟩)).1
    ·split
     ·rename_i e;subst e
      rw[if_neg (Ne.symm hne)];exact fun e1=>(c1 w (aV.2 ⟨hw',dw,Ne.symm hne⟩)).2 (by rw[←e1];simp)
     ·rename_i e
      split
      ·exact fun e1=>(c1 v (aV.2 ⟨hv,dv,e⟩)).2 (by rw[e1];simp)
      ·rename_i e2
       exact c2 v (aV.2 ⟨hv,dv,e⟩) w (aV.2 ⟨hw',dw,e2⟩) hne
    ·rw[h4,if_pos rfl]
     have:sF (fun v=>if v=z then hd0 (t.cd z.toNat)else H v) (opn t (ls.getD k.toNat []) z)=sF H (opn t (ls.getD k.toNat []) z):=dF fun v hv=>if_neg (aV.1 hv).2.2;rw[this,c3];omega
 refine TP h hL (fun h3=>?_) fun h4 hx=>key4 h4 hx;obtain rfl|rfl|rfl:g=1∨g=2∨g=3:=by omega
 ·obtain⟨hk,hm⟩:=hL.kk rfl
  have hLn:=h.bs.ln k.toNat (by omega)
  have hl:=hLn.rng;have h0:∀z∈ls.getD k.toNat [],0≤z:=fun z hz=>(hl z hz).1;simp only[jst,uS,aia,decide_eq_true_eq]at hjs;have hemp:=alc hjs.1;have hdec:∀z∈ls.getD k.toNat [],z≠y→s.dc z.toNat=true:=fun z hz hne=>by
   cases e:s.dc z.toNat with
   |true=>rfl
   |false=>
    have:z∈opn s (ls.getD k.toNat []) y:=aV.2 ⟨hz,e,hne⟩;rw[hemp]at this;simp at this
  have hs:=tL (s:=s) (t:=t) (sum:=sum) (l:=ls.getD k.toNat []) (but:= -1) (but':= -1) (g:=mrg t fun _=>0) (g':=fun _=>0) fun z hz=>by
   have hz1:z≠ -1:=by have:=h0 z hz;omega
   cases e1:s.dc z.toNat with
   |true=>obtain⟨t1,t2⟩:=h.dec (hl z hz) e1;rw[t1,t2];simp
   |false=>cases e2:t.dc z.toNat<;>simp[mrg,e2,hz1]
  rw[oL hLn.pw h0 hm hds,hemp,qg]at hs;simp only[sF]at hs;cases hd:t.dc y.toNat with
  |true=>
   have hmy:mrg t (fun _=>0) y=hd0 (t.cd y.toNat):=by unfold mrg;rw[if_pos hd]
   have ho:opn t (ls.getD k.toNat []) (-1)=[]:=alr.2 fun z hz=>by
    obtain⟨z1,z2,z3⟩:=aV.1 hz;by_cases e:z=y
    ·rw[e,hd]at z2;cases z2
    ·rw[(h.dec (hl z z1) (hdec z z1 e)).1]at z2;cases z2
   have h1:=hu.line k.toNat (by omega) ho
   have h2:=(h.bt.num hL.yy hd).2.2;exact⟨rfl,by rw[h2];congr 1;omega⟩
  |false=>
   exfalso
   have hmy:mrg t (fun _=>0) y=0:=by unfold mrg;rw[hd];rfl
   have hw:=(h.hd hL.yy).1;have hne:hd0 (t.cd y.toNat)≠x:=fun e=>by
    have:=hopen (e▸hw);rw[hd]at this;cases this
   have ho:opn t (ls.getD k.toNat []) y=[]:=alr.2 fun z hz=>by
    have:=h.opn hl hz;rw[hemp]at this;simp at this
   have hA:=h.bt.asc y.toNat hyt;have hr:=hA.1.rng _ hw;have hr2:=hA.2 _ hw;have h3:=hS 4 y (hd0 (t.cd y.toNat)) k ⟨by omega,hL.yy,by omega,fun _=>⟨hk,hm⟩⟩ (by omega)
   have:okJ 4 t sum (ls.getD k.toNat []) y (hd0 (t.cd y.toNat))=true:=dS.2 ⟨hd,hw,by
    simp only[jst,oQ,ajm,ako,decide_eq_true_eq];refine .inr ?_;rw[ho];simp only[qJ,qK,alk];omega⟩
   rw[h3]at this;cases this
 ·simp only[jst,uT,decide_eq_true_eq]at hjs
  obtain⟨z,hz⟩:=alb.1 hjs;have h1:=h.le.cd _ hys _ (h.hd hL.yy).1;rw[hz,akx]at h1 hxs;have h2:x∈t.cd y.toNat:=by rw[hxs,←h1];exact(h.hd hL.yy).1
  exact⟨hopen h2,hone x h2 (hopen h2)⟩
 ·simp only[jst,oP,ajp,ajF,ajm,decide_eq_true_eq,akU,decide_eq_false_iff_not]at hjs
  obtain⟨i,hi,hm⟩:=hu.num x hL.xx.1 hL.xx.2;rw[h.le.len]at hi;have h2:x∈t.cd y.toNat:=by
   rcases hjs i hi with h1|h1
   ·rw[←h1];exact hm
   ·exact absurd (h.le.cd i hi x hm) h1
  exact⟨hopen h2,hone x h2 (hopen h2)⟩
inductive Run (c:Int) (ls:List (List Int)) (sum:Int) (n:Nat):St→St→Prop
 |refl (s:St):Run c ls sum n s s
 |step {s t:St} {g:Nat} {y x k:Int}:jA c ls g y x k→g≤n→okJ g s sum (ls.getD k.toNat []) y x=true→Run c ls sum n (apl g s y x) t→Run c ls sum n s t
theorem Run.ok {c:Int} {ls:List (List Int)} {sum:Int} {n:Nat} {s t:St} (h:Run c ls sum n s t):aR c ls sum s→StI s→aR c ls sum t∧StI t:=by
 induction h with
 |refl s=>exact fun a b=>⟨a,b⟩
 |step hL _ hj _ ih=>
  intro hB hI;obtain⟨h4,h5,h6⟩:=dS.1 hj;obtain⟨h7,h8⟩:=lC hB hI hL.yy hL.xx h4 h5;exact ih h7 h8
theorem LeS.refl (s:St):LeS s s:=⟨rfl,fun _ _ _ h=>h,fun _ _ h=>h⟩
theorem LeS.trans {r t s:St} (h:LeS r t) (h':LeS t s):LeS r s:=⟨h.len.trans h'.len,fun i hi x hx=>h'.cd i hi x (h.cd i (by rw[h'.len];exact hi) x hx),fun i hi hd=>h.dc i (by rw[h'.len];exact hi) (h'.dc i hi hd)⟩
theorem afg {c:Int} {ls:List (List Int)} {sum:Int} {s:St} (hB:aR c ls sum s) {g:Nat} {y x k:Int} (hL:jA c ls g y x k) (hj:okJ g s sum (ls.getD k.toNat []) y x=true):LeS (apl g s y x) s:=by
 obtain⟨h4,h5,h6⟩:=dS.1 hj;have hy:=hL.yy;have hcl:=hB.cl;have hdl:=hB.dl;refine⟨nO.1,fun i hi v hv=>?_,fun i hi hd=>?_⟩
 ·rw[sU (by omega) i hi]at hv
  split at hv
  ·split at hv
   ·rename_i e;subst e;rw[akx.1 hv];exact h5
   ·exact(eD.1 hv).1
  ·split at hv
   ·rename_i e;subst e;exact(eD.1 hv).1
   ·exact hv
 ·rw[xq (by omega)]
  split
  ·rfl
  ·exact hd
theorem Run.le {c:Int} {ls:List (List Int)} {sum:Int} {n:Nat} {s t:St} (h:Run c ls sum n s t):aR c ls sum s→StI s→LeS t s:=by
 induction h with
 |refl s=>exact fun _ _=>.refl s
 |step hL _ hj _ ih=>
  intro hB hI;obtain⟨h4,h5,h6⟩:=dS.1 hj;obtain⟨h7,h8⟩:=lC hB hI hL.yy hL.xx h4 h5;exact(ih h7 h8).trans (afg hB hL hj)
theorem Run.one {c:Int} {ls:List (List Int)} {sum:Int} {n:Nat} {s t:St} {g:Nat} {y x k:Int} (h:Run c ls sum n s t) (hL:jA c ls g y x k) (hg:g≤n) (hj:okJ g t sum (ls.getD k.toNat []) y x=true):Run c ls sum n s (apl g t y x):=by
 induction h with
 |refl s=>exact .step hL hg hj (.refl _)
 |step a b d _ ih=>exact .step a b d (ih hj)
theorem WZ {c:Int} {ls:List (List Int)} {sum:Int} {t:St} (hBt:aR c ls sum t) (hIt:StI t) (hu:Unb c ls sum t) (hS:vB c ls sum 5 t) {n:Nat} (hn:n≤5) {s s':St} (h:Run c ls sum n s s'):aR c ls sum s→StI s→LeS t s→LeS t s':=by
 induction h with
 |refl s=>exact fun _ _ h=>h
 |step hL _ hj _ ih=>
  intro hB hI hle;obtain⟨h4,h5,h6⟩:=dS.1 hj;obtain⟨h7,h8⟩:=lC hB hI hL.yy hL.xx h4 h5;exact ih h7 h8 (ab9 ⟨hBt,hIt,hu.ne,hB,hle⟩ hu hS hL hj)
theorem acd {c:Int} {ls:List (List Int)} {sum:Int} {t:St} {f:List Int} (hBt:aR c ls sum t) (hIt:StI t) (hf:kY c ls sum f) (hA:Alw t f) {n:Nat} (hS:vB c ls sum n t) {s s':St} (h:Run c ls sum n s s'):aR c ls sum s→StI s→LeS t s→LeS t s':=by
 induction h with
 |refl s=>exact fun _ _ h=>h
 |step hL hg hj _ ih=>
  intro hB hI hle;obtain⟨h4,h5,h6⟩:=dS.1 hj;obtain⟨h7,h8⟩:=lC hB hI hL.yy hL.xx h4 h5;exact ih h7 h8 (aff hf hA (agf hBt hIt hA hB hle) hS hg hL hj)
theorem TR {c:Int} {ls:List (List Int)} {sum:Int} {t:St} (hB:aR c ls sum t) {n:Nat} (h:gV t sum ls n=none):vB c ls sum n t:=fun g y x k hL hg=>by
 cases e:okJ g t sum (ls.getD k.toNat []) y x with
 |false=>rfl
 |true=>
  exfalso
  have h1:=Sy.1 h g hL.gg.1 hg;have hcl:=hB.cl;have hy:=hL.yy;have:(⟨g,y,x,if lnG g then k else-1⟩:Dd)∈kV g t sum ls:=by
   refine qV.2 ⟨rfl,by simp only;omega,?_,?_⟩
   ·cases hl:lnG g with
    |true=>exact hL.kk hl
    |false=>rfl
   ·cases hl:lnG g with
    |true=>exact e
    |false=>
     have e1:=dS.1 e;refine dS.2 ⟨e1.1,e1.2.1,?_⟩;have hg5:=hL.gg;obtain rfl|rfl|rfl|rfl|rfl:g=1∨g=2∨g=3∨g=4∨g=5:=by omega
     all_goals first|(cases hl;done)|exact e1.2.2
  rw[h1]at this;simp at this
theorem ace {c:Int} {ls:List (List Int)} {sum:Int} {t:St} (hB:aR c ls sum t) (h:don t=true) (n:Nat):vB c ls sum n t:=fun g y x k hL hg=>by
 unfold don at h;simp only[akU,akp,als,ale]at h;have hdl:=hB.dl;have hy:=hL.yy;have:=h (t.dc y.toNat) (cu (by omega))
 cases e:okJ g t sum (ls.getD k.toNat []) y x with
 |false=>rfl
 |true=>have e1:=(dS.1 e).1;rw[e1]at this;simp at this
theorem tN {t:St} (hl:t.ds.length=t.cs.length):don t=true↔∀i,i<t.cs.length→t.dc i=true:=by
 unfold don;simp only[akU,akp,als,ale];constructor
 ·intro h i hi
  have:=h (t.dc i) (cu (by omega))
  cases e:t.dc i with
  |true=>rfl
  |false=>exact absurd e this
 ·intro h b hb
  obtain⟨i,hi,rfl⟩:=ah3 hb;have:=h i (by omega)
  unfold St.dc at this;rw[ahZ,ah4 hi]at this;rw[show t.ds[i]=true from this];simp
structure Ends (c:Int) (ls:List (List Int)) (sum:Int) (n:Nat) (s:St) (r:List Dd × St × Int):Prop where
 cases:(∃t,Run c ls sum n s t∧brk c ls sum t=true∧r.2.2=21)∨(Run c ls sum n s r.2.1∧brk c ls sum r.2.1=false∧((don r.2.1=true∧r.2.2=0)∨(don r.2.1=false∧gV r.2.1 sum ls n=none∧r.2.2=23)))
theorem TU {c:Int} {ls:List (List Int)} {sum:Int} {n:Nat} (hn:n≤5):∀(u:Nat) (s:St) (l:List Dd),aR c ls sum s→StI s→muS s<u→Ends c ls sum n s (jQ c ls sum n u s l):=by
 intro u;induction u with
 |zero=>intro s l _ _ h;omega
 |succ u ih=>
  intro s l hB hI hmu;unfold jQ;cases hb:brk c ls sum s with
  |true=>exact⟨.inl ⟨s,.refl s,hb,by simp⟩⟩
  |false=>
   simp only[aiF,if_false];cases hd:don s with
   |true=>exact⟨.inr ⟨by simpa using Run.refl s,by simpa using hb,.inl (by simpa using hd)⟩⟩
   |false=>
    simp only[aiF,if_false];cases hf:gV s sum ls n with
    |none=>exact⟨.inr ⟨.refl s,hb,.inr ⟨hd,hf,rfl⟩⟩⟩
    |some d=>
     simp only;obtain⟨h1,h2,h3⟩:=Mx hB hn hf;obtain⟨h4,h5,h6⟩:=dS.1 h2;obtain⟨h7,h8⟩:=lC hB hI (g:=d.g) h1.yy h1.xx h4 h5;have hcl:=hB.cl;have hdl:=hB.dl;have hy:=h1.yy;have hm:=SC (g:=d.g) (y:=d.y) (by omega) (by omega) h4 h5
     have:=(ih _ (l++[d]) h7 h8 (by omega)).cases
     refine⟨?_⟩;rcases this with⟨t,r1,r2⟩|⟨r1,r2⟩
     ·exact .inl ⟨t,.step h1 h3 h2 r1,r2⟩
     ·exact .inr ⟨.step h1 h3 h2 r1,r2⟩
theorem qY {c:Int} {ls:List (List Int)} {sum:Int} {gv:List Int} (h:bD c ls sum gv) {n:Nat} (hn:n≤5):Ends c ls sum n (bgn c gv) (sol c ls sum gv n):=by
 have hB:=jF h;exact TU hn 273 _ [] hB (jM h) (by have:=SE hB;omega)
def zV (s:St):List Int:=(ahX s.cs.length).map fun i=>hd0 (s.cd i)
theorem tQ {s:St} {i:Nat} (h:i<s.cs.length):(zV s).getD i 0=hd0 (s.cd i):=by simp[zV,ahZ,h]
theorem yB {c:Int} {ls:List (List Int)} {sum:Int} {gv:List Int} (h:bD c ls sum gv) (i:Nat):0≤gv.getD i 0∧gv.getD i 0≤c:=by
 have hc:=h.c1;by_cases e:i<gv.length
 ·exact h.gr _ (cu e)
 ·rw[ahZ,ajK (by omega)];exact⟨ak9 _,by show(0:Int)≤c;omega⟩
theorem acf {c:Int} {ls:List (List Int)} {sum:Int} {s:St} (hB:aR c ls sum s) (hI:StI s) (hd:don s=true) (hu:Unb c ls sum s):kY c ls sum (zV s)∧Alw s (zV s):=by
 have hcl:=hB.cl;have hdl:=hB.dl;have hvl:(zV s).length=s.cs.length:=by simp[zV]
 have hdc:=(tN (by omega)).1 hd
 have hm:∀i,i<s.cs.length→hd0 (s.cd i)∈s.cd i:=fun i hi=>iT (hu.ne i hi);refine⟨⟨by omega,BP ?_ fun x hx=>?_,fun k hk=>?_⟩,⟨hvl.symm,fun i hi=>?_⟩⟩
 ·rw[List.Nodup,ak3]
  intro i j hi hj hij e;rw[←cK hi,←cK hj,tQ (by omega),tQ (by omega)]at e
  exact hI i j (by omega) (by omega) (by omega) (hdc i (by omega)) (by rw[e];exact hm j (by omega))
 ·obtain⟨i,hi,rfl⟩:=(bG _ _).1 hx
  rw[tQ (by omega)]
  have h1:=hB.asc i (by omega)
  have h2:=h1.1.rng _ (hm i (by omega))
  have h3:=h1.2 _ (hm i (by omega))
  omega
 ·have hr:=(hB.ln k hk).rng
  have ho:opn s (ls.getD k []) (-1)=[]:=alr.2 fun z hz=>by
   obtain⟨z1,z2,z3⟩:=aV.1 hz;rw[hdc z.toNat (by have:=hr z z1;omega)]at z2;cases z2
  have h1:=hu.line k hk ho;rw[oK]at h1;rw[tH];have:sF (fun x=>(zV s).getD x.toNat 0) (ls.getD k [])=sF (fun x=>if s.dc x.toNat then hd0 (s.cd x.toNat)else 0) (ls.getD k []):=dF fun z hz=>by
   have:=hr z hz;rw[tQ (by omega),hdc z.toNat (by omega)];rfl
  omega
 ·rw[hvl]at hi
  rw[tQ hi];exact hm i hi
theorem afh {s t:St} {f:List Int} (h:Alw t f) (hle:LeS t s):Alw s f:=⟨hle.len.symm.trans h.len,fun i hi=>hle.cd i (by rw[←hle.len,h.len];exact hi) _ (h.mem i hi)⟩
end Go.Eng.YtcechbdgokjmgaaGreatDoor
namespace Go.Eng.YtcechbdgokjmgaaGreatDoor
open Go.Proofs
set_option linter.unusedSimpArgs false
set_option linter.unusedVariables false
set_option maxHeartbeats 0
set_option maxRecDepth 100000
theorem bD.set0 {c:Int} {ls:List (List Int)} {sum:Int} {gv:List Int} (h:bD c ls sum gv) (k:Nat):bD c ls sum (gv.set k 0):=by
 have hc:=h.c1;have ha:∀i,(gv.set k 0).getD i 0=if i=k then 0 else gv.getD i 0:=fun i=>by
  rw[ahZ,air];by_cases e:k=i
  ·subst e;rw[if_pos rfl,if_pos rfl];split<;>rfl
  ·rw[if_neg e,if_neg (fun e'=>e e'.symm),←ahZ]
 refine⟨h.c1,h.ll,h.ln,h.sm,by rw[ait];exact h.gl,fun x hx=>?_,fun i j hij hj hpos e=>?_⟩
 ·obtain⟨i,hi,rfl⟩:=(bG _ x).1 hx
  rw[ait]at hi;rw[ha];split
  ·omega
  ·exact h.gr _ (cu hi)
 ·rw[ait]at hj
  rw[ha]at hpos;rw[ha,ha]at e;by_cases e1:j=k
  ·rw[if_pos e1]at hpos;omega
  ·rw[if_neg e1]at hpos e
   by_cases e2:i=k
   ·rw[if_pos e2]at e;omega
   ·rw[if_neg e2]at e;exact h.gd i j hij hj hpos e
noncomputable def agh:CPT:=aA 36 (aB oG) noC
theorem Ju:aW Tryz.prog agh:=aj (ak r9) aC
theorem TV (A:List (List Int)) (h:A.length≤1000000) (h2:∀i,(A.getD i []).length≤2000000):aF Tryz.prog 164 [.isl (.rows .i64 A) .none,.isl (.rows .i64 A) .none] (.bp true):=by
 refine av (md:=1) (rf:=[]) mixed au Ju Tryz.func164 (by rfl) (by rfl) (by rfl) ?_
 repeat'((conv=>whnf);first|(intro hq;(try simp only[vw]at hq);try first|exact absurd hq (by decide)|exfalso;omega)|apply aI|with_reducible exact vM rfl|exact⟨⟩|apply nM|apply fM)
 all_goals((try apply vM);(try simp only[vq]at*);try omega)
 all_goals(try omega)
 conv=>whnf
 refine aM (X:=Nat) (fun i=>i≤A.length) (fun i=>[(5,.int .i64 i)]) (fun i=>[]) (fun i=>A.length-i) 0 ⟨aK,mixed,au,Ju,aP⟩ (by rfl) (by omega) ?_ ?_
 ·repeat'((conv=>whnf);first|intro _|apply aI|with_reducible exact vM rfl|exact⟨⟩|apply nM|apply fM)
  all_goals((try apply vM);(try simp only[vq]at*);try omega)
 intro i hi;by_cases hlt:i<A.length
 ·have:=h2 i
  repeat'((conv=>whnf);first|(intro hq;(try simp only[vw]at hq);try first|exact absurd hq (by decide)|exfalso;omega)|apply aI|with_reducible exact vM rfl|exact⟨⟩|apply nM|apply fM)
  all_goals((try apply vM);(try simp only[vq]at*);try omega)
  all_goals(try omega)
  refine⟨i+1,[],⟨by omega,by omega⟩,?_⟩
  repeat'((conv=>whnf);first|intro _|apply aI|with_reducible exact vM rfl|exact⟨⟩|apply nM|apply fM)
  all_goals((try apply vM);(try simp only[vq]at*);try omega)
 ·have:i=A.length:=by omega
  subst this
  repeat'((conv=>whnf);first|(intro hq;(try simp only[vw]at hq);try first|exact absurd hq (by decide)|exfalso;omega)|apply aI|with_reducible exact vM rfl|exact⟨⟩|apply nM|apply fM)
  all_goals((try apply vM);(try simp only[vq]at*);try omega)
  all_goals(try first|omega|exact fO true)
def Qp:PSp:=fun xs K=>match xs with
 | [.isl (.rows .i64 A) .none,.isl (.rows .i64 B) .none]=>VC (A=B∧A.length≤1000000∧∀i,(A.getD i []).length≤2000000)∧K (.bool true)
 |_=>False
theorem acg:POK Tryz.prog 164 Qp:=by
 intro xs K hk;unfold Qp at hk;split at hk
 ·obtain⟨⟨rfl,h1,h2⟩,hk⟩:=hk
  exact⟨_,hk,iq (TV _ h1 h2) ⟨fun hr=>by cases hr;exact .bool _ _⟩⟩
 ·exact hk.elim
noncomputable def agi:CPT:=aA 164 (aB Qp) noC
theorem W9:aW Tryz.prog agi:=aj (ak acg) aC
theorem Qq (c:Int) (A:List (List Int)) (h:A.length≤1000000) (h2:∀i,(A.getD i []).length≤2000000):aF Tryz.prog 118 [.agg [.int .i64 c,.isl (.rows .i64 A) .none],.agg [.int .i64 c,.isl (.rows .i64 A) .none]] (.bp true):=by
 refine av (md:=1) (rf:=[]) mixed au W9 Tryz.func118 (by rfl) (by rfl) (by rfl) ?_
 repeat'((conv=>whnf);first|(intro hq;(try simp only[vw]at hq);try first|exact absurd hq (by decide)|exfalso;omega)|apply aI|with_reducible exact vM rfl|exact⟨⟩|apply nM|apply fM)
 all_goals((try apply vM);(try simp only[vq]at*);try omega)
 all_goals first|exact⟨h,h2⟩|exact fO true|exact Sup.of rfl|skip
def Jv:PSp:=fun xs K=>match xs with
 | [.agg [.int .i64 c,.isl (.rows .i64 A) .none],.agg [.int .i64 c',.isl (.rows .i64 B) .none]]=>VC (c=c'∧A=B∧A.length≤1000000∧∀i,(A.getD i []).length≤2000000)∧K (.bool true)
 |_=>False
theorem Xa:POK Tryz.prog 118 Jv:=by
 intro xs K hk;unfold Jv at hk;split at hk
 ·obtain⟨⟨rfl,rfl,h1,h2⟩,hk⟩:=hk
  exact⟨_,hk,iq (Qq _ _ h1 h2) ⟨fun hr=>by cases hr;exact .bool _ _⟩⟩
 ·exact hk.elim
def Jw:PSp:=fun xs K=>match xs with
 | [.isl (.ints .i64 a) .none,.isl (.ints .i64 b) .none]=>VC (a=b∧a.length≤2000000)∧K (.bool true)
 |_=>False
theorem Xb:POK Tryz.prog 36 Jw:=by
 intro xs K hk;unfold Jw at hk;split at hk
 ·obtain⟨⟨rfl,h1⟩,hk⟩:=hk
  exact⟨_,hk,iq (vJ _ _ h1) ⟨fun hr=>by cases hr;rw[decide_eq_true rfl];exact .bool _ _⟩⟩
 ·exact hk.elim
noncomputable def agj:CPT:=aA 36 (aB Jw) (aA 118 (aB Jv) noC)
theorem Xc:aW Tryz.prog agj:=aj (ak Xb) (aj (ak Xa) aC)
theorem EK (c:Int) (A:List (List Int)) (sum:Int) (gv:List Int) (h:A.length≤1000000) (h2:∀i,(A.getD i []).length≤2000000) (h3:gv.length≤2000000):aF Tryz.prog 46 [pzV c A sum gv,pzV c A sum gv] (.bp true):=by
 refine av (md:=1) (rf:=[]) mixed au Xc Tryz.func46 (by rfl) (by rfl) (by rfl) ?_
 repeat'((conv=>whnf);first|(intro hq;(try simp only[vw]at hq);try first|exact absurd hq (by decide)|exfalso;omega)|apply aI|with_reducible exact vM rfl|exact⟨⟩|apply nM|apply fM)
 all_goals((try apply vM);(try simp only[vq]at*);try omega)
 all_goals first|exact⟨h,h2⟩|exact h3|exact fO true|exact Sup.of rfl|skip
theorem MF {c:Int} {ls:List (List Int)} {sum:Int} {gv:List Int} (hb:eP c ls=0) (h:bD c ls sum gv):pzE c ls sum gv=0:=by
 have hs:=h.sm;have hl:=h.gl;have h0:mK c ls sum gv=0:=by
  unfold mK;rw[hb,if_neg (by omega),if_neg (by omega)];rfl
 unfold pzE;rw[if_neg (by rw[h0];simp)]
 refine eU fun i hi=>?_;unfold gvE;have hr:=h.gr (gv.getD i 0) (cu hi);rw[if_neg (by omega),if_neg]
 rintro⟨hp,hm⟩
 obtain⟨j,hj,e⟩:=(bG (gv.take i) (gv.getD i 0)).1 hm;rw[aiG]at hj;have e2:(gv.take i).getD j 0=gv.getD j 0:=by
  rw[ahZ,ahZ,aiB,if_pos (by omega)]
 exact h.gd j i (by omega) hi hp (e2.symm.trans e)
end Go.Eng.YtcechbdgokjmgaaGreatDoor
namespace Go.Eng.YtcechbdgokjmgaaGreatDoor
set_option linter.unusedSimpArgs false
set_option linter.unusedVariables false
theorem Xd {e1:Int} {p:List Int} (h:gG e1 p=0) (he:e1≠0):(∀y∈p,0≤y∧y<p.length)∧p.Nodup∧∀y:Int,0≤y∧y<p.length→y∈p:=by
 unfold gG at h;have hl:¬256<p.length:=fun hh=>by rw[if_pos hh]at h;exact he h
 rw[if_neg hl]at h;have hz:=gJ h;have hk:∀i,i<p.length→(0≤p.getD i 0∧p.getD i 0<p.length)∧p.getD i 0∉p.take i:=fun i hi=>by
  have:=hz i hi;unfold nN at this;by_cases e:p.getD i 0<0∨(p.length:Int)≤p.getD i 0∨p.getD i 0∈p.take i
  ·rw[if_pos e]at this;cases this
  ·exact⟨by omega,fun hm=>e (.inr (.inr hm))⟩
 have hr:∀y∈p,0≤y∧y<p.length:=fun y hy=>by
  obtain⟨i,hi,rfl⟩:=(bG _ _).1 hy;exact(hk i hi).1
 have hn:p.Nodup:=by
  rw[List.Nodup,ak3];intro i j hi hj hij e;refine(hk j hj).2 ((mV (by omega)).2 ⟨i,hij,?_⟩)
  rw[cK hi,cK hj];exact e
 refine⟨hr,hn,fun y hy=>?_⟩;by_cases hm:y∈p
 ·exact hm
 ·exfalso
  have:=MB (y::p) ((ahX p.length).map fun i:Nat=>(i:Int)) (List.nodup_cons.2 ⟨hm,hn⟩) fun x hx=>by
   have hx':0≤x∧x<p.length:=by
    rcases ajg.1 hx with rfl|hx
    ·exact hy
    ·exact hr x hx
   exact akC.2 ⟨x.toNat,ajF.2 (by omega),by omega⟩
  simp at this;omega
section
variable {c:Int} {ls:List (List Int)} {sum:Int} {nv:List Int} {g:Nat}
structure MkI (c:Int) (ls:List (List Int)) (sum:Int) (nv:List Int) (g:Nat) (gv:List Int):Prop where
 sub:mQ gv nv
 ok:(sol c ls sum gv g).2.2=0
end
end Go.Eng.YtcechbdgokjmgaaGreatDoor
namespace Go.Eng.YtcechbdgokjmgaaGreatDoor
open Go.Proofs
set_option linter.unusedSimpArgs false
set_option linter.unusedVariables false
theorem MG:∀{l m:List Int},l.Pairwise (·≤ ·)→m.Pairwise (·≤ ·)→l.Perm m→l=m:=by
 intro l;induction l with
 |nil=>intro m _ _ h;exact h.symm.eq_nil.symm
 |cons a l ih=>
  intro m hl hm h;cases m with
  |nil=>exact absurd h.eq_nil (by simp)
  |cons b m=>
   have h1:=ajh.1 hl;have h2:=ajh.1 hm;have e:a=b:=by
    have ha:a∈b::m:=h.subset (by simp)
    have hb:b∈a::l:=h.symm.subset (by simp)
    rcases ajg.1 ha with e|e
    ·exact e
    rcases ajg.1 hb with e'|e'
    ·exact e'.symm
    have:=h2.1 a e;have:=h1.1 b e';omega
   subst e;rw[ih h1.2 h2.2 h.cons_inv]
theorem Xe (l:List Int):(bK l).Pairwise (·≤ ·):=by
 have:=alh (le:=fun x y:Int=>decide (x≤y)) (fun a b c h1 h2=>by simp at*;omega) (fun a b=>by simp;omega) l
 exact this.imp fun h=>by simpa using h
theorem nS (l:List Int):(bK l).Perm l:=akZ l _
abbrev mpL (p line:List Int):List Int:=line.map fun a=>p.getD a.toNat 0
theorem key_inj {l m:List Int} (hl:∀x∈l,0≤x∧x<256) (hm:∀x∈m,0≤x∧x<256) (h:strOfNums l=strOfNums m):l=m:=by
 have back:∀l:List Int,(∀x∈l,0≤x∧x<256)→((strOfNums l).data.toList.map fun u=>(u.toNat:Int))=l:=fun l hl=>by
  rw[strOfNums_data,alu];have:l.map ((fun u:UInt8=>(u.toNat:Int))∘fun n:Int=>UInt8.ofNat n.toNat)=l.map id:=alv fun x hx=>by
   have:=hl x hx;simp only[Function.comp,id,UInt8.toNat_ofNat'];omega
  rw[this,alx]
 rw[←back l hl,←back m hm,h]
def kpB (ls:List (List Int)) (q:List Int):Bool:=ls.all fun l=>decide (bK (mpL q l)∈ls)
theorem Jy {ls:List (List Int)} {q:List Int} (h:∀i,i<ls.length→bK (mpL q (ls.getD i []))∈ls):kpB ls q=true:=ajp.2 fun l hl=>by
 obtain⟨i,hi,rfl⟩:=ah3 hl;have:=h i hi;rw[ahZ,ah4 hi]at this;exact decide_eq_true this
theorem TW {ls:List (List Int)} {q:List Int} {i:Nat} (hi:i<ls.length) (h:bK (mpL q (ls.getD i []))∉ls):kpB ls q=false:=ak7.2 ⟨ls.getD i [],cu hi,by simpa using h⟩
theorem afi {ls:List (List Int)} {q:List Int} (h:kpB ls q=true) {i:Nat} (hi:i<ls.length):bK (mpL q (ls.getD i []))∈ls:=by
 simpa using ajp.1 h (ls.getD i []) (cu hi)
def gvX (c:Int) (b:Bool) (x:Int):Int:=if 0<x∧b=true then c+1-x else x
def lV (f:Nat→Int) (q:List Int) (k:Nat) (o:List Int):List Int:=(ahX k).foldl (fun o i=>o.set (q.getD i 0).toNat (f i)) o
theorem l9 (f:Nat→Int) (q:List Int) (k:Nat) (o:List Int):lV f q (k+1) o=(lV f q k o).set (q.getD k 0).toNat (f k):=by
 unfold lV;rw[akM,akc];rfl
theorem jC (f:Nat→Int) (q o:List Int):∀k,(lV f q k o).length=o.length:=by
 intro k;induction k with
 |zero=>rfl
 |succ k ih=>rw[l9,ait,ih]
structure Prm (n:Nat) (q:List Int):Prop where
 ln:q.length=n
 rg:∀y∈q,0≤y∧y<n
 nd:q.Nodup
 al:∀y:Int,0≤y∧y<n→y∈q
theorem Prm.at {n:Nat} {q:List Int} (h:Prm n q) {i:Nat} (hi:i<n):0≤q.getD i 0∧q.getD i 0<n:=h.rg _ (cu (by rw[h.ln];exact hi))
theorem Prm.inj {n:Nat} {q:List Int} (h:Prm n q) {i j:Nat} (hi:i<n) (hj:j<n) (e:q.getD i 0=q.getD j 0):i=j:=by
 have:=h.ln;rw[cK (by omega),cK (by omega)]at e
 exact(ala h.nd).1 e
theorem Prm.ex {n:Nat} {q:List Int} (h:Prm n q) {j:Nat} (hj:j<n):∃i,i<n∧q.getD i 0=(j:Int):=by
 obtain⟨i,hi,e⟩:=(bG _ _).1 (h.al (j:Int) (by omega))
 exact⟨i,by rw[←h.ln];exact hi,e⟩
theorem ach {e1:Int} {p:List Int} (h:gG e1 p=0) (he:e1≠0):Prm p.length p:=by
 obtain⟨h1,h2,h3⟩:=Xd h he;exact⟨rfl,h1,h2,h3⟩
theorem afj {n:Nat} {q:List Int} (h:Prm n q) (hn:n≤256) (e1:Int):gG e1 q=0:=by
 unfold gG;rw[if_neg (by rw[h.ln];omega)]
 refine eU fun i hi=>?_;have hl:=h.ln;unfold nN;rw[if_neg];have:=h.at (i:=i) (by omega)
 rintro(e|e|e)
 ·omega
 ·omega
 ·obtain⟨j,hj,e⟩:=(bG _ _).1 e
  rw[aiG]at hj;have e2:(q.take i).getD j 0=q.getD j 0:=by
   rw[ahZ,aiB,if_pos (by omega),←ahZ]
  have:=h.inj (i:=j) (j:=i) (by omega) (by omega) (e2.symm.trans e)
  omega
theorem yC {f:Nat→Int} {q o:List Int} {n:Nat} (hq:Prm n q) (ho:o.length=n):∀k,k≤n→∀i,i<k→(lV f q k o).getD (q.getD i 0).toNat 0=f i:=by
 intro k;induction k with
 |zero=>intro _ i hi;omega
 |succ k ih=>
  intro hk i hi;rw[l9];have h1:=hq.at (i:=i) (by omega)
  have h2:=hq.at (i:=k) (by omega)
  have hl:=jC f q o k;by_cases e:i=k
  ·subst e
   rw[ahZ,List.getElem?_set_self (by omega)];rfl
  ·have hne:(q.getD k 0).toNat≠(q.getD i 0).toNat:=fun e1=>e (hq.inj (by omega) (by omega) (by omega))
   rw[ahZ,aiu hne,←ahZ];exact ih (by omega) i (by omega)
theorem TY {l m:List Int} {n:Nat} (hl:l.length=n) (hm:m.length=n) (h:∀j,j<n→l.getD j 0=m.getD j 0):l=m:=
 akH (by omega) fun j h1 h2=>by
  have:=h j (by omega)
  rwa [cK h1,cK h2]at this
theorem zW {f:Nat→Int} {q o m:List Int} {n:Nat} (hq:Prm n q) (ho:o.length=n) (hm:m.length=n) (h:∀i,i<n→m.getD (q.getD i 0).toNat 0=f i):lV f q n o=m:=by
 refine TY (by rw[jC];exact ho) hm fun j hj=>?_
 obtain⟨i,hi,e⟩:=hq.ex hj;have a1:=yC (f:=f) hq ho n (ahO _) i hi;have a2:=h i hi;rw[e,show((j:Int)).toNat=j by omega]at a1 a2
 rw[a1,a2]
theorem MH {f:Nat→Int} {q o o':List Int} {n:Nat} (hq:Prm n q) (ho:o.length=n) (ho':o'.length=n):lV f q n o=lV f q n o':=
 zW hq ho (by rw[jC];exact ho') fun i hi=>yC hq ho' n (ahO _) i hi
def smI (c:Int) (ls:List (List Int)) (sum:Int) (b:Bool):Int:=if b then((ls.getD 0 []).length:Int)*(c+1)-sum else sum
def imE (c:Int) (ls:List (List Int)) (sum:Int) (q:List Int) (b:Bool):Int:=
 if kpB ls q=false∨(b=true∧jB ls=false)then 7 else if smI c ls sum b< -999999999∨999999999<smI c ls sum b then 3 else 0
def imG (c:Int) (b:Bool) (gv q:List Int):List Int:=lV (fun i=>gvX c b (gv.getD i 0)) q gv.length (ah9 gv.length 0)
def iX (c:Int) (ls:List (List Int)) (sum:Int) (gv q:List Int) (b:Bool):(Int × List (List Int) × Int × List Int) × Int:=
 if pzE c ls sum gv≠0 then((0,[],0,[]),pzE c ls sum gv)else if iD q c≠0 then((0,[],0,[]),iD q c)else if imE c ls sum q b≠0 then((0,[],0,[]),imE c ls sum q b)else((c,ls,smI c ls sum b,imG c b gv q),0)
def eF (q:List Int):List Int:=lV (fun i=>(i:Int)) q q.length (ah9 q.length 0)
def apG (b:Bool) (F q:List Int):List Int:=lV (fun i=>if b then(F.length:Int)+1-F.getD i 0 else F.getD i 0) q F.length (ah9 F.length 0)
theorem Jz {q:List Int} {c:Int} (h:iD q c=0):Prm c.toNat q∧0≤c∧c≤256∧gG 5 q=0:=by
 unfold iD at h;by_cases h1:gW c=0
 case neg=>rw[if_pos h1]at h;cases h
 rw[if_neg (by rw[h1];simp)]at h
 by_cases h2:(q.length:Int)=c
 case neg=>rw[if_pos h2]at h;cases h
 rw[if_neg (by simpa using h2)]at h
 have h3:¬(c<0∨256<c):=fun e=>by unfold gW at h1;rw[if_pos e]at h1;cases h1
 have h4:=ach h (by decide)
 rw[show c.toNat=q.length by omega]
 exact⟨h4,by omega,by omega,h⟩
theorem Qr {q:List Int} {c:Int} (hc:0≤c∧c≤256) (h:Prm c.toNat q):iD q c=0:=by
 have hl:=h.ln;unfold iD;have h1:gW c=0:=by unfold gW;rw[if_neg (by omega)]
 rw[if_neg (by rw[h1];simp),if_neg (by omega)]
 exact afj h (by omega) 5
theorem afk {c:Int} {ls:List (List Int)} (h:fU c ls=0):ls.Nodup:=by
 unfold fU at h;by_cases h1:c<1∨256<c
 ·rw[if_pos h1]at h;cases h
 rw[if_neg h1]at h;by_cases h2:128<ls.length
 ·rw[if_pos h2]at h;cases h
 rw[if_neg h2]at h;have hz:=gJ h;rw[List.Nodup,ak3];intro i j hi hj hij e;have:=hz j hj;unfold iI at this;by_cases h3:(ls.getD j []).length=0
 ·rw[if_pos h3]at this;cases this
 rw[if_neg h3]at this;by_cases h4:dD (bT c (ls.getD j [])) (ls.getD j []).length≠0
 ·rw[if_pos h4]at this;exact h4 this
 rw[if_neg h4]at this;have h5:(ls.take j).any (fun x=>decide (x=ls.getD j []))=true:=by
  refine ako.2 ⟨ls[i],?_,?_⟩
  ·have:(ls.take j)[i]? =some ls[i]:=by rw[aiB,if_pos hij,ah4 hi]
   exact List.mem_of_getElem? this
  ·rw[ahZ,ah4 hj]
   exact decide_eq_true e
 rw[if_pos h5]at this;cases this
theorem MI {c:Int} {ls:List (List Int)} (h:eP c ls=0):fU c ls=0:=by
 unfold eP at h;simp only[aJ]at h;by_cases e:fU c ls=0
 ·exact e
 ·rw[if_neg e]at h;exact absurd h e
theorem Ua {c:Int} {ls:List (List Int)} (h:eP c ls=0):ls.Nodup:=afk (MI h)
theorem Ub {c:Int} {ls:List (List Int)} {sum:Int} {gv:List Int} (h:pzE c ls sum gv=0):eP c ls=0:=by
 unfold pzE at h;have h0:mK c ls sum gv=0:=by
  by_cases e:mK c ls sum gv=0
  ·exact e
  ·rw[if_pos e]at h;exact h
 unfold mK at h0;simp only[aJ]at h0;by_cases e:eP c ls=0
 ·exact e
 ·rw[if_neg e]at h0;exact absurd h0 e
theorem MJ (c:Int) (b:Bool) (gv q:List Int):(imG c b gv q).length=gv.length:=by unfold imG;rw[jC,ak2]
end Go.Eng.YtcechbdgokjmgaaGreatDoor
namespace Go.Eng.YtcechbdgokjmgaaGreatDoor
set_option linter.unusedSimpArgs false
set_option linter.unusedVariables false
def vv (c:Int) (b:Bool) (x:Int):Int:=if b then c+1-x else x
theorem vC (c:Int) (b:Bool) (x:Int):vv c b (vv c b x)=x:=by unfold vv;cases b<;>simp<;>omega
theorem mX {c:Int} {b:Bool} {x y:Int} (h:vv c b x=vv c b y):x=y:=by rw[←vC c b x,h,vC]
theorem lG {c:Int} {b:Bool} {x:Int}:(1≤vv c b x∧vv c b x≤c)↔(1≤x∧x≤c):=by unfold vv;cases b<;>simp<;>omega
structure Sym (c:Int) (ls:List (List Int)) (sum sum':Int) (p q:Int→Int) (b:Bool) (m:Nat):Prop where
 pr:∀z,0≤z∧z<c→(0≤p z∧p z<c)∧q (p z)=z
 qr:∀z,0≤z∧z<c→(0≤q z∧q z<c)∧p (q z)=z
 ln:∀k,k<ls.length→CV c (ls.getD k [])
 im:∀k,k<ls.length→∃k',k'<ls.length∧(ls.getD k' []).Perm ((ls.getD k []).map p)
 im':∀k',k'<ls.length→∃k,k<ls.length∧(ls.getD k' []).Perm ((ls.getD k []).map p)
 sz:b=true→∀k,k<ls.length→(ls.getD k []).length=m
 sm:sum'=if b then m*(c+1)-sum else sum
theorem Eb {c:Int} {p q:Int→Int} {l l':List Int} (h:∀z∈l,q (p z)=z) (hp:l'.Perm (l.map p)):l.Perm (l'.map q):=by
 have h1:=hp.map q;rw[alu]at h1;have h2:l.map (q∘p)=l:=by
  have:l.map (q∘p)=l.map id:=alv fun z hz=>h z hz;rw[this,alx]
 rw[h2]at h1;exact h1.symm
theorem Sym.inv {c:Int} {ls:List (List Int)} {sum sum':Int} {p q:Int→Int} {b:Bool} {m:Nat} (h:Sym c ls sum sum' p q b m):Sym c ls sum' sum q p b m:=by
 refine⟨h.qr,h.pr,h.ln,fun k hk=>?_,fun k hk=>?_,h.sz,?_⟩
 ·obtain⟨k',h1,h2⟩:=h.im' k hk
  exact⟨k',h1,Eb (c:=c) (fun z hz=>(h.pr z ((h.ln k' h1).rng z hz)).2) h2⟩
 ·obtain⟨k',h1,h2⟩:=h.im k hk
  exact⟨k',h1,Eb (c:=c) (fun z hz=>(h.pr z ((h.ln k hk).rng z hz)).2) h2⟩
 ·have:=h.sm
  cases b
  ·simpa using this.symm
  ·simp only[if_true]at this⊢;omega
theorem MK {g:Int→Int} {l l':List Int} (h:l.Perm l'):sF g l=sF g l':=by
 induction h with
 |nil=>rfl
 |cons x _ ih=>simp only[sF,ih]
 |swap x y l=>simp only[sF];omega
 |trans _ _ h1 h2=>exact h1.trans h2
theorem Uc (g p:Int→Int):∀l:List Int,sF g (l.map p)=sF (fun z=>g (p z)) l:=by
 intro l;induction l with
 |nil=>rfl
 |cons x r ih=>simp only[ajN,sF,ih]
theorem Ud (a:Int) (g:Int→Int):∀l:List Int,sF (fun z=>a-g z) l=a*l.length-sF g l:=by
 intro l;induction l with
 |nil=>simp[sF]
 |cons x r ih=>
  simp only[sF,ih,ahK];rw[show((r.length+1:Nat):Int)=(r.length:Int)+1 by omega,Int.mul_add];omega
structure Sm (c:Int) (p:Int→Int) (b:Bool) (s t:St):Prop where
 dc:∀z,0≤z∧z<c→t.dc (p z).toNat=s.dc z.toNat
 cd:∀z,0≤z∧z<c→∀x,vv c b x∈t.cd (p z).toNat↔x∈s.cd z.toNat
theorem Sm.cd' {c:Int} {p:Int→Int} {b:Bool} {s t:St} (h:Sm c p b s t) {z:Int} (hz:0≤z∧z<c) (x:Int):x∈t.cd (p z).toNat↔vv c b x∈s.cd z.toNat:=by
 rw[←h.cd z hz,vC]
theorem Sm.inv {c:Int} {ls:List (List Int)} {sum sum':Int} {p q:Int→Int} {b:Bool} {m:Nat} (hS:Sym c ls sum sum' p q b m) {s t:St} (h:Sm c p b s t):Sm c q b t s:=by
 refine⟨fun z hz=>?_,fun z hz x=>?_⟩
 ·obtain⟨h1,h2⟩:=hS.qr z hz
  have:=h.dc _ h1;rw[h2]at this;exact this.symm
 ·obtain⟨h1,h2⟩:=hS.qr z hz
  have:=h.cd' h1 x;rw[h2]at this;exact this.symm
theorem Sm.hd {c:Int} {ls:List (List Int)} {sum sum':Int} {p:Int→Int} {b:Bool} {s t:St} (hp:∀z,0≤z∧z<c→0≤p z∧p z<c) (hs:aR c ls sum s) (ht:aR c ls sum' t) (h:Sm c p b s t) {z:Int} (hz:0≤z∧z<c) (hd:s.dc z.toNat=true):hd0 (t.cd (p z).toNat)=vv c b (hd0 (s.cd z.toNat)):=by
 have h1:=hs.num hz hd;have h2:=ht.num (hp z hz) (by rw[h.dc z hz];exact hd)
 have h3:=(h.cd z hz (hd0 (s.cd z.toNat))).2 (by rw[h1.2.2];exact akx.2 rfl)
 rw[h2.2.2,akx]at h3;exact h3.symm
def og (s:St) (y x:Int) (h:Int→Int) (z:Int):Int:=if s.dc z.toNat then hd0 (s.cd z.toNat)else if z=y then x else h z
theorem MN {s:St} {sum:Int} {l:List Int} {y x:Int} {h:Int→Int} (hp:l.Pairwise (·< ·)) (hy:y∈l) (hd:s.dc y.toNat=false):rst s sum l-x-sF h (opn s l y)=sum-sF (og s y x h) l:=by
 rw[oK,lF];have:sF (og s y x h) l=sF (fun z=>((if s.dc z.toNat then hd0 (s.cd z.toNat)else 0)+(if z=y then x else 0))+(if !(s.dc z.toNat)&&decide (z≠y)then h z else 0)) l:=dF fun z hz=>by
  unfold og;by_cases e:z=y
  ·subst e;simp[hd]
  ·cases s.dc z.toNat<;>simp[e]
 rw[this,lD,lD,Jq hp hy];omega
theorem JA {s:St} {sum:Int} {l:List Int} {h:Int→Int} (h0:∀z∈l,0≤z):rst s sum l-sF h (opn s l (-1))=sum-sF (og s (-1) 0 h) l:=by
 rw[oK,lF];have:sF (og s (-1) 0 h) l=sF (fun z=>(if s.dc z.toNat then hd0 (s.cd z.toNat)else 0)+(if !(s.dc z.toNat)&&decide (z≠ -1)then h z else 0)) l:=dF fun z hz=>by
  unfold og;have e:z≠ -1:=by have:=h0 z hz;omega
  cases s.dc z.toNat<;>simp[e]
 rw[this,lD];omega
section
variable {c:Int} {ls:List (List Int)} {sum sum':Int} {p q:Int→Int} {b:Bool} {m:Nat} {s t:St}
theorem Ue (hS:Sym c ls sum sum' p q b m) (hs:aR c ls sum s) (ht:aR c ls sum' t) (h:Sm c p b s t) {k k':Nat} (hk:k<ls.length) (hpm:(ls.getD k' []).Perm ((ls.getD k []).map p)) {g g':Int→Int} (hg:∀z∈ls.getD k [],s.dc z.toNat=false→g' (p z)=vv c b (g z)):
 sum'-sF (fun z=>if t.dc z.toNat then hd0 (t.cd z.toNat)else g' z) (ls.getD k' [])=(if b then-1 else 1)*(sum-sF (fun z=>if s.dc z.toNat then hd0 (s.cd z.toNat)else g z) (ls.getD k [])):=by
 rw[MK hpm,Uc];have hr:=(hS.ln k hk).rng;have h1:sF (fun z=>if t.dc (p z).toNat then hd0 (t.cd (p z).toNat)else g' (p z)) (ls.getD k [])=sF (fun z=>vv c b (if s.dc z.toNat then hd0 (s.cd z.toNat)else g z)) (ls.getD k []):=dF fun z hz=>by
  rw[h.dc z (hr z hz)];cases e:s.dc z.toNat with
  |true=>simp only[if_true];exact h.hd (fun z hz=>(hS.pr z hz).1) hs ht (hr z hz) e
  |false=>simp only[aiF,if_false];exact hg z hz e
 rw[h1];have h2:=hS.sm;cases hb:b with
 |false=>
  rw[hb]at h2;simp only[aiF,if_false]at h2⊢;have:sF (fun z=>vv c false (if s.dc z.toNat then hd0 (s.cd z.toNat)else g z)) (ls.getD k [])=sF (fun z=>if s.dc z.toNat then hd0 (s.cd z.toNat)else g z) (ls.getD k []):=dF fun z hz=>by simp[vv]
  rw[this];omega
 |true=>
  rw[hb]at h2;simp only[if_true]at h2⊢;have:sF (fun z=>vv c true (if s.dc z.toNat then hd0 (s.cd z.toNat)else g z)) (ls.getD k [])=sF (fun z=>(c+1)-(if s.dc z.toNat then hd0 (s.cd z.toNat)else g z)) (ls.getD k []):=dF fun z hz=>by simp[vv]
  rw[this,Ud,hS.sz hb k hk,Int.mul_comm (c+1)];omega
theorem BR (hS:Sym c ls sum sum' p q b m) {k k':Nat} (hk:k<ls.length) (hpm:(ls.getD k' []).Perm ((ls.getD k []).map p)) {z:Int} (hz:0≤z∧z<c):p z∈ls.getD k' []↔z∈ls.getD k []:=by
 rw[hpm.mem_iff,akC];constructor
 ·rintro⟨w,hw,e⟩
  have:=congrArg q e;rw[(hS.pr w ((hS.ln k hk).rng w hw)).2,(hS.pr z hz).2]at this;rw[←this];exact hw
 ·exact fun h=>⟨z,h,rfl⟩
theorem BS (hS:Sym c ls sum sum' p q b m) {z w:Int} (hz:0≤z∧z<c) (hw:0≤w∧w<c) (e:p z=p w):z=w:=by
 have:=congrArg q e
 rwa [(hS.pr z hz).2,(hS.pr w hw).2]at this
theorem Uf (hS:Sym c ls sum sum' p q b m) (h:Sm c p b s t) {k k':Nat} (hk:k<ls.length) (hpm:(ls.getD k' []).Perm ((ls.getD k []).map p)) {y z:Int} (hy:0≤y∧y<c) (hz:0≤z∧z<c):p z∈opn t (ls.getD k' []) (p y)↔z∈opn s (ls.getD k []) y:=by
 rw[aV,aV,BR hS hk hpm hz,h.dc z hz];constructor
 ·exact fun⟨h1,h2,h3⟩=>⟨h1,h2,fun e=>h3 (by rw[e])⟩
 ·exact fun⟨h1,h2,h3⟩=>⟨h1,h2,fun e=>h3 (BS hS hz hy e)⟩
theorem BU (hS:Sym c ls sum sum' p q b m) (h:Sm c p b s t) {k k':Nat} (hk:k<ls.length) (hpm:(ls.getD k' []).Perm ((ls.getD k []).map p)) {y:Int} (hy:0≤y∧y<c):(opn t (ls.getD k' []) (p y)).length=(opn s (ls.getD k []) y).length:=by
 unfold opn;rw[←alp,←alp,hpm.countP_eq,List.countP_map];have hr:=(hS.ln k hk).rng;refine List.countP_congr fun z hz=>?_;simp only[Function.comp,aia,akU,decide_eq_true_eq];rw[h.dc z (hr z hz)];constructor
 ·exact fun⟨h2,h3⟩=>⟨h2,fun e=>h3 (by rw[e])⟩
 ·exact fun⟨h2,h3⟩=>⟨h2,fun e=>h3 (BS hS (hr z hz) hy e)⟩
theorem yD (hS:Sym c ls sum sum' p q b m) (hs:aR c ls sum s) (ht:aR c ls sum' t) (h:Sm c p b s t) {z:Int} (hz:0≤z∧z<c) (hne:s.cd z.toNat≠[]):
 (b=false→hd0 (t.cd (p z).toNat)=hd0 (s.cd z.toNat)∧ls0 (t.cd (p z).toNat)=ls0 (s.cd z.toNat))∧(b=true→hd0 (t.cd (p z).toNat)=vv c b (ls0 (s.cd z.toNat))∧ls0 (t.cd (p z).toNat)=vv c b (hd0 (s.cd z.toNat))):=by
 have hzs:=(hs.at hz).1;have hzt:=(ht.at (hS.pr z hz).1).1;have l1:1≤(s.cd z.toNat).length:=List.length_pos_iff.2 hne;have l2:1≤(t.cd (p z).toNat).length:=alm ((h.cd z hz _).2 (iT l1));have a1:=Bo (hs.asc _ hzs).1.pw;have a2:=qI (hs.asc _ hzs).1.pw;have b1:=Bo (ht.asc _ hzt).1.pw;have b2:=qI (ht.asc _ hzt).1.pw;have c1:=(h.cd z hz _).2 (iT l1);have c2:=(h.cd z hz _).2 (lZ l1);have c3:=(h.cd' hz _).1 (iT l2);have c4:=(h.cd' hz _).1 (lZ l2);have d1:=b1 _ c1;have d2:=b1 _ c2;have d3:=b2 _ c1;have d4:=b2 _ c2;have e1:=a1 _ c3;have e2:=a1 _ c4;have e3:=a2 _ c3;have e4:=a2 _ c4;unfold vv at*;constructor
 ·rintro rfl;simp at*;omega
 ·rintro rfl;simp at*;omega
theorem afl (hS:Sym c ls sum sum' p q b m) (hs:aR c ls sum s) (ht:aR c ls sum' t) (h:Sm c p b s t) {g:Nat} {y x k:Int} (hL:jA c ls g y x k) (hd:s.dc y.toNat=false) (hx:x∈s.cd y.toNat) (hj:jst g s sum (ls.getD k.toNat []) y x=true)
 {k':Nat} (hk':lnG g=true→k'<ls.length∧(ls.getD k' []).Perm ((ls.getD k.toNat []).map p)):jst g t sum' (ls.getD k' []) (p y) (vv c b x)=true:=by
 have hg:=hL.gg;have hpy:=(hS.pr y hL.yy).1;have hys:=(hs.at hL.yy).1;have hyt:=(ht.at hpy).1;have hdt:t.dc (p y).toNat=false:=by rw[h.dc y hL.yy];exact hd
 have dsum:lnG g=true→∀g1 g2:Int→Int,(∀z∈ls.getD k.toNat [],s.dc z.toNat=false→z≠y→g2 (p z)=vv c b (g1 z))→
  rst t sum' (ls.getD k' [])-vv c b x-sF g2 (opn t (ls.getD k' []) (p y))=(if b then-1 else 1)*(rst s sum (ls.getD k.toNat [])-x-sF g1 (opn s (ls.getD k.toNat []) y)):=fun hl g1 g2 hgg=>by
  obtain⟨hk,hm⟩:=hL.kk hl;obtain⟨k1,k2⟩:=hk' hl;have hr:=(hS.ln k.toNat (by omega)).rng
  rw[MN (hS.ln k.toNat (by omega)).pw hm hd,MN (hS.ln k' k1).pw ((BR hS (by omega) k2 hL.yy).2 hm) hdt]
  have:=Ue hS hs ht h (by omega) k2 (g:=fun z=>if z=y then x else g1 z) (g':=fun z=>if z=p y then vv c b x else g2 z) fun z hz hdz=>by
   by_cases e:z=y
   ·subst e;simp
   ·have e2:p z≠p y:=fun e2=>e (BS hS (hr z hz) hL.yy e2)
    simp only[if_neg e,if_neg e2];exact hgg z hz hdz e
  exact this
 obtain rfl|rfl|rfl|rfl|rfl:g=1∨g=2∨g=3∨g=4∨g=5:=by omega
 ·obtain⟨hk,hm⟩:=hL.kk rfl
  obtain⟨k1,k2⟩:=hk' rfl;simp only[jst,uS,aia,decide_eq_true_eq]at hj⊢;have hl:=BU hS h (by omega) k2 (y:=y) hL.yy
  have:=dsum rfl (fun _=>0) (fun z=>vv c b 0) fun _ _ _ _=>rfl;rw[alc (hl.trans hj.1),alc hj.1]at this;simp only[sF]at this;rw[show rst s sum (ls.getD k.toNat [])-x-0=0 by omega,aly]at this
  exact⟨hl.trans hj.1,by omega⟩
 ·simp only[jst,uT,decide_eq_true_eq]at hj⊢
  obtain⟨w,hw⟩:=alb.1 hj;have hpw:=(ht.asc _ hyt).1.pw;have hxm:=(h.cd y hL.yy x).2 hx;have hall:∀v∈t.cd (p y).toNat,v=vv c b x:=fun v hv=>by
   have h1:=(h.cd' hL.yy v).1 hv;rw[hw,akx]at h1 hx;rw[hx,←h1,vC]
  obtain⟨r,hr⟩:∃r,t.cd (p y).toNat=r:=⟨_,rfl⟩;rw[hr]at hpw hxm hall⊢;cases r with
  |nil=>simp at hxm
  |cons a r=>
   cases r with
   |nil=>rfl
   |cons a' r=>
    have h1:=hall a (by simp)
    have h2:=hall a' (by simp)
    have h3:=(ajh.1 hpw).1 a' (by simp)
    omega
 ·simp only[jst,oP,ajp,ajF,ajm,decide_eq_true_eq,akU,decide_eq_false_iff_not]at hj⊢
  intro i hi;have htl:=ht.cl;have hsl:=hs.cl;obtain⟨q1,q2⟩:=hS.qr (i:Int) (by omega)
  rcases hj (q i).toNat (by omega)with h1|h1
  ·left
   have:q i=y:=by omega
   rw[←this,q2]
  ·right
   intro hm;have h2:=h.cd (q i) q1 x;rw[q2]at h2;exact h1 (h2.1 (by simpa using hm))
 ·obtain⟨hk,hm⟩:=hL.kk rfl
  obtain⟨k1,k2⟩:=hk' rfl;have hr:=(hS.ln k.toNat (by omega)).rng
  simp only[jst,oQ,ajm,ako,decide_eq_true_eq]at hj⊢;by_cases hem:∃z∈opn s (ls.getD k.toNat []) y,s.cd z.toNat=[]
  ·obtain⟨z,hz,e⟩:=hem
   have hzr:=hr z (aV.1 hz).1;refine .inl ⟨p z,(Uf hS h (by omega) k2 hL.yy hzr).2 hz,alr.2 fun v hv=>?_⟩
   have:=(h.cd' hzr v).1 hv;rw[e]at this;simp at this
  ·right
   have hne:∀z∈ls.getD k.toNat [],s.dc z.toNat=false→z≠y→s.cd z.toNat≠[]:=fun z hz hdz hzy e=>hem ⟨z,aV.2 ⟨hz,hdz,hzy⟩,e⟩;have hj2:=hj.resolve_left hem;rw[tC,tF]at hj2⊢;cases hb:b with
   |false=>
    have e1:=dsum rfl (fun z=>hd0 (s.cd z.toNat)) (fun z=>hd0 (t.cd z.toNat)) fun z hz hdz hzy=>by
     rw[((yD hS hs ht h (hr z hz) (hne z hz hdz hzy)).1 hb).1,hb];simp[vv]
    have e2:=dsum rfl (fun z=>ls0 (s.cd z.toNat)) (fun z=>ls0 (t.cd z.toNat)) fun z hz hdz hzy=>by
     rw[((yD hS hs ht h (hr z hz) (hne z hz hdz hzy)).1 hb).2,hb];simp[vv]
    rw[hb]at e1 e2;simp only[aiF,if_false]at e1 e2;omega
   |true=>
    have e1:=dsum rfl (fun z=>ls0 (s.cd z.toNat)) (fun z=>hd0 (t.cd z.toNat)) fun z hz hdz hzy=>
     ((yD hS hs ht h (hr z hz) (hne z hz hdz hzy)).2 hb).1
    have e2:=dsum rfl (fun z=>hd0 (s.cd z.toNat)) (fun z=>ls0 (t.cd z.toNat)) fun z hz hdz hzy=>
     ((yD hS hs ht h (hr z hz) (hne z hz hdz hzy)).2 hb).2
    rw[hb]at e1 e2;simp only[if_true]at e1 e2;omega
 ·obtain⟨hk,hm⟩:=hL.kk rfl
  obtain⟨k1,k2⟩:=hk' rfl;have hr:=(hS.ln k.toNat (by omega)).rng
  simp only[jst,rZ,aia,decide_eq_true_eq,akU]at hj⊢;refine⟨by rw[BU hS h (by omega) k2 hL.yy];exact hj.1,?_⟩
  cases e:chs t (opn t (ls.getD k' []) (p y)) [vv c b x] (rst t sum' (ls.getD k' [])-vv c b x)with
  |false=>rfl
  |true=>
   exfalso
   obtain⟨H,h1,h2,h3⟩:=(nR t _ _ _ (qX (hS.ln k' k1).pw)).1 e;have hin:∀z∈opn s (ls.getD k.toNat []) y,p z∈opn t (ls.getD k' []) (p y):=fun z hz=>(Uf hS h (by omega) k2 hL.yy (hr z (aV.1 hz).1)).2 hz
   have hsum:=dsum rfl (fun z=>vv c b (H (p z))) H fun z _ _ _=>(vC c b _).symm;have:chs s (opn s (ls.getD k.toNat []) y) [x] (rst s sum (ls.getD k.toNat [])-x)=true:=by
    refine(nR s _ _ _ (qX (hS.ln k.toNat (by omega)).pw)).2 ⟨fun z=>vv c b (H (p z)),fun z hz=>⟨?_,fun hm'=>?_⟩,fun z hz w hw hne e1=>?_,?_⟩
    ·exact(h.cd' (hr z (aV.1 hz).1) _).1 (h1 _ (hin z hz)).1
    ·refine(h1 _ (hin z hz)).2 ?_
     rw[akx]at hm'⊢;rw[←hm',vC]
    ·exact h2 _ (hin z hz) _ (hin w hw) (fun e2=>hne (BS hS (hr z (aV.1 hz).1) (hr w (aV.1 hw).1) e2)) (mX e1)
    ·rw[h3,Int.sub_self]at hsum
     rcases Int.mul_eq_zero.1 hsum.symm with e|e
     ·split at e<;>omega
     ·omega
   rw[this]at hj;exact absurd hj.2 (by simp)
theorem afm (hS:Sym c ls sum sum' p q b m) {g:Nat} {y x k:Int} (hL:jA c ls g y x k):∃k':Nat,jA c ls g (p y) (vv c b x) (k':Int)∧(lnG g=true→k'<ls.length∧(ls.getD k' []).Perm ((ls.getD k.toNat []).map p)):=by
 cases hl:lnG g with
 |false=>exact⟨0,⟨hL.gg,(hS.pr y hL.yy).1,lG.2 hL.xx,fun e=>by rw[hl]at e;cases e⟩,fun e=>by cases e⟩
 |true=>
  obtain⟨hk,hm⟩:=hL.kk hl;obtain⟨k',k1,k2⟩:=hS.im k.toNat (by omega)
  exact⟨k',⟨hL.gg,(hS.pr y hL.yy).1,lG.2 hL.xx,fun _=>⟨by omega,(BR hS (by omega) k2 hL.yy).2 hm⟩⟩,fun _=>⟨k1,k2⟩⟩
theorem Y3 (hS:Sym c ls sum sum' p q b m) (hs:aR c ls sum s) (ht:aR c ls sum' t) (h:Sm c p b s t) {g:Nat} {y x k:Int} (hL:jA c ls g y x k) (hj:okJ g s sum (ls.getD k.toNat []) y x=true):
 ∃k':Int,jA c ls g (p y) (vv c b x) k'∧okJ g t sum' (ls.getD k'.toNat []) (p y) (vv c b x)=true:=by
 obtain⟨k',h1,h2⟩:=afm hS hL;obtain⟨o1,o2,o3⟩:=dS.1 hj;exact⟨k',h1,dS.2 ⟨by rw[h.dc y hL.yy];exact o1,(h.cd y hL.yy x).2 o2,afl hS hs ht h hL o1 o2 o3 h2⟩⟩
theorem afn (hS:Sym c ls sum sum' p q b m) (hs:aR c ls sum s) (ht:aR c ls sum' t) (h:Sm c p b s t) {g:Nat} {y x k:Int} (hL:jA c ls g y x k):Sm c p b (apl g s y x) (apl g t (p y) (vv c b x)):=by
 have hpy:=(hS.pr y hL.yy).1;obtain⟨y1,y2⟩:=hs.at hL.yy;obtain⟨y3,y4⟩:=ht.at hpy;have hne:∀z,0≤z∧z<c→((p z).toNat=(p y).toNat↔z.toNat=y.toNat):=fun z hz=>by
  have:=(hS.pr z hz).1;constructor
  ·intro e
   rw[BS hS hz hL.yy (by omega)]
  ·intro e
   have:z=y:=by have:=hL.yy;omega
   rw[this]
 refine⟨fun z hz=>?_,fun z hz v=>?_⟩
 ·rw[xq y2,xq y4,h.dc z hz]
  simp only[hne z hz]
 ·rw[sU y1 _ (hs.at hz).1,sU y3 _ (ht.at (hS.pr z hz).1).1]
  simp only[hne z hz];by_cases hg:g≤3
  ·rw[if_pos hg,if_pos hg]
   split
   ·rw[akx,akx]
    exact⟨mX,fun e=>by rw[e]⟩
   ·rw[eD,eD,h.cd z hz v]
    exact⟨fun⟨a,b⟩=>⟨a,fun e=>b (by rw[e])⟩,fun⟨a,b⟩=>⟨a,fun e=>b (mX e)⟩⟩
  ·rw[if_neg hg,if_neg hg]
   split
   ·rename_i e
    have hzy:z=y:=by have:=hL.yy;omega
    subst hzy;rw[eD,eD,h.cd z hz v];exact⟨fun⟨a,b⟩=>⟨a,fun e=>b (by rw[e])⟩,fun⟨a,b⟩=>⟨a,fun e=>b (mX e)⟩⟩
   ·exact h.cd z hz v
theorem afo (hS:Sym c ls sum sum' p q b m) (hs:aR c ls sum s) (ht:aR c ls sum' t) (h:Sm c p b s t) (hu:Unb c ls sum s):Unb c ls sum' t:=by
 have hsl:=hs.cl;have htl:=ht.cl;refine⟨fun x h1 h2=>?_,fun i hi=>?_,fun k' hk' ho=>?_⟩
 ·obtain⟨i,hi,hm⟩:=hu.num (vv c b x) (lG.2 ⟨h1,h2⟩).1 (lG.2 ⟨h1,h2⟩).2
  have hz:0≤(i:Int)∧(i:Int)<c:=by omega
  exact⟨(p i).toNat,(ht.at (hS.pr _ hz).1).1,(h.cd' hz x).2 (by simpa using hm)⟩
 ·obtain⟨q1,q2⟩:=hS.qr (i:Int) (by omega)
  have h1:=hu.ne (q i).toNat (hs.at q1).1;have h2:=(h.cd (q i) q1 _).2 (iT h1);rw[q2]at h2;exact alm (by simpa using h2)
 ·obtain⟨k,hk,hpm⟩:=hS.im' k' hk'
  have hr:=(hS.ln k hk).rng;have hr':=(hS.ln k' hk').rng;have hos:opn s (ls.getD k []) (-1)=[]:=alr.2 fun z hz=>by
   obtain⟨z1,z2,z3⟩:=aV.1 hz;have:p z∈opn t (ls.getD k' []) (-1):=aV.2 ⟨(BR hS hk hpm (hr z z1)).2 z1,by rw[h.dc z (hr z z1)];exact z2,by have:=(hS.pr z (hr z z1)).1;omega⟩
   rw[ho]at this;simp at this
  have h1:=hu.line k hk hos;have e1:=JA (s:=s) (sum:=sum) (l:=ls.getD k []) (h:=fun _=>0) fun z hz=>(hr z hz).1;have e2:=JA (s:=t) (sum:=sum') (l:=ls.getD k' []) (h:=fun _=>vv c b 0) fun z hz=>(hr' z hz).1;rw[hos]at e1;rw[ho]at e2;simp only[sF]at e1 e2;have e3:=Ue hS hs ht h hk hpm (g:=fun _=>0) (g':=fun _=>vv c b 0) fun _ _ _=>rfl;have e4:sF (og s (-1) 0 fun _=>0) (ls.getD k [])=sF (fun z=>if s.dc z.toNat then hd0 (s.cd z.toNat)else 0) (ls.getD k []):=dF fun z hz=>by unfold og;simp
  have e5:sF (og t (-1) 0 fun _=>vv c b 0) (ls.getD k' [])=sF (fun z=>if t.dc z.toNat then hd0 (t.cd z.toNat)else vv c b 0) (ls.getD k' []):=dF fun z hz=>by
   unfold og;have:z≠ -1:=by have:=hr' z hz;omega
   simp[this]
  rw[e4]at e1;rw[e5]at e2;have e6:sum-sF (fun z=>if s.dc z.toNat then hd0 (s.cd z.toNat)else 0) (ls.getD k [])=0:=by omega
  rw[e6,aly]at e3;omega
theorem afp (hS:Sym c ls sum sum' p q b m) (hs:aR c ls sum s) (ht:aR c ls sum' t) (h:Sm c p b s t) (hd:don s=true):don t=true:=by
 have hsl:=hs.cl;have htl:=ht.cl;have hsd:=hs.dl;have htd:=ht.dl;have h1:=(tN (by omega)).1 hd
 refine(tN (by omega)).2 fun i hi=>?_
 obtain⟨q1,q2⟩:=hS.qr (i:Int) (by omega)
 have h2:=h.dc (q i) q1;rw[q2,h1 _ (hs.at q1).1]at h2;simpa using h2
theorem afq (hS:Sym c ls sum sum' p q b m) {n:Nat} {s s':St} (hr:Run c ls sum n s s'):∀t:St,aR c ls sum s→StI s→aR c ls sum' t→StI t→Sm c p b s t→∃t',Run c ls sum' n t t'∧Sm c p b s' t':=by
 induction hr with
 |refl s=>exact fun t _ _ _ _ h=>⟨t,.refl t,h⟩
 |step hL hg hj _ ih=>
  intro t hB hI hB' hI' h;obtain⟨k',l1,l2⟩:=Y3 hS hB hB' h hL hj;obtain⟨o1,o2,o3⟩:=dS.1 hj;obtain⟨o4,o5,o6⟩:=dS.1 l2;obtain⟨a1,a2⟩:=lC hB hI hL.yy hL.xx o1 o2;obtain⟨a3,a4⟩:=lC hB' hI' l1.yy l1.xx o4 o5;obtain⟨t',r1,r2⟩:=ih _ a1 a2 a3 a4 (afn hS hB hB' h hL);exact⟨t',.step l1 hg l2 r1,r2⟩
theorem afr (hS:Sym c ls sum sum' p q b m) (hs:aR c ls sum s) (ht:aR c ls sum' t) (h:Sm c p b s t) {n:Nat} (hk:vB c ls sum n s):vB c ls sum' n t:=fun g y x k hL hg=>by
 cases e:okJ g t sum' (ls.getD k.toNat []) y x with
 |false=>rfl
 |true=>
  obtain⟨k',l1,l2⟩:=Y3 hS.inv ht hs (h.inv hS) hL e;rw[hk _ _ _ _ l1 hg]at l2;cases l2
end
structure Pm (c:Int) (p:Int→Int) (b:Bool) (gv gv':List Int):Prop where
 at':∀z,0≤z∧z<c→gv'.getD (p z).toNat 0=if 0<gv.getD z.toNat 0 then vv c b (gv.getD z.toNat 0)else 0
section
variable {c:Int} {ls:List (List Int)} {sum sum':Int} {p q:Int→Int} {b:Bool} {m:Nat} {gv gv':List Int}
theorem afs (hS:Sym c ls sum sum' p q b m) (h:bD c ls sum gv) (h':bD c ls sum' gv') (hP:Pm c p b gv gv'):Sm c p b (bgn c gv) (bgn c gv'):=by
 have hc:=h.c1;have hgl:=h.gl;have hgl':=h'.gl;have pos:∀z,0≤z∧z<c→(0<gv'.getD (p z).toNat 0↔0<gv.getD z.toNat 0):=fun z hz=>by
  rw[hP.at' z hz];have h1:=yB h z.toNat;split
  ·rename_i h0
   have:=(lG (c:=c) (b:=b)).2 (show 1≤gv.getD z.toNat 0∧gv.getD z.toNat 0≤c by omega)
   omega
  ·omega
 have memv:∀v:Int,(1≤v∧v≤c)→(vv c b v∈gv'↔v∈gv):=fun v hv=>by
  have hv':=(lG (c:=c) (b:=b)).2 hv;constructor
  ·intro hm
   obtain⟨j,hj,e⟩:=(bG _ _).1 hm;obtain⟨q1,q2⟩:=hS.qr (j:Int) (by omega)
   have h1:=hP.at' _ q1;rw[q2]at h1;have e':gv'.getD ((j:Int)).toNat 0=vv c b v:=by simpa using e
   rw[e']at h1;split at h1
   ·rw[mX h1];exact cu (by omega)
   ·omega
  ·intro hm
   obtain⟨j,hj,e⟩:=(bG _ _).1 hm;have h1:=hP.at' (j:Int) (by omega)
   rw[show((j:Int)).toNat=j by omega,e,if_pos (by omega)]at h1
   rw[←h1];have:=(hS.pr (j:Int) (by omega)).1
   exact cu (by omega)
 refine⟨fun z hz=>?_,fun z hz v=>?_⟩
 ·have:=(hS.pr z hz).1
  rw[IG (by omega),IG (by omega)]
  have:=pos z hz;by_cases e:0<gv.getD z.toNat 0
  ·rw[decide_eq_true e,decide_eq_true (this.2 e)]
  ·rw[decide_eq_false e,decide_eq_false (fun hh=>e (this.1 hh))]
 ·have:=(hS.pr z hz).1
  rw[BH (by omega),BH (by omega)]
  by_cases e:0<gv.getD z.toNat 0
  ·rw[if_pos e,if_pos ((pos z hz).2 e),akx,akx,hP.at' z hz,if_pos e]
   exact⟨mX,fun e=>by rw[e]⟩
  ·rw[if_neg e,if_neg (fun hh=>e ((pos z hz).1 hh)),sS (by omega),sS (by omega),lG]
   constructor
   ·exact fun⟨a,n⟩=>⟨a,fun hm=>n ((memv v a).2 hm)⟩
   ·exact fun⟨a,n⟩=>⟨a,fun hm=>n ((memv v a).1 hm)⟩
end
end Go.Eng.YtcechbdgokjmgaaGreatDoor
