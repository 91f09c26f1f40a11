/- Contracts of functions of the program: what each returns. Their conditions stand in them. -/
import Derived.Shelf.Strings.BuilderF
import Derived.Test.YtcechbdgokjmgaaGreatDoorHMadeb
open Array renaming length_toList→afD,getElem?_modify→ae9
open Bool renaming and_eq_true→afp,or_eq_true→agB,not_eq_true'→ah9,and_false→ahi,true_and→ahN,false_and→aho,not_eq_false'→aiv,false_eq_true→afQ,or_true→aiz,and_eq_false_iff→aiD
open Classical renaming not_not→afV,not_forall→aiA,not_imp→aiB,byContradiction→aiC
open Int renaming toNat_zero→ain,le_refl→ais,le_of_eq→aiw,toNat→aht
open List renaming range→afc,all_eq_true→agE,mem_range→agU,getD_eq_getElem?_getD→afe,getElem?_eq_getElem→afj,mergeSort_perm→aif,mem_map→ahQ,pairwise_map→aii,length_set→afE,getElem?_set→afC,replicate→afo,length_replicate→aij,pairwise_iff_getElem→aik,any_eq_true→ahC,length_take→afR,take_length→ag7,foldl_append→ahq,take→ahH,drop→ahI,length_map→ag3,length_append→agl,length_cons→aeZ,length_nil→aeV,mem_append→aff,mem_singleton→ahL,mem_cons→agv,append_nil→ag0,map_append→ag6,take_add_one→ag5,splitAt→aip,all_eq_false→aiq,getElem_of_mem→afi,foldl_cons→air,pairwise_cons→agw,mem_filter→ahh,length_eq_one_iff→ait,eq_nil_of_length_eq_zero→aiu,any_eq_false→ahD,countP_eq_length_filter→aix,length_pos_of_mem→aiy,mem_append_left→afg,nodup_cons→aiE,getElem?_set_ne→afF
open Nat renaming not_lt_zero→ail,min_eq_left→afJ,le_refl→ae3,le_of_eq→aio,beq→afl,eq_of_beq_eq_true→afq
namespace Go.Eng.YtcechbdgokjmgaaGreatDoor
open Go.Proofs
set_option linter.unusedSimpArgs false
set_option linter.unusedVariables false
theorem Aq {l:List Int} (h:kM l=true):dY l=(afc l.length).map fun i:Nat=>(i:Int)+1:=by
 refine List.ext_getElem (by rw[jL];simp) fun i h1 h2=>?_
 have hi:i<l.length:=by rw[jL]at h1;exact h1
 have:=agE.1 h i (agU.2 hi);rw[decide_eq_true_eq,afe,afj h1]at this;rw[show(dY l)[i]=(i:Int)+1 from this];simp
theorem mX {l:List Int} (h:kM l=true):∀x∈l,1≤x∧x≤l.length:=fun x hx=>by
 have hp:x∈dY l:=(aif l _).mem_iff.2 hx;rw[Aq h,ahQ]at hp;obtain⟨i,hi,rfl⟩:=hp;have:=agU.1 hi;omega
theorem Rb {l:List Int} (h:kM l=true):l.Nodup:=by
 have hp:(dY l).Perm l:=aif l _;rw[Aq h]at hp;refine hp.nodup_iff.1 ?_;rw[List.Nodup,aii];exact List.nodup_range.imp fun hne e=>hne (by omega)
def jT (gv nv:List Int):Prop:=gv.length=nv.length∧∀i,i<nv.length→gv.getD i 0=0∨gv.getD i 0=nv.getD i 0
theorem jT.set0 {gv nv:List Int} (h:jT gv nv) (y:Nat):jT (gv.set y 0) nv:=by
 refine⟨by rw[afE];exact h.1,fun i hi=>?_⟩
 rw[afe,afC];split
 ·left;split<;>rfl
 ·rw[←afe];exact h.2 i hi
theorem jT.set1 {gv nv:List Int} (h:jT gv nv) (y:Nat):jT (gv.set y (nv.getD y 0)) nv:=by
 refine⟨by rw[afE];exact h.1,fun i hi=>?_⟩
 rw[afe,afC];split
 ·rename_i e;subst e;right;rw[if_pos (by have:=h.1;omega)];rfl
 ·rw[←afe];exact h.2 i hi
theorem jT.refl (nv:List Int):jT nv nv:=⟨rfl,fun i _=>.inr rfl⟩
theorem GX {c:Int} {ls:List (List Int)} (hb:eO c ls=0):cK c ls 0 (afo c.toNat 0):=by
 unfold eO at hb;simp only[aK]at hb;have hsy:iJ c ls=0:=by
  by_cases e:iJ c ls=0
  ·exact e
  ·rw[if_neg e]at hb;exact absurd hb e
 rw[if_pos hsy]at hb;have hc16:¬16<c:=fun e=>by rw[if_pos e]at hb;simp at hb
 rw[if_neg hc16,if_pos rfl]at hb;have hls:ls.length≠0:=fun e=>by rw[if_pos e]at hb;simp at hb
 unfold iJ at hsy;have hcr:¬(c<1∨256<c):=fun e=>by rw[if_pos e]at hsy;cases hsy
 rw[if_neg hcr]at hsy;have hln:¬128<ls.length:=fun e=>by rw[if_pos e]at hsy;cases hsy
 rw[if_neg hln]at hsy;have hlE:=gZ hsy;refine⟨by omega,by omega,fun i hi=>?_,by omega,by rw[aij];omega,fun x hx=>?_,fun i j hij hj hpos e=>?_⟩
 ·have hL:=hlE i hi
  unfold jh at hL;have hne:¬(ls.getD i []).length=0:=fun e=>by rw[if_pos e]at hL;cases hL
  rw[if_neg hne]at hL;have hst:cO (bR c (ls.getD i [])) (ls.getD i []).length=0:=by
   by_cases e:cO (bR c (ls.getD i [])) (ls.getD i []).length=0
   ·exact e
   ·rw[if_pos e]at hL;exact hL
  have hst:=gZ hst;have hk:∀k,k<(ls.getD i []).length→(0≤(ls.getD i []).getD k 0∧(ls.getD i []).getD k 0<c)∧(0<k→(ls.getD i []).getD (k-1) 0<(ls.getD i []).getD k 0):=fun k hk=>by
   have:=hst k hk;unfold bR at this;have h1:¬((ls.getD i []).getD k 0<0∨c≤(ls.getD i []).getD k 0):=fun e=>by rw[if_pos e]at this;cases this
   rw[if_neg h1]at this;refine⟨by omega,fun h0=>?_⟩
   have h2:¬(0<k∧(ls.getD i []).getD k 0≤(ls.getD i []).getD (k-1) 0):=fun e=>by rw[if_pos e]at this;cases this
   omega
  have hr:∀x∈ls.getD i [],0≤x∧x<c:=fun x hx=>by
   obtain⟨k,h1,rfl⟩:=(bO _ x).1 hx;exact(hk k h1).1
  have hp:=xJ fun k h0 h1=>(hk k h1).2 h0;have:=Gz hp hr (by omega)
  exact⟨by omega,by omega,hr,hp⟩
 ·rw[(List.mem_replicate.1 hx).2];omega
 ·rw[aij]at hj
  rw[afe,List.getElem?_replicate,if_pos hj]at hpos;simp at hpos
theorem rM {c:Int} {ls:List (List Int)} {sum:Int} {gv nv:List Int} (hb:eO c ls=0) (hl:(nv.length:Int)=c) (hn:kM nv=true) (hs: -999999999≤sum∧sum≤999999999) (h:jT gv nv):cK c ls sum gv:=by
 have h0:=GX hb;have hr:=mX hn;have hd:=Rb hn;have hgl:=h.1;refine⟨h0.c1,h0.ll,h0.ln,hs,by omega,fun x hx=>?_,fun i j hij hj hpos e=>?_⟩
 ·have hc:=h0.c1
  obtain⟨i,hi,rfl⟩:=(bO _ x).1 hx;rcases h.2 i (by omega)with e|e
  ·rw[e];omega
  ·have:=hr (nv.getD i 0) (dZ (by omega))
   rw[e];omega
 ·have e1:gv.getD j 0=nv.getD j 0:=by
   rcases h.2 j (by omega)with e'|e'
   ·omega
   ·exact e'
  have e2:gv.getD i 0=nv.getD i 0:=by
   rcases h.2 i (by omega)with e'|e'
   ·omega
   ·exact e'
  rw[e1,e2]at e;have:=aik.1 hd i j (by omega) (by omega) hij
  rw[afe,afe,afj (show i<nv.length by omega),afj (show j<nv.length by omega)]at e
  exact this e
end Go.Eng.YtcechbdgokjmgaaGreatDoor
namespace Go.Eng.YtcechbdgokjmgaaGreatDoor
open Go.Proofs
set_option linter.unusedSimpArgs false
set_option linter.unusedVariables false
set_option maxHeartbeats 0
set_option maxRecDepth 100000
def Ew:LSp:=fun xs objs K=>match xs,objs with
 | [.agg [.int .i64 c,.isl (.rows .i64 ls) .none,.int .i64 sum,.isl (.ints .i64 gv) .none]],[]=>VC ((1≤gv.length∧gv.length≤1000000)∧ls.length≤5000∧∀i,i<ls.length→1≤(ls.getD i []).length∧(ls.getD i []).length≤5000)∧K [.agg [.int .i64 c,.isl (.rows .i64 ls) .none,.int .i64 sum,.rsl 0 0 gv.length]] [.cells (.ints .i64 gv) false]
 |_,_=>False
theorem KG:LOK Tryz.prog 124 Ew:=by
 intro xs objs K hk;unfold Ew at hk;split at hk
 ·exact⟨_,_,hk.2,Jq _ _ _ _ hk.1.get.1 hk.1.get.2.1 hk.1.get.2.2⟩
 ·exact hk.elim
def GY:PSp:=fun xs K=>match xs with
 | [.agg [.int .i64 c,.isl (.rows .i64 ls) .none],.isl (.ints .i64 f) .none]=>VC (bN ls∧f.length≤2000000∧tL c ls f=0∧rD f ls)∧K (.tup [.bp (decide (kC (gL f ls ls.length)<0)),.int .i64 0])
 |_=>False
theorem Um:POK Tryz.prog 122 GY:=by
 intro xs K hk;unfold GY at hk;split at hk
 ·exact⟨_,hk.2,DL _ _ _ hk.1.get.1 hk.1.get.2.1 hk.1.get.2.2.1 hk.1.get.2.2.2⟩
 ·exact hk.elim
def mkS (c:Int) (ls:List (List Int)) (sum:Int) (nv:List Int) (g:Nat) (gv:List Int) (y:Int):List Int:=
 if(sol c ls sum (gv.set y.toNat 0) g).2.2≠0 then(gv.set y.toNat 0).set y.toNat (nv.getD y.toNat 0)else gv.set y.toNat 0
noncomputable def aeE:CPT:=aA 88 (aB jv) (aA 89 (aB gW) (aA 93 (aB Ag) (aA 98 (aB nL) (aA 99 (jM vP) (aA 121 (aB vT) (aA 122 (aB GY) (aA 123 (aB Oc) (aA 124 (fq [] Ew) noC))))))))
theorem mY:aZ Tryz.prog aeE:=aj (au iV) (aj (au jR) (aj (au Gh) (aj (au qV) (aj (gV yP) (aj (au Jt) (aj (au Um) (aj (au Zx) (aj (dH [] KG) aD))))))))
def vU (c:Int) (ls:List (List Int)) (nv:List Int) (g:Int):Int:=aK [eO c ls,fI g,if(nv.length:Int)≠c then 2 else 0]
def GZ (ls:List (List Int)) (nv:List Int):Bool:=decide (kC (gL nv ls ls.length)<0)
def tX (c:Int) (ls:List (List Int)) (nv ov:List Int) (g:Int):(Int × List (List Int) × Int × List Int) × Int:=
 if vU c ls nv g≠0 then((0,[],0,[]),vU c ls nv g)else if(iw nv).2≠0∨(iw nv).1=false then((0,[],0,[]),1)else if GZ ls nv=false then((0,[],0,[]),16)
 else if(ov.length:Int)≠c∨lu 5 ov≠0 then((0,[],0,[]),14)
 else((c,ls,fP nv (ls.getD 0 []) (ls.getD 0 []).length,ov.foldl (mkS c ls (fP nv (ls.getD 0 []) (ls.getD 0 []).length) nv g.toNat) nv),0)
abbrev pzT (p:Int × List (List Int) × Int × List Int):PV:=pzV p.1 p.2.1 p.2.2.1 p.2.2.2
theorem Ar (e:Int):Sup (bG [PV.agg [.int .i64 0,.nils,.int .i64 0,.nils],.int .i64 e]) (.tup [pzT (0,[],0,[]),.int .i64 e]):=by all_goals(refine Sup.via ?_;repeat'((conv=>whnf);first|intro _|apply aI|with_reducible exact vM rfl|exact⟨⟩|apply nM|apply fM);all_goals((try apply vM);(try simp only[vq]at*);try omega);all_goals(try(simp[CL.sub];done)))
theorem Df (c:Int) (ls:List (List Int)) (nv ov:List Int) (g:Int) (h:bN ls) (hn:nv.length≤5000) (ho:ov.length≤5000):
 aF Tryz.prog 53 [.agg [.int .i64 c,.isl (.rows .i64 ls) .none],.isl (.ints .i64 nv) .none,.isl (.ints .i64 ov) .none,.int .i64 g] (.tup [pzT (tX c ls nv ov g).1,.int .i64 (tX c ls nv ov g).2]):=by
 unfold tX;by_cases h1:vU c ls nv g=0
 case neg=>
  rw[if_pos h1];refine bZ (md:=1) (rf:=[]) mixed ak mY Tryz.func53 (by rfl) (by rfl) (by rfl) ?_
  repeat'((conv=>whnf);first|(intro hq;(try simp only[vw]at hq);try first|exact absurd hq (by decide)|exfalso;omega)|apply aI|with_reducible exact vM rfl|exact⟨⟩|apply nM|apply fM)
  all_goals((try apply vM);(try simp only[vq]at*);try omega)
  all_goals first|exact h|exact Ar _|(exfalso;exact ‹¬aK [_,_,_]≠0› h1)|skip
 rw[if_neg (by rw[h1];simp)]
 have hb:eO c ls=0:=by
  by_cases e:eO c ls=0
  ·exact e
  ·exact absurd ((ku [eO c ls,fI g,if(nv.length:Int)≠c then 2 else 0] 0 (by simp) (fun i hi=>absurd hi (ail i)) e).symm.trans h1) e
 by_cases h2:(iw nv).2≠0∨(iw nv).1=false
 ·rw[if_pos h2]
  refine bZ (md:=1) (rf:=[]) mixed ak mY Tryz.func53 (by rfl) (by rfl) (by rfl) ?_
  repeat'((conv=>whnf);first|(intro hq;(try simp only[vw]at hq);try first|exact absurd hq (by decide)|exfalso;omega)|apply aI|with_reducible exact vM rfl|exact⟨⟩|apply nM|apply fM)
  all_goals((try apply vM);(try simp only[vq]at*);try omega)
  all_goals first|exact h|exact Ar _|(exfalso;exact ‹aK [_,_,_]≠0› h1)|omega|(exfalso;rcases h2 with h2|h2<;>simp_all;done)|skip
 rw[if_neg h2];obtain⟨hlc,hnr,hi⟩:(nv.length:Int)=c∧kM nv=true∧iw nv=(true,0):=by
  have a1:(iw nv).2=0:=afV.1 fun e=>h2 (.inl e);have a2:(iw nv).1=true:=by
   cases e:(iw nv).1 with
   |true=>rfl
   |false=>exact absurd (.inr e) h2
  have a3:cfE nv=0:=by
   by_cases e:cfE nv=0
   ·exact e
   ·unfold iw at a1;rw[if_pos e]at a1;exact absurd a1 e
  refine⟨?_,?_,Prod.ext a2 a1⟩
  ·by_cases e:(nv.length:Int)=c
   ·exact e
   ·unfold vU at h1
    rw[if_pos e,hb]at h1;by_cases eg:fI g=0
    ·rw[eg]at h1;simp[aK]at h1
    ·have:=ku [0,fI g,2] 1 (by simp) (fun i hi=>by(have:i=0:=by omega);subst this;rfl) eg
     rw[this]at h1;exact absurd h1 eg
  ·unfold iw at a2;rw[if_neg (by rw[a3];simp)]at a2;exact a2
 have hp:=GX hb;have hfil:bN ls∧nv.length≤2000000∧tL c ls nv=0∧rD nv ls:=by
  have hr:=mX hnr;have hc:=hp.c1;have hN:∀x∈nv,0≤x∧x≤16:=fun x hx=>by have:=hr x hx;omega
  refine⟨h,by omega,?_,⟨hp.ll.1,by have:=hp.ll;omega⟩,fun i hi=>?_⟩
  ·have e1:iJ c ls=0:=by
    by_cases e:iJ c ls=0
    ·exact e
    ·unfold eO at hb
     exact absurd ((ku [iJ c ls,if 16<c then 20 else 0,if ls.length=0 then 12 else 0] 0 (by simp) (fun i hi=>absurd hi (ail i)) e).symm.trans hb) e
   have e2:oG nv=0:=by
    unfold oG;rw[if_neg];intro e;rw[ahC]at e;obtain⟨x,hx,e⟩:=e;have:=hN x hx;unfold jQ at e;simp at e;omega
   unfold tL;rw[e1,e2,if_neg (by omega)];rfl
  ·have hL:=hp.ln i hi
   refine⟨by have:=hL.len;omega,fun x hx=>by have:=hL.rng x hx;omega,fun k hk=>?_⟩
   have:=mV hN ((ls.getD i []).take k);have e:fP nv (ls.getD i []) k=eB nv ((ls.getD i []).take k):=rfl;rw[afR,afJ hk]at this;have:=hL.len;omega
 have hi1:(iw nv).1=true:=by rw[hi]
 have hi2:(iw nv).2=0:=by rw[hi]
 cases h3:GZ ls nv with
 |false=>
  have h3':¬kC (gL nv ls ls.length)<0:=of_decide_eq_false h3;rw[if_pos rfl];refine bZ (md:=1) (rf:=[]) mixed ak mY Tryz.func53 (by rfl) (by rfl) (by rfl) ?_
  repeat'((conv=>whnf);first|(intro hq;(try simp only[vw]at hq);try first|exact absurd hq (by decide)|exfalso;omega)|apply aI|with_reducible exact vM rfl|exact⟨⟩|apply nM|apply fM)
  all_goals((try apply vM);(try simp only[vq]at*);try omega)
  all_goals first|exact h|exact hfil|exact Ar _|(exfalso;exact ‹aK [_,_,_]≠0› h1)|(exfalso;exact h3' (by assumption))|omega|(exfalso;simp_all;done)|skip
 |true=>
  have h3':kC (gL nv ls ls.length)<0:=of_decide_eq_true h3;rw[if_neg (by simp)]
  by_cases h4:(ov.length:Int)≠c∨lu 5 ov≠0
  ·rw[if_pos h4]
   refine bZ (md:=1) (rf:=[]) mixed ak mY Tryz.func53 (by rfl) (by rfl) (by rfl) ?_
   repeat'((conv=>whnf);first|(intro hq;(try simp only[vw]at hq);try first|exact absurd hq (by decide)|exfalso;omega)|apply aI|with_reducible exact vM rfl|exact⟨⟩|apply nM|apply fM)
   all_goals((try apply vM);(try simp only[vq]at*);try omega)
   all_goals first|exact h|exact hfil|exact Ar _|(exfalso;exact ‹aK [_,_,_]≠0› h1)|(exfalso;exact ‹¬kC _<0› h3')|omega|(exfalso;rcases h4 with h4|h4<;>contradiction)|(exfalso;simp_all;done)|skip
  rw[if_neg h4];have h5:(ov.length:Int)=c:=afV.1 fun e=>h4 (.inl e);have h6:lu 5 ov=0:=afV.1 fun e=>h4 (.inr e);have hll:=hp.ll;have hc:=hp.c1;have hcond:(1≤nv.length∧nv.length≤1000000)∧ls.length≤5000∧∀i,i<ls.length→1≤(ls.getD i []).length∧(ls.getD i []).length≤5000:=⟨by omega,by omega,fun i hi=>by have:=hp.ln i hi;have:=this.ne;have:=(hp.ln i hi).len;omega⟩
  refine bZ (md:=1) (rf:=[]) mixed ak mY Tryz.func53 (by rfl) (by rfl) (by rfl) ?_
  repeat'((conv=>whnf);first|(intro hq;(try simp only[vw]at hq);try first|exact absurd hq (by decide)|exfalso;omega)|apply aI|with_reducible exact vM rfl|exact⟨⟩|apply nM|apply fM)
  all_goals((try apply vM);(try simp only[vq]at*);try omega)
  all_goals(try first|exact h|exact hfil|exact hcond|(exfalso;exact ‹aK [_,_,_]≠0› h1)|(exfalso;exact ‹¬kC _<0› h3')|omega|(exfalso;exact ‹lu 5 ov≠0› h6)|(exfalso;simp_all;done))
  conv=>whnf
  refine aL (X:=Nat) (fun k=>k≤(ls.getD 0 []).length) (fun k=>[(84,.int .i64 k)]) (fun k=>[(35,.cells (.pv [.int .i64 c,.isl (.rows .i64 ls) .none,.int .i64 (fP nv (ls.getD 0 []) k),(.rsl 31 0 nv.length)]) false)]) (fun k=>(ls.getD 0 []).length-k) 0 ⟨aJ,mixed,ak,mY,aP⟩ (by rfl) (by omega) ?_ ?_
  ·repeat'((conv=>whnf);first|intro _|apply aI|with_reducible exact vM rfl|exact⟨⟩|apply nM|apply fM)
   all_goals((try apply vM);(try simp only[vq]at*);try omega)
  intro k hk;have hL:=hp.ln 0 (by omega)
  have hN:∀x∈nv,0≤x∧x≤16:=fun x hx=>by have:=mX hnr x hx;omega
  have hsb:=mV hN ((ls.getD 0 []).take k);rw[afR,afJ hk]at hsb;have esb:fP nv (ls.getD 0 []) k=eB nv ((ls.getD 0 []).take k):=rfl;have hLl:=hL.len;by_cases hlt:k<(ls.getD 0 []).length
  ·have hx:=hL.rng ((ls.getD 0 []).getD k 0) (dZ hlt)
   have hv:=hN (nv.getD ((ls.getD 0 []).getD k 0).toNat 0) (dZ (by omega))
   have hsx:=Ac nv (ls.getD 0 []) k hlt
   repeat'((conv=>whnf);first|(intro hq;(try simp only[vw]at hq);try first|exact absurd hq (by decide)|exfalso;omega)|apply aI|with_reducible exact vM rfl|exact⟨⟩|apply nM|apply fM)
   all_goals((try apply vM);(try simp only[vq]at*);try omega)
   all_goals(try simp only[ain]at*)
   all_goals(try omega)
   refine⟨k+1,[],⟨by omega,by omega⟩,?_⟩
   rw[hsx]
   repeat'((conv=>whnf);first|intro _|apply aI|with_reducible exact vM rfl|exact⟨⟩|apply nM|apply fM)
   all_goals((try apply vM);(try simp only[vq]at*);try omega)
   all_goals skip
  have e:k=(ls.getD 0 []).length:=by omega
  subst e
  repeat'((conv=>whnf);first|(intro hq;(try simp only[vw]at hq);try first|exact absurd hq (by decide)|exfalso;omega)|apply aI|with_reducible exact vM rfl|exact⟨⟩|apply nM|apply fM)
  all_goals((try apply vM);(try simp only[vq]at*);try omega)
  all_goals(try simp only[ain]at*)
  all_goals(try(exfalso;omega))
  conv=>whnf
  obtain⟨sm,hsm⟩:∃sm,fP nv (ls.getD 0 []) (ls.getD 0 []).length=sm:=⟨_,rfl⟩;rw[hsm];refine aL (X:=Nat) (fun k=>k≤ov.length) (fun k=>[(99,.int .i64 k)]) (fun k=>[(31,.cells (.ints .i64 ((ov.take k).foldl (mkS c ls sm nv g.toNat) nv)) false)]) (fun k=>ov.length-k) 0 ⟨aJ,mixed,ak,mY,aP⟩ (by rfl) (by omega) ?_ ?_
  ·repeat'((conv=>whnf);first|intro _|apply aI|with_reducible exact vM rfl|exact⟨⟩|apply nM|apply fM)
   all_goals((try apply vM);(try simp only[vq]at*);try omega)
  intro k hk;obtain⟨gk,hgk⟩:∃gk,(ov.take k).foldl (mkS c ls sm nv g.toNat) nv=gk:=⟨_,rfl⟩;have hsub:jT gk nv:=by
   rw[←hgk];clear hgk;generalize ov.take k=l
   have:∀(l:List Int) (v:List Int),jT v nv→jT (l.foldl (mkS c ls sm nv g.toNat) v) nv:=by
    intro l;induction l with
    |nil=>exact fun v h=>h
    |cons y l ih=>
     intro v h;refine ih _ ?_;unfold mkS;split
     ·exact(h.set0 _).set1 _
     ·exact h.set0 _
   exact this l nv (jT.refl nv)
  have hgl:=hsub.1;have hsmb: -999999999≤sm∧sm≤999999999:=by
   have:=mV hN (ls.getD 0 []);have e:fP nv (ls.getD 0 []) (ls.getD 0 []).length=eB nv ((ls.getD 0 []).take (ls.getD 0 []).length):=rfl;rw[ag7]at e;omega
  have hg5:1≤g∧g≤5:=by
   unfold vU at h1;rw[hb]at h1;by_cases eg:fI g=0
   ·unfold fI at eg
    by_cases e:g<1∨5<g
    ·rw[if_pos e]at eg;cases eg
    ·omega
   ·have:=ku [0,fI g,if(nv.length:Int)≠c then 2 else 0] 1 (by simp) (fun i hi=>by(have:i=0:=by omega);subst this;rfl) eg
    rw[this]at h1;exact absurd h1 eg
  by_cases hlk:k<ov.length
  ·have hy:0≤ov.getD k 0∧ov.getD k 0<ov.length:=by
    unfold lu at h6;rw[if_neg (by omega)]at h6
    have:=gZ h6 k hlk;unfold qg at this;by_cases e:ov.getD k 0<0∨ov.length≤ov.getD k 0∨ov.getD k 0∈ov.take k
    ·rw[if_pos e]at this;cases this
    ·omega
   have hnext:(ov.take (k+1)).foldl (mkS c ls sm nv g.toNat) nv=mkS c ls sm nv g.toNat gk (ov.getD k 0):=by
    rw[dR hlk,ahq,hgk];rfl
   have hpz:=rM hb hlc hnr hsmb (hsub.set0 (ov.getD k 0).toNat);have hsl:(gk.set (ov.getD k 0).toNat 0).length=nv.length:=by rw[afE];exact hgl
   have tk:ahH (nv.length-0) (ahI 0 (gk.set (ov.getD k 0).toNat 0))=gk.set (ov.getD k 0).toNat 0:=dh hsl;rw[hgk];cases ho:fT (sol c ls sm (gk.set (ov.getD k 0).toNat 0) g.toNat)with
   |none=>
    have he:(sol c ls sm (gk.set (ov.getD k 0).toNat 0) g.toNat).2.2≠0:=by
     unfold fT at ho;by_cases e:(sol c ls sm (gk.set (ov.getD k 0).toNat 0) g.toNat).2.2=21
     ·rw[e];decide
     ·rw[if_neg e]at ho;cases ho
    have hst:mkS c ls sm nv g.toNat gk (ov.getD k 0)=(gk.set (ov.getD k 0).toNat 0).set (ov.getD k 0).toNat (nv.getD (ov.getD k 0).toNat 0):=by unfold mkS;rw[if_pos he]
    repeat'((conv=>whnf);first|refine Exists.intro (none) ?_|(intro hq;(try simp only[vw]at hq);try first|exact absurd hq (by decide)|exfalso;omega)|apply aI|with_reducible exact vM rfl|exact⟨⟩|apply nM|apply fM)
    all_goals((try apply vM);(try simp only[vq]at*);try omega)
    all_goals(try first|omega|exact⟨by rw[tk];exact hpz,by omega,by rw[tk];exact ho⟩)
    refine⟨k+1,[],⟨by omega,by omega⟩,?_⟩
    rw[hnext,hst]
    repeat'((conv=>whnf);first|intro _|apply aI|with_reducible exact vM rfl|exact⟨⟩|apply nM|apply fM)
    all_goals((try apply vM);(try simp only[vq]at*);try omega)
   |some r=>
    have hr:sol c ls sm (gk.set (ov.getD k 0).toNat 0) g.toNat=r:=by
     unfold fT at ho;by_cases e:(sol c ls sm (gk.set (ov.getD k 0).toNat 0) g.toNat).2.2=21
     ·rw[if_pos e]at ho;cases ho
     ·rw[if_neg e]at ho;exact Option.some.inj ho
    have hs1:r.2.2≠0→mkS c ls sm nv g.toNat gk (ov.getD k 0)=(gk.set (ov.getD k 0).toNat 0).set (ov.getD k 0).toNat (nv.getD (ov.getD k 0).toNat 0):=fun e=>by unfold mkS;rw[hr,if_pos e]
    have hs0:¬r.2.2≠0→mkS c ls sm nv g.toNat gk (ov.getD k 0)=gk.set (ov.getD k 0).toNat 0:=fun e=>by unfold mkS;rw[hr,if_neg e]
    repeat'((conv=>whnf);first|refine Exists.intro (some r) ?_|(intro hq;(try simp only[vw]at hq);try first|exact absurd hq (by decide)|exfalso;omega)|apply aI|with_reducible exact vM rfl|exact⟨⟩|apply nM|apply fM)
    all_goals((try apply vM);(try simp only[vq]at*);try omega)
    all_goals(try first|omega|exact⟨by rw[tk];exact hpz,by omega,by rw[tk];exact ho⟩)
    ·refine⟨k+1,[],⟨by omega,by omega⟩,?_⟩
     rw[hnext,hs1 (by assumption)]
     repeat'((conv=>whnf);first|intro _|apply aI|with_reducible exact vM rfl|exact⟨⟩|apply nM|apply fM)
     all_goals((try apply vM);(try simp only[vq]at*);try omega)
    ·refine⟨k+1,[],⟨by omega,by omega⟩,?_⟩
     rw[hnext,hs0 (by assumption)]
     repeat'((conv=>whnf);first|intro _|apply aI|with_reducible exact vM rfl|exact⟨⟩|apply nM|apply fM)
     all_goals((try apply vM);(try simp only[vq]at*);try omega)
  have e:k=ov.length:=by omega
  subst e;rw[ag7]at hgk⊢;rw[hgk];have s2:(CL.ints .i64 gk).sub 0 nv.length=.ints .i64 gk:=congrArg (CL.ints .i64) (dh hgl)
  repeat'((conv=>whnf);first|(intro hq;(try simp only[vw]at hq);try first|exact absurd hq (by decide)|exfalso;omega)|apply aI|with_reducible exact vM rfl|exact⟨⟩|apply nM|apply fM)
  all_goals((try apply vM);(try simp only[vq]at*);try omega)
  rw[s2];exact Sup.of rfl
end Go.Eng.YtcechbdgokjmgaaGreatDoor
namespace Go.Eng.YtcechbdgokjmgaaGreatDoor
open Go.Proofs Go.RowKit
set_option linter.unusedSimpArgs false
set_option linter.unusedVariables false
set_option maxHeartbeats 0
set_option maxRecDepth 100000
theorem KH {s w:ByteArray} {l:List Int} (h:bX s w=some l):l.length≤s.size:=by
 unfold bX at h;split at h
 ·obtain rfl:=Option.some.inj h
  unfold numsL;rw[ag3,List.length_drop];have:=yL 32 s;omega
 ·cases h
structure Un (r:Rd) (n:Nat):Prop where
 ln:r.line=n
 ll:r.L.length≤n
 rw:∀x∈r.L,x.length≤5000
 gl:r.gv.length≤5000
theorem ZM {r:Rd} {n:Nat} {s:ByteArray} (h:Un r n) (hs:s.size≤4096):Un (nxt r s).2 (n+1):=by
 have h1:=h.ln;have h2:=h.ll;have h3:=h.rw;have h4:=h.gl;unfold nxt
 repeat' split
 all_goals refine⟨by simp only;omega,?_,?_,?_⟩
 all_goals simp only
 all_goals first|exact h3|exact h4|omega|(rw[agl,aeZ,aeV];omega)|(simp;done)|skip
 ·intro x hx
  rcases aff.1 hx with hx|hx
  ·exact h3 _ hx
  ·obtain rfl:=ahL.1 hx
   have:=KH ‹bX s Et=some _›;omega
 ·have:=KH ‹bX s vK=some _›
  omega
noncomputable def rdG:Rd→List ByteArray→Rd × Bool
 |r,[]=>(r,true)
 |r,x::t=>if(nxt r x).1=true then rdG (nxt r x).2 t else((nxt r x).2,false)
def rd0:Rd:=⟨0,[],0,[],0,false⟩
abbrev kNl:ByteArray:=⟨#[10]⟩
def vV (s:ByteArray):Int:=aK [if 4096<(s.size:Int)then 25 else 0,if F4 s kNl=false then 27 else 0]
noncomputable def iO (s:ByteArray):Rd × Bool:=rdG rd0 (dF 10 (jB s kNl))
noncomputable def Oo (s:ByteArray):(Int × List (List Int) × Int × List Int) × Int × Int:=
 if vV s≠0 then((0,[],0,[]),0,vV s)
 else if(iO s).2=false then((0,[],0,[]),(iO s).1.line,24)
 else if(iO s).1.done=false then((0,[],0,[]),(iO s).1.line+1,24)
 else if pzE (iO s).1.c (iO s).1.L (iO s).1.sum (iO s).1.gv≠0 then((0,[],0,[]),0,pzE (iO s).1.c (iO s).1.L (iO s).1.sum (iO s).1.gv)
 else(((iO s).1.c,(iO s).1.L,(iO s).1.sum,(iO s).1.gv),0,0)
noncomputable def adq:CPT:=aA 22 (aB lV) (aA 88 (aB jv) (aA 89 (aB gW) (aA 112 (aB SG) (aA 113 (aB z8) (aA 114 (aB SI) (aA 115 (fq [] TH) noC))))))
theorem yS:aZ Tryz.prog adq:=aj (au lq) (aj (au iV) (aj (au jR) (aj (au abR) (aj (au F3) (aj (au abS) (aj (dH [] ab9) aD))))))
def acs (r:(Int × List (List Int) × Int × List Int) × Int × Int):PV:=.tup [pzT r.1,.int .i64 r.2.1,.int .i64 r.2.2]
theorem Au (a b:Int):Sup (bG [PV.agg [.int .i64 0,.nils,.int .i64 0,.nils],.int .i64 a,.int .i64 b]) (acs ((0,[],0,[]),a,b)):=by all_goals(refine Sup.via ?_;repeat'((conv=>whnf);first|intro _|apply aI|with_reducible exact vM rfl|exact⟨⟩|apply nM|apply fM);all_goals((try apply vM);(try simp only[vq]at*);try omega);all_goals(try(simp[CL.sub];done)))
theorem Rf (s:ByteArray) (hs:s.size≤1000000):aF Tryz.prog 44 [.str s] (acs (Oo s)):=by
 have hx:aK [if decide (4096<(s.size:Int))=true then 25 else 0,if(!F4 s ⟨#[10]⟩)=true then 27 else 0]=vV s:=by unfold vV;simp
 have htr:(jB s kNl).size≤s.size:=by
  have e3:(jB s kNl).size=(Go.Lib.trimSuffix s.data.toList kNl.data.toList).length:=by
   show(List.toArray _).size=_;rw[List.size_toArray]
  have e1:s.size=s.data.toList.length:=by rw[afD];rfl
  rw[e3,e1];unfold Go.Lib.trimSuffix;split
  ·rw[afR];omega
  ·omega
 unfold Oo;by_cases he:vV s=0
 case neg=>
  rw[if_pos he];have he2:=he;unfold vV at he2;refine bZ (md:=1) (rf:=[]) mixed ak yS Tryz.func44 (by rfl) (by rfl) (by rfl) ?_
  repeat'((conv=>whnf);first|refine Exists.intro (10) ?_|(intro hq;(try simp only[vw]at hq);try first|exact absurd hq (by decide)|exfalso;omega)|apply aI|with_reducible exact vM rfl|exact⟨⟩|apply nM|apply fM)
  all_goals try refine VC.mk ?_
  all_goals first|omega|(exfalso;exact hq he2)|(exfalso;exact ‹¬aK [_,_]≠0› he2)|(rw[←hx];exact Au _ _)|(simp;done)|skip
 rw[if_neg (by rw[he];simp)]
 have he2:=he;unfold vV at he2;have h4:s.size≤4096:=by
  by_cases e:4096<(s.size:Int)
  ·rw[if_pos e]at he2;cases h:F4 s kNl<;>simp[aK,h]at he2
  ·omega
 refine bZ (md:=1) (rf:=[]) mixed ak yS Tryz.func44 (by rfl) (by rfl) (by rfl) ?_
 repeat'((conv=>whnf);first|refine Exists.intro (10) ?_|(intro hq;(try simp only[vw]at hq);try first|exact absurd hq (by decide)|exfalso;omega)|apply aI|with_reducible exact vM rfl|exact⟨⟩|apply nM|apply fM)
 all_goals try refine VC.mk ?_
 all_goals(try first|omega|(exfalso;exact hq he2)|(simp;done)|(refine And.intro rfl ?_;show(jB s kNl).size<_;omega))
 conv=>whnf
 have hG:iO s=rdG rd0 (dF 10 (jB s kNl)):=rfl;have hln:=yL 10 (jB s kNl);have hsz:∀j,j<(dF 10 (jB s kNl)).length→((dF 10 (jB s kNl)).getD j .empty).size≤4096:=fun j hj=>by
  have:=CY (vJ hj);omega
 generalize dF 10 (jB s kNl)=W at hG hln hsz⊢
 refine aL (X:=Nat × Rd) (fun x=>x.1≤W.length∧Un x.2 x.1∧iO s=rdG x.2 (W.drop x.1)) (fun x=>[(28,.int .i64 x.1)]) (fun x=>[(18,.cells (.pv [.int .i64 x.2.c,.isl (.rows .i64 x.2.L) (.own 22),.int .i64 x.2.sum,.isl (.ints .i64 x.2.gv) .none,.int .i64 x.2.line,.bp x.2.done]) false),(22,.tok 1 x.2.L.length)]) (fun x=>W.length-x.1) (0,rd0) ⟨aJ,mixed,ak,yS,aP⟩ (by rfl) ⟨by omega,⟨rfl,ae3 0,fun x hx=>absurd hx (by simp[rd0]),by simp[rd0]⟩,hG⟩ ?_ ?_
 ·repeat'((conv=>whnf);first|intro _|apply aI|with_reducible exact vM rfl|exact⟨⟩|apply nM|apply fM)
  all_goals((try apply vM);(try simp only[vq]at*);try omega)
  all_goals skip
 rintro⟨i,r⟩ ⟨hi,hr,hT⟩
 simp only at hi hr hT;by_cases hlt:i<W.length
 ·have hsi:=hsz i hlt
  have hd:W.drop i=W.getD i .empty::W.drop (i+1):=by rw[afe,afj hlt];simp
  have hr1:=hr.ln;have hr2:=hr.ll;have hok:=ZM hr hsi;rw[hd]at hT;unfold rdG at hT
  repeat'((conv=>whnf);first|refine Exists.intro (10) ?_|(intro hq;(try simp only[vw]at hq);try first|exact absurd hq (by decide)|exfalso;omega)|apply aI|with_reducible exact vM rfl|exact⟨⟩|apply nM|apply fM)
  all_goals((try apply vM);(try simp only[vq]at*);try omega)
  ·have hq:(nxt r (W.getD i .empty)).1=false:=hq
   rw[if_neg (by rw[hq];simp)]at hT
   rw[hT];exact Au _ _
  have hq:(nxt r (W.getD i .empty)).1=true:=hq;rw[if_pos hq]at hT;refine⟨(i+1,(nxt r (W.getD i .empty)).2),[],⟨⟨by simp only;omega,hok,hT⟩,by simp only;omega⟩,?_⟩
  repeat'((conv=>whnf);first|refine Exists.intro (10) ?_|(intro hq;(try simp only[vw]at hq);try first|exact absurd hq (by decide)|exfalso;omega)|apply aI|with_reducible exact vM rfl|exact⟨⟩|apply nM|apply fM)
  all_goals((try apply vM);(try simp only[vq]at*);try omega)
  all_goals skip
 have e:i=W.length:=by omega
 subst e;have hT2:iO s=(r,true):=by rw[hT,List.drop_length];rfl
 have hr1:=hr.ln;have hr2:=hr.ll;have hLN:bN r.L:=⟨by omega,hr.rw⟩
 have hgl:=hr.gl;rw[hT2]
 repeat'((conv=>whnf);first|refine Exists.intro (10) ?_|(intro hq;(try simp only[vw]at hq);try first|exact absurd hq (by decide)|exfalso;omega)|apply aI|with_reducible exact vM rfl|exact⟨⟩|apply nM|apply fM)
 all_goals((try apply vM);(try simp only[vq]at*);try omega)
 all_goals(try omega)
 ·rw[if_neg (by simp),if_pos hq]
  exact Au _ _
 ·exact⟨hLN,hgl⟩
 ·rename_i hd
  rw[if_neg (by simp),if_neg (by simp only[hd];simp),if_pos hq]
  exact Au _ _
 ·rename_i hd
  rw[if_neg (by simp),if_neg (by simp only[hd];simp),if_neg hq]
  exact Sup.of rfl
end Go.Eng.YtcechbdgokjmgaaGreatDoor
namespace Go.Eng.YtcechbdgokjmgaaGreatDoor
open Go.Proofs
set_option linter.unusedSimpArgs false
set_option linter.unusedVariables false
set_option maxHeartbeats 0
set_option maxRecDepth 100000
abbrev lZ:ByteArray:=⟨#[99,101,108,108]⟩
abbrev sIs:ByteArray:=⟨#[105,115]⟩
abbrev G5:ByteArray:=⟨#[110,111,116]⟩
abbrev sBy:ByteArray:=⟨#[98,121]⟩
abbrev BO:ByteArray:=⟨#[111,110,32,108,105,110,101]⟩
def exW (g:Int) (r:ByteArray) (y x k:Int):List ByteArray:=
 [lZ,itB y,sIs]++(if g≤3 then []else [G5])++[itB x,sBy,r]++(if 0≤k then [BO,itB k]else [])
def Oq (c:Int) (ls:List (List Int)) (sum:Int) (gv:List Int) (r:ByteArray) (y x k:Int):ByteArray × Int:=
 if pzE c ls sum gv≠0 then(tN,pzE c ls sum gv)else if fJ c ls r y x k≠0 then(tN,fJ c ls r y x k)else(joB (exW (bF r) r y x k) kBl,0)
noncomputable def aeF:CPT:=aA 22 (aB lV) (aA 101 (aB oQ) (aA 107 (aB zX) (aA 126 (aB TJ) (aA 129 (aB Ej) (aA 130 (aB pW) noC)))))
theorem gQ:aZ Tryz.prog aeF:=aj (au lq) (aj (au qJ) (aj (au FY) (aj (au acd) (aj (au JW) (aj (au pX) aD)))))
theorem vW {g:Int} {r:ByteArray} {y x k:Int} (hy:nT y) (hx:nT x) (hk:nT k) (hr:r.size≤6):Sz (exW g r y x k) 1000000:=by
 have h1:=pO hy;have h2:=pO hx;have h3:=pO hk;refine⟨?_,fun w hw=>?_⟩
 ·unfold exW;split<;>split<;>simp
 ·unfold exW at hw
  simp only[aff,agv,List.not_mem_nil,or_false]at hw;rcases hw with((((rfl|rfl|rfl)|hw)|(rfl|rfl|rfl))|hw)
  ·decide
  ·omega
  ·decide
  ·split at hw
   ·simp at hw
   ·simp at hw;subst hw;decide
  ·omega
  ·decide
  ·omega
  ·split at hw
   ·simp at hw
    rcases hw with rfl|rfl
    ·decide
    ·omega
   ·simp at hw
theorem G6 (c:Int) (ls:List (List Int)) (sum:Int) (gv:List Int) (h:bN ls) (hg:gv.length≤5000) (r:ByteArray) (y x k:Int):
 aF Tryz.prog 63 [pzV c ls sum gv,ddV r y x k] (.tup [.str (Oq c ls sum gv r y x k).1,.int .i64 (Oq c ls sum gv r y x k).2]):=by
 unfold Oq;by_cases he:pzE c ls sum gv=0
 case neg=>
  rw[if_pos he];refine av (md:=1) (rf:=[]) mixed ak gQ Tryz.func63 (by rfl) (by rfl) (by rfl) ?_
  repeat'((conv=>whnf);first|(intro hq;(try simp only[vw]at hq);try first|exact absurd hq (by decide)|exfalso;omega)|apply aI|with_reducible exact vM rfl|exact⟨⟩|apply nM|apply fM)
  all_goals((try apply vM);(try simp only[vq]at*);try omega)
  all_goals first|exact⟨h,hg⟩|exact h|exact Sup.of rfl|(exfalso;exact he (by assumption))|(exfalso;contradiction)|skip
 rw[if_neg (by rw[he];simp)]
 by_cases hd:fJ c ls r y x k=0
 case neg=>
  rw[if_pos hd];refine av (md:=1) (rf:=[]) mixed ak gQ Tryz.func63 (by rfl) (by rfl) (by rfl) ?_
  repeat'((conv=>whnf);first|(intro hq;(try simp only[vw]at hq);try first|exact absurd hq (by decide)|exfalso;omega)|apply aI|with_reducible exact vM rfl|exact⟨⟩|apply nM|apply fM)
  all_goals((try apply vM);(try simp only[vq]at*);try omega)
  all_goals first|exact⟨h,hg⟩|exact h|exact Sup.of rfl|(exfalso;exact hd (by assumption))|(exfalso;contradiction)|skip
 rw[if_neg (by rw[hd];simp)]
 have hp:=cK.of he;have hc:=hp.c1;have hll:=hp.ll;have ho:=Bw.of hd;have hy:=ho.y;have hx:=ho.x;have hte:=zW;have hk:k= -1∨(0≤k∧k<128):=by
  unfold fJ at hd;by_cases h1:bF r=0
  ·rw[if_pos h1]at hd;cases hd
  rw[if_neg h1]at hd;by_cases h2:y<0∨c≤y
  ·rw[if_pos h2]at hd;cases hd
  rw[if_neg h2]at hd;by_cases h3:x<1∨c<x
  ·rw[if_pos h3]at hd;cases hd
  rw[if_neg h3]at hd;by_cases h4:bF r=2∨bF r=3
  ·rw[if_pos h4]at hd
   by_cases h5:k= -1
   ·exact .inl h5
   ·rw[if_pos h5]at hd;cases hd
  ·rw[if_neg h4]at hd
   by_cases h5:k<0∨ls.length≤k∨y∉ls.getD k.toNat []
   ·rw[if_pos h5]at hd;cases hd
   ·have h6:¬k<0:=fun e=>h5 (.inl e)
    have h7:¬(ls.length:Int)≤k:=fun e=>h5 (.inr (.inl e));omega
 have b1:nT y:=⟨by omega,by omega⟩
 have b2:nT x:=⟨by omega,by omega⟩
 have b3:nT k:=⟨by omega,by omega⟩
 obtain⟨rfl,hg'⟩|⟨rfl,hg'⟩|⟨rfl,hg'⟩|⟨rfl,hg'⟩|⟨rfl,hg'⟩|hg':=tQ r
 ·rw[hg']
  have hw:=vW (g:=1) (r:=bJ) (k:=k) b1 b2 b3 (by decide)
  rcases hk with hk0|hk0
  ·have e:exW 1 bJ y x k=([lZ,itB y,sIs]++[itB x,sBy,bJ]):=by unfold exW;rw[if_pos (show(1:Int)≤3 by decide),if_neg (show¬(0:Int)≤k by omega),ag0];(try rfl)
   rw[e]at hw⊢;refine av (md:=1) (rf:=[]) mixed ak gQ Tryz.func63 (by rfl) (by rfl) (by rfl) ?_
   repeat'((conv=>whnf);first|refine Exists.intro (1) ?_|(intro hq;(try simp only[vw]at hq);try first|exact absurd hq (by decide)|exfalso;omega)|apply aI|with_reducible exact vM rfl|exact⟨⟩|apply nM|apply fM)
   all_goals((try apply vM);(try simp only[vq]at*);try omega)
   all_goals first|exact⟨h,hg⟩|exact h|exact hg'|exact hd|exact he|exact b1|exact b2|exact b3|(rw[hte];decide)|exact hw|(simp;done)|(exfalso;contradiction)|(exfalso;omega)|exact Sup.of rfl|skip
  ·have e:exW 1 bJ y x k=([lZ,itB y,sIs]++[itB x,sBy,bJ])++[BO,itB k]:=by unfold exW;rw[if_pos (show(1:Int)≤3 by decide),if_pos (show(0:Int)≤k by omega)];(try rfl)
   rw[e]at hw⊢;refine av (md:=1) (rf:=[]) mixed ak gQ Tryz.func63 (by rfl) (by rfl) (by rfl) ?_
   repeat'((conv=>whnf);first|refine Exists.intro (1) ?_|(intro hq;(try simp only[vw]at hq);try first|exact absurd hq (by decide)|exfalso;omega)|apply aI|with_reducible exact vM rfl|exact⟨⟩|apply nM|apply fM)
   all_goals((try apply vM);(try simp only[vq]at*);try omega)
   all_goals first|exact⟨h,hg⟩|exact h|exact hg'|exact hd|exact he|exact b1|exact b2|exact b3|(rw[hte];decide)|exact hw|(simp;done)|(exfalso;contradiction)|(exfalso;omega)|exact Sup.of rfl|skip
 ·rw[hg']
  have hw:=vW (g:=2) (r:=bS) (k:=k) b1 b2 b3 (by decide)
  rcases hk with hk0|hk0
  ·have e:exW 2 bS y x k=([lZ,itB y,sIs]++[itB x,sBy,bS]):=by unfold exW;rw[if_pos (show(2:Int)≤3 by decide),if_neg (show¬(0:Int)≤k by omega),ag0];(try rfl)
   rw[e]at hw⊢;refine av (md:=1) (rf:=[]) mixed ak gQ Tryz.func63 (by rfl) (by rfl) (by rfl) ?_
   repeat'((conv=>whnf);first|refine Exists.intro (2) ?_|(intro hq;(try simp only[vw]at hq);try first|exact absurd hq (by decide)|exfalso;omega)|apply aI|with_reducible exact vM rfl|exact⟨⟩|apply nM|apply fM)
   all_goals((try apply vM);(try simp only[vq]at*);try omega)
   all_goals first|exact⟨h,hg⟩|exact h|exact hg'|exact hd|exact he|exact b1|exact b2|exact b3|(rw[hte];decide)|exact hw|(simp;done)|(exfalso;contradiction)|(exfalso;omega)|exact Sup.of rfl|skip
  ·have e:exW 2 bS y x k=([lZ,itB y,sIs]++[itB x,sBy,bS])++[BO,itB k]:=by unfold exW;rw[if_pos (show(2:Int)≤3 by decide),if_pos (show(0:Int)≤k by omega)];(try rfl)
   rw[e]at hw⊢;refine av (md:=1) (rf:=[]) mixed ak gQ Tryz.func63 (by rfl) (by rfl) (by rfl) ?_
   repeat'((conv=>whnf);first|refine Exists.intro (2) ?_|(intro hq;(try simp only[vw]at hq);try first|exact absurd hq (by decide)|exfalso;omega)|apply aI|with_reducible exact vM rfl|exact⟨⟩|apply nM|apply fM)
   all_goals((try apply vM);(try simp only[vq]at*);try omega)
   all_goals first|exact⟨h,hg⟩|exact h|exact hg'|exact hd|exact he|exact b1|exact b2|exact b3|(rw[hte];decide)|exact hw|(simp;done)|(exfalso;contradiction)|(exfalso;omega)|exact Sup.of rfl|skip
 ·rw[hg']
  have hw:=vW (g:=3) (r:=bT) (k:=k) b1 b2 b3 (by decide)
  rcases hk with hk0|hk0
  ·have e:exW 3 bT y x k=([lZ,itB y,sIs]++[itB x,sBy,bT]):=by unfold exW;rw[if_pos (show(3:Int)≤3 by decide),if_neg (show¬(0:Int)≤k by omega),ag0];(try rfl)
   rw[e]at hw⊢;refine av (md:=1) (rf:=[]) mixed ak gQ Tryz.func63 (by rfl) (by rfl) (by rfl) ?_
   repeat'((conv=>whnf);first|refine Exists.intro (3) ?_|(intro hq;(try simp only[vw]at hq);try first|exact absurd hq (by decide)|exfalso;omega)|apply aI|with_reducible exact vM rfl|exact⟨⟩|apply nM|apply fM)
   all_goals((try apply vM);(try simp only[vq]at*);try omega)
   all_goals first|exact⟨h,hg⟩|exact h|exact hg'|exact hd|exact he|exact b1|exact b2|exact b3|(rw[hte];decide)|exact hw|(simp;done)|(exfalso;contradiction)|(exfalso;omega)|exact Sup.of rfl|skip
  ·have e:exW 3 bT y x k=([lZ,itB y,sIs]++[itB x,sBy,bT])++[BO,itB k]:=by unfold exW;rw[if_pos (show(3:Int)≤3 by decide),if_pos (show(0:Int)≤k by omega)];(try rfl)
   rw[e]at hw⊢;refine av (md:=1) (rf:=[]) mixed ak gQ Tryz.func63 (by rfl) (by rfl) (by rfl) ?_
   repeat'((conv=>whnf);first|refine Exists.intro (3) ?_|(intro hq;(try simp only[vw]at hq);try first|exact absurd hq (by decide)|exfalso;omega)|apply aI|with_reducible exact vM rfl|exact⟨⟩|apply nM|apply fM)
   all_goals((try apply vM);(try simp only[vq]at*);try omega)
   all_goals first|exact⟨h,hg⟩|exact h|exact hg'|exact hd|exact he|exact b1|exact b2|exact b3|(rw[hte];decide)|exact hw|(simp;done)|(exfalso;contradiction)|(exfalso;omega)|exact Sup.of rfl|skip
 ·rw[hg']
  have hw:=vW (g:=4) (r:=bP) (k:=k) b1 b2 b3 (by decide)
  rcases hk with hk0|hk0
  ·have e:exW 4 bP y x k=([lZ,itB y,sIs]++[G5]++[itB x,sBy,bP]):=by unfold exW;rw[if_neg (show¬(4:Int)≤3 by decide),if_neg (show¬(0:Int)≤k by omega),ag0];(try rfl)
   rw[e]at hw⊢;refine av (md:=1) (rf:=[]) mixed ak gQ Tryz.func63 (by rfl) (by rfl) (by rfl) ?_
   repeat'((conv=>whnf);first|refine Exists.intro (4) ?_|(intro hq;(try simp only[vw]at hq);try first|exact absurd hq (by decide)|exfalso;omega)|apply aI|with_reducible exact vM rfl|exact⟨⟩|apply nM|apply fM)
   all_goals((try apply vM);(try simp only[vq]at*);try omega)
   all_goals first|exact⟨h,hg⟩|exact h|exact hg'|exact hd|exact he|exact b1|exact b2|exact b3|(rw[hte];decide)|exact hw|(simp;done)|(exfalso;contradiction)|(exfalso;omega)|exact Sup.of rfl|skip
  ·have e:exW 4 bP y x k=([lZ,itB y,sIs]++[G5]++[itB x,sBy,bP])++[BO,itB k]:=by unfold exW;rw[if_neg (show¬(4:Int)≤3 by decide),if_pos (show(0:Int)≤k by omega)];(try rfl)
   rw[e]at hw⊢;refine av (md:=1) (rf:=[]) mixed ak gQ Tryz.func63 (by rfl) (by rfl) (by rfl) ?_
   repeat'((conv=>whnf);first|refine Exists.intro (4) ?_|(intro hq;(try simp only[vw]at hq);try first|exact absurd hq (by decide)|exfalso;omega)|apply aI|with_reducible exact vM rfl|exact⟨⟩|apply nM|apply fM)
   all_goals((try apply vM);(try simp only[vq]at*);try omega)
   all_goals first|exact⟨h,hg⟩|exact h|exact hg'|exact hd|exact he|exact b1|exact b2|exact b3|(rw[hte];decide)|exact hw|(simp;done)|(exfalso;contradiction)|(exfalso;omega)|exact Sup.of rfl|skip
 ·rw[hg']
  have hw:=vW (g:=5) (r:=bQ) (k:=k) b1 b2 b3 (by decide)
  rcases hk with hk0|hk0
  ·have e:exW 5 bQ y x k=([lZ,itB y,sIs]++[G5]++[itB x,sBy,bQ]):=by unfold exW;rw[if_neg (show¬(5:Int)≤3 by decide),if_neg (show¬(0:Int)≤k by omega),ag0];(try rfl)
   rw[e]at hw⊢;refine av (md:=1) (rf:=[]) mixed ak gQ Tryz.func63 (by rfl) (by rfl) (by rfl) ?_
   repeat'((conv=>whnf);first|refine Exists.intro (5) ?_|(intro hq;(try simp only[vw]at hq);try first|exact absurd hq (by decide)|exfalso;omega)|apply aI|with_reducible exact vM rfl|exact⟨⟩|apply nM|apply fM)
   all_goals((try apply vM);(try simp only[vq]at*);try omega)
   all_goals first|exact⟨h,hg⟩|exact h|exact hg'|exact hd|exact he|exact b1|exact b2|exact b3|(rw[hte];decide)|exact hw|(simp;done)|(exfalso;contradiction)|(exfalso;omega)|exact Sup.of rfl|skip
  ·have e:exW 5 bQ y x k=([lZ,itB y,sIs]++[G5]++[itB x,sBy,bQ])++[BO,itB k]:=by unfold exW;rw[if_neg (show¬(5:Int)≤3 by decide),if_pos (show(0:Int)≤k by omega)];(try rfl)
   rw[e]at hw⊢;refine av (md:=1) (rf:=[]) mixed ak gQ Tryz.func63 (by rfl) (by rfl) (by rfl) ?_
   repeat'((conv=>whnf);first|refine Exists.intro (5) ?_|(intro hq;(try simp only[vw]at hq);try first|exact absurd hq (by decide)|exfalso;omega)|apply aI|with_reducible exact vM rfl|exact⟨⟩|apply nM|apply fM)
   all_goals((try apply vM);(try simp only[vq]at*);try omega)
   all_goals first|exact⟨h,hg⟩|exact h|exact hg'|exact hd|exact he|exact b1|exact b2|exact b3|(rw[hte];decide)|exact hw|(simp;done)|(exfalso;contradiction)|(exfalso;omega)|exact Sup.of rfl|skip
 have:=ho.g;omega
end Go.Eng.YtcechbdgokjmgaaGreatDoor
namespace Go.Eng
open Go.Proofs Go.Shelf Go.RowKit
set_option linter.unusedSimpArgs false
set_option linter.unusedVariables false
theorem w9 {P:Program} {w:World} {ops:Array Oper} {rest:List Oper} {o:Oper} {a:Act} {Q:Exit→Act→World→Prop} (hgd:o.guard=none) (sl x:Operand) (t u:TypeId)
 (ho:o.op=.call {callee:=.builtin .append,args:= #[sl,x],argTypes:= #[t,u]})
 (e:TypeId) (i:TypeInfo) (ht:P.underlying t=some (.slice e)) (hu:P.underlying u=some .string) (hi:P.info? e=some i) (hz:i.zero=some (.int .u8 0)) (hsize:i.size=1) (hby:i.bytes=1)
 (v:Value) (n:Nat) (xs:List Value) (hs:a.eval sl=v) (hown:w.ownsRowF 0 e 1 v n xs) (s:ByteArray) (hx:a.eval x=.string s) (h63:n+s.size≤maxLen) (hbytes:n+s.size≤140737488355328)
 (h:∀v' w',w'.ownsRowF 0 e 1 v' (n+s.size) (xs++Lib.strCells s)→w.grownBy w' v.ownBlock→(∀b,b<w.heap.size→bsz w' b=bsz w b)→(∀g,v'.ownBlock=some g→v.ownBlock=some g∨w.heap.size≤g)→wpList P ops Q rest (a.put o.dst v') w'):
 wpList P ops Q (o::rest) a w:=by
 refine wpList_plain hgd fun K hK=>?_;obtain⟨v',w',hr,h2,h3,h4,h5⟩:=MQ (P:=P) w t u o.type e i ht hu hi hz hsize hby v n xs hown s h63 hbytes;unfold Oper.wp execOp;simp only[ho,resolve,invoke,builtin,Sem.run_bind,Sem.run_pure,Result.andThen_ok,List.map_toArray,List.map_cons,List.map_nil,hs,hx,hr];exact hK _ _ (h v' w' h2 h3 h4 h5)
theorem xK (w:World) (a:Addr) (x:Value) (b:Nat):bsz (w.setCell a x) b=bsz w b:=by
 unfold bsz World.setCell;rw[ae9];by_cases e:a.block=b
 ·rw[if_pos e]
  cases w.heap[b]? with
  |none=>rfl
  |some o=>
   cases o with
   |cells c t f=>simp only[Option.map_some];split<;>simp
   |_=>rfl
 ·rw[if_neg e]
theorem G7 (a b:ByteArray):Lib.strCells a++Lib.strCells b=Lib.strCells (a++b):=by
 unfold Lib.strCells;rw[←ag6];congr 1
theorem Rh {P:Program} {ρ:Ren} (L:Lays.n240 P ρ) (X:Builder.X72 P ρ) (b:Nat) (p v:Value) (w:World) (hbk:w.heap[b]? =some (.cells #[p,v] (ρ.t 72) (0,0))) (hp:p=.pointer none∨p=.pointer (some ⟨b,0,none⟩)):
 Calls P (ρ.f 240) #[.pointer (some ⟨b,0,none⟩)] w fun e w'=>e=.returned (.tuple #[])∧w'.heap[b]? =some (.cells #[.pointer (some ⟨b,0,none⟩),v] (ρ.t 72) (0,0))∧w'.os=w.os∧w'.tape=w.tape∧w'.output=w.output∧w'.heap.size=w.heap.size∧
  (∀b',b'≠b→w'.heap[b']? =w.heap[b']?)∧∀b',bsz w' b'=bsz w b':=by
 rcases hp with rfl|rfl
 ·refine(Any.Builder_copyCheck_fresh L X b w (by rw[Lib.cell_of_heap hbk];rfl) (by simp[World.shape?,hbk]) (Lib.frozen_of_heap hbk 0)).mono ?_
  rintro e w' ⟨rfl,rfl⟩
  exact⟨rfl,by simp[World.setCell,ae9,hbk],rfl,rfl,rfl,by simp[World.setCell],fun b' hb'=>Below.heap_setCell _ _ _ _ hb',fun b'=>xK _ _ _ _⟩
 ·refine(Any.Builder_copyCheck_used L X b w (by rw[Lib.cell_of_heap hbk];rfl)).mono ?_
  rintro e w' ⟨rfl,rfl⟩
  exact⟨rfl,hbk,rfl,rfl,rfl,rfl,fun _ _=>rfl,fun _=>rfl⟩
set_option maxHeartbeats 4000000 in
set_option maxRecDepth 100000 in
theorem Ri {P:Program} {ρ:Ren} (L:Lays.n166 P ρ) (X:Builder.Extra P ρ) (b:Nat) (p v:Value) (bs s:ByteArray) (w:World) (hbk:w.heap[b]? =some (.cells #[p,v] (ρ.t 72) (0,0))) (hp:p=.pointer none∨p=.pointer (some ⟨b,0,none⟩))
 (hne:v.ownBlock≠some b) (hown:w.ownsRowF 0 (ρ.t 5) 1 v bs.size (Lib.strCells bs)) (hlen:bs.size+s.size≤140737488355328):
 Calls P (ρ.f 166) #[.pointer (some ⟨b,0,none⟩),.string s] w fun ex w'=>∃val v',ex=.returned val∧vk (ρ.t 72) (ρ.t 5) b v w w' (bs++s) v'∧val=.tuple #[.int .i64 s.size,.nilIface]:=by
 obtain⟨i0,hi,hz0,hz1,hz2⟩:=info_parts X.infoByte;have mixed:=L.mixed;have t72:=L.t72;have a72:=L.a72;have z72:=L.z72;have v72:=L.v72;have u72:=run_underlying L.t72;have t70:=L.t70;have a70:=L.a70;have z70:=L.z70;have v70:=L.v70;have u70:=run_underlying L.t70;have t37:=L.t37;have a37:=L.a37;have z37:=L.z37;have v37:=L.v37;have u37:=run_underlying L.t37;have t3:=L.t3;have a3:=L.a3;have z3:=L.z3;have v3:=L.v3;have u3:=run_underlying L.t3;have t9:=L.t9;have a9:=L.a9;have z9:=L.z9;have v9:=L.v9;have u9:=run_underlying L.t9;have t4:=L.t4;have a4:=L.a4;have z4:=L.z4;have v4:=L.v4;have u4:=run_underlying L.t4;have t164:=L.t164;have a164:=L.a164;have z164:=L.z164;have v164:=L.v164;have u164:=run_underlying L.t164;have t5:=X.t5;have a5:=X.a5;have z5:=X.z5;have v5:=X.v5;have u5:=run_underlying X.t5;have e240:∀args w,(callFunc (ρ.f 240) args).run P w=.ok (.enter (ρ.f 240) args) w:=enters_of L.f240 (by kernel_rfl) rfl
 go_enter L.f166,Body.n166_ntmps ρ
 go_wp2_with (go_at_fn (ρ.f 240);refine(Rh {L with} X.toX72 b p v _ hbk hp).mono ?_)
 rintro e w1 ⟨rfl,hb1,o1,tp1,ou1,sz1,oth1,bz1⟩
 have hown1:w1.ownsRowF 0 (ρ.t 5) 1 v bs.size (Lib.strCells bs):=mh hown fun g hg=>oth1 g (fun e=>hne (by rw[hg,e]))
 have c0:w1.cell? ⟨b,0,none⟩=some (.pointer (some ⟨b,0,none⟩)):=by rw[Lib.cell_of_heap hb1];rfl
 have c1:w1.cell? ⟨b,1,none⟩=some v:=by rw[Lib.cell_of_heap hb1];rfl
 go_wp2_with (at_builtin;refine w9 rfl _ _ (ρ.t 37) (ρ.t 9) rfl (ρ.t 5) i0 L.t37 L.t9 hi hz0 hz1 hz2 _ _ _ rfl hown1 s rfl ?c3 ?c4 ?_)
 case c3=>unfold maxLen;omega
 case c4=>omega
 intro v' w2 hown' hgrow hbz hnew;have hlt:b<w1.heap.size:=lt_of_heap hb1;have hb2:w2.heap[b]? =some (.cells #[.pointer (some ⟨b,0,none⟩),v] (ρ.t 72) (0,0)):=by
  rw[hgrow.block b hlt (fun e=>hne e.symm)];exact hb1
 have d0:w2.cell? ⟨b,0,none⟩=some (.pointer (some ⟨b,0,none⟩)):=by rw[Lib.cell_of_heap hb2];rfl
 have d1:w2.cell? ⟨b,1,none⟩=some v:=by rw[Lib.cell_of_heap hb2];rfl
 have f1:w2.frozen? ⟨b,1,none⟩=false:=Lib.frozen_of_heap hb2 1;have hvb:v'.ownBlock≠some b:=fun e=>by
  rcases hnew b e with h|h
  ·exact hne h
  ·omega
 obtain⟨ao,n',cap,rfl⟩:∃ao n' cap,v'=.slice ao n' cap:=by
  rcases hown'.2 with⟨hv,_⟩|⟨g,cap,cur,fz,hv,_⟩
  ·exact⟨_,_,_,hv⟩
  ·exact⟨_,_,_,hv⟩
 go_wp2
 go_ret2
 refine⟨_,.slice ao n' cap,rfl,⟨⟨_,?_,.inr rfl⟩,hvb,?_,?_,?_,?_,?_,?_,?_,?_⟩,rfl⟩
 ·simp[World.setCell,ae9,hb2]
 ·rw[←G7,ByteArray.size_append]
  exact mh hown' fun g hg=>Below.heap_setCell _ _ _ _ (fun e=>hvb (by rw[hg,e]))
 ·intro g hg
  rcases hnew g hg with h|h
  ·exact .inl h
  ·exact .inr (by omega)
 ·exact hgrow.os.trans o1
 ·exact hgrow.tape.trans tp1
 ·exact hgrow.output.trans ou1
 ·have:=hgrow.size;simp[World.setCell];omega
 ·intro b' h1 h2 h3
  rw[Below.heap_setCell _ _ _ _ h2,hgrow.block b' (by omega) (fun e=>h3 e.symm)]
  exact oth1 b' h2
 ·intro b' h1
  rw[xK,hbz b' (by omega)]
set_option maxHeartbeats 4000000 in
set_option maxRecDepth 100000 in
theorem Ot {P:Program} {ρ:Ren} (L:Lays.n169 P ρ) (X:Builder.Extra P ρ) (b:Nat) (p v:Value) (s:ByteArray) (w:World) (hbk:w.heap[b]? =some (.cells #[p,v] (ρ.t 72) (0,0))) (hp:p=.pointer none∨p=.pointer (some ⟨b,0,none⟩))
 (hne:v.ownBlock≠some b) (hown:w.ownsRowF 0 (ρ.t 5) 1 v s.size (Lib.strCells s)) (h0:0<s.size):
 Calls P (ρ.f 169) #[.pointer (some ⟨b,0,none⟩)] w fun ex w'=>∃val v',ex=.returned val∧vk (ρ.t 72) (ρ.t 5) b v w w' s v'∧val=.string s:=by
 obtain⟨g,cap,cur,fz,rfl,hbg,hg,hfz,hnc,hcm,hcs,htake⟩:∃g cap cur fz,v=.slice (some ⟨g,0,none⟩) s.size cap∧0≤g∧w.heap[g]? =some (.cells cur (ρ.t 5) fz)∧fz.2≤s.size*1∧s.size≤cap∧cap≤maxLen∧cur.size=cap*1∧cur.toList.take (s.size*1)=Lib.strCells s:=by
  rcases hown.2 with⟨_,hz⟩|⟨g,cap,cur,fz,hv,r⟩
  ·omega
  ·exact⟨g,cap,cur,fz,hv,r⟩
 have hgb:g≠b:=fun e=>hne (by simp[Value.ownBlock,e])
 have hls:s.data.toList.length=s.size:=by rw[afD];rfl
 have c1:w.drew.cell? ⟨b,1,none⟩=some (.slice (some ⟨g,0,none⟩) s.size cap):=by
  have:w.drew.heap[b]? =some (.cells #[p,.slice (some ⟨g,0,none⟩) s.size cap] (ρ.t 72) (0,0)):=hbk;rw[Lib.cell_of_heap this];rfl
 have hSD:(Builtin.unsafeSliceData_ #[(ρ.t 37)] (ρ.t 127) #[.slice (some ⟨g,0,none⟩) s.size cap]).run P w.drew=.ok (.pointer (some ⟨g,0,none⟩)) w.drew:=
  Lib.run_unsafeSliceData_row _ _ _ _ _ _ (by omega)
 have hUS:(Builtin.unsafeString_ #[(ρ.t 127),(ρ.t 3)] (ρ.t 9) #[.pointer (some ⟨g,0,none⟩),.int .i64 s.size]).run P w.drew=.ok (.string s) (w.drew.freeze ⟨g,0,none⟩ s.size):=by
  have:=Lib.run_unsafeString_row (P:=P) w.drew (ρ.t 127) (ρ.t 3) (ρ.t 9) (ρ.t 5) L.t127 X.cellsByte g cur.size (by have hg':w.drew.heap[g]? =some (.cells cur (ρ.t 5) fz):=hg;simp[World.shape?,hg']) s.data.toList (by intro e;rw[e]at hls;exact absurd hls (by rw[aeV];omega)) (by omega) (by unfold maxLen at hcm;omega) (by
   intro j x hx;exact hown.cells (g:=g) rfl j (.int .u8 x.toNat) (by simp[Lib.strCells,hx]))
  rw[hls]at this;exact this
 have hfin:vk (ρ.t 72) (ρ.t 5) b (.slice (some ⟨g,0,none⟩) s.size cap) w (w.drew.freeze ⟨g,0,none⟩ s.size) s (.slice (some ⟨g,0,none⟩) s.size cap):=by
  have hgn:(w.drew.freeze ⟨g,0,none⟩ s.size).heap[g]? =some (.cells cur (ρ.t 5) (if fz.1==fz.2 then(0,0+s.size)else(min fz.1 0,max fz.2 (0+s.size)))):=by
   unfold World.freeze;rw[if_neg (by omega)]
   have hg':w.drew.heap[g]? =some (.cells cur (ρ.t 5) fz):=hg;simp[ae9,hg']
  have hoth:∀b',b'≠g→(w.drew.freeze ⟨g,0,none⟩ s.size).heap[b']? =w.heap[b']? :=fun b' hb'=>by
   unfold World.freeze;rw[if_neg (by omega)]
   simp only[ae9];rw[if_neg (fun e=>hb' e.symm)];rfl
  refine⟨⟨p,(hoth b (fun e=>hgb e.symm)).trans hbk,hp⟩,hne,⟨hown.1,.inr ⟨g,cap,cur,_,rfl,hbg,hgn,?_,hnc,hcm,hcs,htake⟩⟩,fun g' hg'=>.inl hg',?_,?_,?_,?_,fun b' _ _ h3=>hoth b' (fun e=>h3 (by simp[Value.ownBlock,e])),fun b' _=>?_⟩
  ·split
   ·simp
   ·simp;omega
  ·unfold World.freeze;split<;>rfl
  ·unfold World.freeze;split<;>rfl
  ·unfold World.freeze;split<;>rfl
  ·unfold World.freeze
   split
   ·exact ae3 _
   ·exact aio (Array.size_modify ..).symm
  ·by_cases e:b'=g
   ·subst e;unfold bsz;rw[hgn,hg]
   ·exact eX (hoth b' e)
 have mixed:=L.mixed;have t72:=L.t72;have a72:=L.a72;have z72:=L.z72;have v72:=L.v72;have u72:=run_underlying L.t72;have t70:=L.t70;have a70:=L.a70;have z70:=L.z70;have v70:=L.v70;have u70:=run_underlying L.t70;have t37:=L.t37;have a37:=L.a37;have z37:=L.z37;have v37:=L.v37;have u37:=run_underlying L.t37;have t127:=L.t127;have a127:=L.a127;have z127:=L.z127;have v127:=L.v127;have u127:=run_underlying L.t127;have t3:=L.t3;have a3:=L.a3;have z3:=L.z3;have v3:=L.v3;have u3:=run_underlying L.t3;have t9:=L.t9;have a9:=L.a9;have z9:=L.z9;have v9:=L.v9;have u9:=run_underlying L.t9;have t5:=X.t5;have a5:=X.a5;have z5:=X.z5;have v5:=X.v5;have u5:=run_underlying X.t5
 go_enter L.f169,Body.n169_ntmps ρ
 go_wp2
 go_region_o
 all_goals(go_wp2;go_ret;exact⟨_,_,rfl,hfin,rfl⟩)
end Go.Eng
namespace Go.Eng.YtcechbdgokjmgaaGreatDoor
open Go.Proofs Go.RowKit
set_option linter.unusedSimpArgs false
set_option linter.unusedVariables false
set_option maxHeartbeats 0
set_option maxRecDepth 100000
def Ou:CT:=fun args n H K=>match args with
 | [p,x]=>match p with
  |.rp k off=>match x with
   |.str s=>bU H k fun o=>match o with
    |.bld t e acc=>ifK (afl off 0&&afl t 163&&afl e 5) (VC (acc.size+s.size≤140737488355328)∧K (.tup [.int .i64 s.size,.nili]) [(k,.bld t e (acc++s))] [k] [])
    |_=>False
   |_=>False
  |_=>False
 |_=>False
def Ov:CT:=fun args n H K=>match args with
 | [p]=>match p with
  |.rp k off=>bU H k fun o=>match o with
   |.bld t e acc=>ifK (afl off 0&&afl t 163&&afl e 5) (K (.int .i64 acc.size) [(k,.bld t e acc)] [k] [])
   |_=>False
  |_=>False
 |_=>False
def Ow:CT:=fun args n H K=>match args with
 | [p]=>match p with
  |.rp k off=>bU H k fun o=>match o with
   |.bld t e acc=>ifK (afl off 0&&afl t 163&&afl e 5) (VC (0<acc.size)∧K (.str acc) [(k,.bld t e acc)] [k] [])
   |_=>False
  |_=>False
 |_=>False
theorem BP {S:Imm} {w:World} {ι:Ix} {k b:Nat} {v:Value} (h:Rep S w ι (.rp k 0) v) (hb:ι.o k=some b):v=.pointer (some ⟨b,0,none⟩):=by
 cases h with
 |rp _ _ _ b' hk=>rw[hb]at hk;cases hk;rfl
theorem Uo {S:Imm} {w:World} {ι:Ix} {s:ByteArray} {v:Value} (h:Rep S w ι (.str s) v):v=.string s:=by cases h;rfl
theorem Uq:COK Tryz.prog 106 Ou:=by
 intro args n H K hk;unfold Ou at hk;split at hk
 ·split at hk
  ·rename_i k off
   split at hk
   ·rename_i s
    rw[bA]at hk;obtain⟨o,hob,hk⟩:=hk;split at hk
    ·rename_i t e acc
     simp only[aM,afp]at hk;obtain⟨⟨⟨h1,h2⟩,h3⟩,⟨hsz⟩,hk⟩:=hk;have h1:=afq h1;have h2:=afq h2;have h3:=afq h3;subst h1;subst h2;subst h3;refine⟨_,_,_,[],hk,yh (enters' Tryz.func106 (by rfl) (by rfl)) hob fun S w ι vs b p v hr ho h0 hp hne hown=>?_⟩
     obtain⟨v1,v2,rfl,r1,r2⟩:=FM hr;obtain rfl:=BP r1 ho;obtain rfl:=Uo r2;refine(Ri (P:=Tryz.prog) (ρ:=Tryz.lays156_ren) {Tryz.lays156 with} Tryz.Builder_Extra_156 b p v acc s w h0 hp hne hown hsz).mono ?_
     rintro ex w' ⟨val,v',rfl,B,rfl⟩
     exact⟨_,v',rfl,B,fun S' ι'=>.tup _ _ _ rfl fun i hi=>by
      match i,hi with
      |0,_=>exact .int _ _ _
      |1,_=>exact .nili _⟩
    ·exact hk.elim
   ·exact hk.elim
  ·exact hk.elim
 ·exact hk.elim
theorem Ur:COK Tryz.prog 110 Ow:=by
 intro args n H K hk;unfold Ow at hk;split at hk
 ·split at hk
  ·rename_i k off
   rw[bA]at hk;obtain⟨o,hob,hk⟩:=hk;split at hk
   ·rename_i t e acc
    simp only[aM,afp]at hk;obtain⟨⟨⟨h1,h2⟩,h3⟩,⟨hsz⟩,hk⟩:=hk;have h1:=afq h1;have h2:=afq h2;have h3:=afq h3;subst h1;subst h2;subst h3;refine⟨_,_,_,[],hk,yh (enters' Tryz.func110 (by rfl) (by rfl)) hob fun S w ι vs b p v hr ho h0 hp hne hown=>?_⟩
    obtain⟨v1,rfl,r1⟩:=yj hr;obtain rfl:=BP r1 ho;refine(Ot (P:=Tryz.prog) (ρ:=Tryz.lays156_ren) {Tryz.lays156 with} Tryz.Builder_Extra_156 b p v acc w h0 hp hne hown hsz).mono ?_
    rintro ex w' ⟨val,v',rfl,B,rfl⟩
    exact⟨_,v',rfl,B,fun S' ι'=>.str _ _⟩
   ·exact hk.elim
  ·exact hk.elim
 ·exact hk.elim
set_option maxRecDepth 100000 in
theorem ZN (b:Nat) (p v:Value) (s:ByteArray) (w:World) (hbk:w.heap[b]? =some (.cells #[p,v] 163 (0,0))) (hown:w.ownsRowF 0 5 1 v s.size (Lib.strCells s)):
 Calls Tryz.prog 109 #[.pointer (some ⟨b,0,none⟩)] w fun ex w'=>ex=.returned (.int .i64 s.size)∧w'=w:=by
 obtain⟨ao,cap,rfl⟩:∃ao cap,v=.slice ao s.size cap:=by
  rcases hown.2 with⟨hv,h0⟩|⟨g,cap,cur,fz,hv,_⟩
  ·exact⟨none,0,by rw[hv,h0]⟩
  ·exact⟨_,_,hv⟩
 have c1:w.cell? ⟨b,1,none⟩=some (.slice ao s.size cap):=by rw[Lib.cell_of_heap hbk];rfl
 have mixed:=Tryz.lays156.mixed;have t72:=Tryz.underlying163;have u72:=run_underlying Tryz.underlying163
 go_enter Tryz.func109,Tryz.ntmps109
 go_wp2
 go_ret
 exact⟨rfl,rfl⟩
theorem Us:COK Tryz.prog 109 Ov:=by
 intro args n H K hk;unfold Ov at hk;split at hk
 ·split at hk
  ·rename_i k off
   rw[bA]at hk;obtain⟨o,hob,hk⟩:=hk;split at hk
   ·rename_i t e acc
    simp only[aM,afp]at hk;obtain⟨⟨⟨h1,h2⟩,h3⟩,hk⟩:=hk;have h1:=afq h1;have h2:=afq h2;have h3:=afq h3;subst h1;subst h2;subst h3;refine⟨_,_,_,[],hk,yh (enters' Tryz.func109 (by rfl) (by rfl)) hob fun S w ι vs b p v hr ho h0 hp hne hown=>?_⟩
    obtain⟨v1,rfl,r1⟩:=yj hr;obtain rfl:=BP r1 ho;refine(ZN b p v acc w h0 hown).mono ?_
    rintro ex w' ⟨rfl,rfl⟩
    exact⟨_,v,rfl,⟨⟨p,h0,hp⟩,hne,hown,fun g hg=>.inl hg,rfl,rfl,rfl,ae3 _,fun _ _ _ _=>rfl,fun _ _=>rfl⟩,fun S' ι'=>.int _ _ _⟩
   ·exact hk.elim
  ·exact hk.elim
 ·exact hk.elim
def sNl:ByteArray:=⟨#[10]⟩
def lnB (w:ByteArray) (l:List Int):ByteArray:=joB ([w]++l.map itB) kBl++sNl
theorem mZ {w:ByteArray} {l:List Int} (hw:w.size≤10) (h:∀x∈l,nT x):(lnB w l).size≤22*(l.length+1)+1:=by
 have:=FX (xs:=[w]++l.map itB) (b:=21) fun x hx=>by
  rcases aff.1 hx with hx|hx
  ·simp at hx;subst hx;omega
  ·obtain⟨n,hn,rfl⟩:=ahQ.1 hx
   exact pO (h n hn)
 unfold lnB;rw[ByteArray.size_append];have e:sNl.size=1:=rfl;simp only[agl,aeZ,aeV,ag3]at this;omega
noncomputable def aeG:CPT:=aA 106 Ou (aA 107 (aB zX) (aA 108 (aB FZ) noC))
theorem ZO:aZ Tryz.prog aeG:=aj Uq (aj (au FY) (aj (au SB) aD))
structure BQ (acc w:ByteArray) (l:List Int):Prop where
 sa:acc.size≤1000000000
 sw:w.size≤10
 sl:1≤l.length∧l.length≤100000
 sn:∀x∈l,nT x
theorem Ut (acc w:ByteArray) (l:List Int) (h:BQ acc w l):kg Tryz.prog 105 [.str w,.isl (.ints .i64 l) .none,.rp 0 0] [.bld 163 5 acc] [] [.bld 163 5 (acc++lnB w l)]:=by
 obtain⟨h1,h2,h3,h4⟩:=h;have hs:=mZ h2 h4;have hT:SA l:=⟨by omega,fun i hi=>h4 _ (bW hi)⟩
 have hW:Sz ([w]++l.map itB) 1000000:=⟨by simp;omega,fun x hx=>by
  rcases aff.1 hx with hx|hx
  ·simp at hx;subst hx;omega
  ·obtain⟨n,hn,rfl⟩:=ahQ.1 hx
   have:=pO (h4 n hn);omega⟩
 have e1:(joB ([w]++l.map itB) kBl).size+1=(lnB w l).size:=by
  unfold lnB;rw[ByteArray.size_append];rfl
 unfold lnB sNl;unfold lnB sNl at hs e1;refine bL (md:=1) (rf:=[]) mixed ak ZO 1 [] Tryz.func105 (by rfl) (by rfl) (by rfl) ?_
 repeat'((conv=>whnf);first|intro _|apply aI|with_reducible exact vM rfl|exact⟨⟩|apply nM|apply fM)
 all_goals((try apply vM);(try simp only[vq]at*);try omega)
 all_goals first|exact hT|exact hW|(simp only[agl,ag3,aeZ,aeV];omega)|(rw[ByteArray.size_append]at*;omega)|skip
def Uu:LSp:=fun xs objs K=>match xs,objs with
 | [.str w,.isl (.ints .i64 l) .none,.rp 0 0],[.bld 163 5 acc]=>VC (BQ acc w l)∧K [] [.bld 163 5 (acc++lnB w l)]
 |_,_=>False
theorem acu:LOK Tryz.prog 105 Uu:=by
 intro xs objs K hk;unfold Uu at hk;split at hk
 ·exact⟨_,_,hk.2,Ut _ _ _ hk.1.get⟩
 ·exact hk.elim
abbrev rO:ByteArray:=⟨#[99,101,108,108,115]⟩
abbrev Ox:ByteArray:=⟨#[115,117,109]⟩
abbrev Ey:ByteArray:=⟨#[108,105,110,101]⟩
abbrev vX:ByteArray:=⟨#[103,105,118,101,110]⟩
def prA (c:Int) (ls:List (List Int)) (sum:Int) (k:Nat):ByteArray:=(ls.take k).foldl (fun a l=>a++lnB Ey l) (.empty++lnB rO [c]++lnB Ox [sum])
def vY (c:Int) (ls:List (List Int)) (sum:Int) (gv:List Int):ByteArray:=prA c ls sum ls.length++lnB vX gv
def Oy (c:Int) (ls:List (List Int)) (sum:Int) (gv:List Int):ByteArray × Int:=
 if pzE c ls sum gv≠0 then(tN,pzE c ls sum gv)else if 4096<(vY c ls sum gv).size then(tN,25)else(vY c ls sum gv,0)
theorem G8 (c:Int) (ls:List (List Int)) (sum:Int) (k:Nat) (h:k<ls.length):prA c ls sum (k+1)=prA c ls sum k++lnB Ey (ls.getD k []):=by
 unfold prA;rw[ag5,afj h,ahq,afe,afj h];rfl
noncomputable def aeH:CPT:=aA 22 (aB lV) (aA 105 (fq [] Uu) (aA 109 Ov (aA 110 Ow noC)))
theorem BR:aZ Tryz.prog aeH:=aj (au lq) (aj (dH [] acu) (aj Us (aj Ur aD)))
theorem Uv {c:Int} {ls:List (List Int)} {sum:Int} {gv:List Int} (hp:cK c ls sum gv):∀k,k≤ls.length→(prA c ls sum k).size≤5000+1000*k:=by
 intro k;induction k with
 |zero=>
  intro _;have h1:=mZ (w:=rO) (l:=[c]) (by decide) (fun x hx=>by simp at hx;subst hx;have:=hp.c1;exact⟨by omega,by omega⟩)
  have h2:=mZ (w:=Ox) (l:=[sum]) (by decide) (fun x hx=>by simp at hx;subst hx;have:=hp.sm;exact⟨by omega,by omega⟩)
  show(ByteArray.empty++lnB rO [c]++lnB Ox [sum]).size≤_;rw[ByteArray.size_append,ByteArray.size_append];simp at h1 h2⊢;omega
 |succ k ih=>
  intro hk;have hL:=hp.ln k (by omega)
  have h1:=mZ (w:=Ey) (l:=ls.getD k []) (by decide) (fun x hx=>by have:=hL.rng x hx;have:=hp.c1;exact⟨by omega,by omega⟩)
  rw[G8 _ _ _ _ (by omega),ByteArray.size_append]
  have:=ih (by omega)
  have:=hL.len;omega
theorem Oz (c:Int) (ls:List (List Int)) (sum:Int) (gv:List Int) (h:bN ls) (hg:gv.length≤5000):
 aF Tryz.prog 42 [pzV c ls sum gv] (.tup [.str (Oy c ls sum gv).1,.int .i64 (Oy c ls sum gv).2]):=by
 unfold Oy;by_cases he:pzE c ls sum gv=0
 case neg=>
  rw[if_pos he];refine av (md:=1) (rf:=[2163]) mixed ak BR Tryz.func42 (by rfl) (by rfl) (by rfl) ?_
  repeat'((conv=>whnf);first|(intro hq;(try simp only[vw]at hq);try first|exact absurd hq (by decide)|exfalso;omega)|apply aI|with_reducible exact vM rfl|exact⟨⟩|apply nM|apply fM)
  all_goals((try apply vM);(try simp only[vq]at*);try omega)
  all_goals first|exact⟨h,hg⟩|exact Sup.of rfl|(exfalso;exact he (by assumption))|(exfalso;contradiction)|skip
 rw[if_neg (by rw[he];simp)]
 have hp:=cK.of he;have hc:=hp.c1;have hs:=hp.sm;have hgl:=hp.gl;have hll:=hp.ll;have hA:=Uv hp;have k1:BQ .empty rO [c]:=⟨by decide,by decide,by simp,fun x hx=>by simp at hx;subst hx;exact⟨by omega,by omega⟩⟩
 have k2:BQ (.empty++lnB rO [c]) Ox [sum]:=⟨by
  have h1:=mZ (w:=rO) (l:=[c]) (by decide) (fun x hx=>by simp at hx;subst hx;exact⟨by omega,by omega⟩)
  rw[ByteArray.size_append];simp at h1⊢;omega,by decide,by simp,fun x hx=>by simp at hx;subst hx;exact⟨by omega,by omega⟩⟩
 have k3:∀k,k<ls.length→BQ (prA c ls sum k) Ey (ls.getD k []):=fun k hk=>⟨by have:=hA k (by omega);omega,by decide,by have:=(hp.ln k hk).ne;have:=(hp.ln k hk).len;omega,fun x hx=>by have:=(hp.ln k hk).rng x hx;exact⟨by omega,by omega⟩⟩
 have k4:BQ (prA c ls sum ls.length) vX gv:=⟨by have:=hA ls.length (ae3 _);omega,by decide,by omega,fun x hx=>by have:=hp.gr x hx;exact⟨by omega,by omega⟩⟩
 have hT:0<(vY c ls sum gv).size∧(vY c ls sum gv).size≤1000000:=by
  have h1:=hA ls.length (ae3 _);have h2:=mZ (w:=vX) (l:=gv) (by decide) k4.sn
  have h3:0<(lnB vX gv).size:=by unfold lnB;rw[ByteArray.size_append];exact Nat.lt_of_lt_of_le (by decide:0<sNl.size) (Nat.le_add_left _ _)
  unfold vY;rw[ByteArray.size_append];omega
 have fin:∀r:ByteArray × Int,r=(if 4096<(vY c ls sum gv).size then(tN,(25:Int))else(vY c ls sum gv,0))→aF Tryz.prog 42 [pzV c ls sum gv] (.tup [.str r.1,.int .i64 r.2]):=by
  intro r hr;refine av (md:=1) (rf:=[2163]) mixed ak BR Tryz.func42 (by rfl) (by rfl) (by rfl) ?_
  repeat'((conv=>whnf);first|(intro hq;(try simp only[vw]at hq);try first|exact absurd hq (by decide)|exfalso;omega)|apply aI|with_reducible exact vM rfl|exact⟨⟩|apply nM|apply fM)
  all_goals((try apply vM);(try simp only[vq]at*);try omega)
  all_goals(try first|exact⟨h,hg⟩|exact k1|exact k2|(exfalso;contradiction))
  all_goals(try exact(rfl:MU.zero.cells= #[Value.pointer none,Value.slice none 0 0]))
  conv=>whnf
  refine aL (X:=Nat) (fun k=>k≤ls.length) (fun k=>[(30,.int .i64 k)]) (fun k=>[(5,.bld 163 5 (prA c ls sum k))]) (fun k=>ls.length-k) 0 ⟨aJ,mixed,ak,BR,aP⟩ (by rfl) (by omega) ?_ ?_
  ·repeat'((conv=>whnf);first|intro _|apply aI|with_reducible exact vM rfl|exact⟨⟩|apply nM|apply fM)
   all_goals((try apply vM);(try simp only[vq]at*);try omega)
  intro k hk;by_cases hlt:k<ls.length
  ·have hs:=G8 c ls sum k hlt
   repeat'((conv=>whnf);first|(intro hq;(try simp only[vw]at hq);try first|exact absurd hq (by decide)|exfalso;omega)|apply aI|with_reducible exact vM rfl|exact⟨⟩|apply nM|apply fM)
   all_goals((try apply vM);(try simp only[vq]at*);try omega)
   all_goals(try first|exact k3 k hlt|omega)
   refine⟨k+1,[],⟨by omega,by omega⟩,?_⟩
   repeat'((conv=>whnf);first|intro _|apply aI|with_reducible exact vM rfl|exact⟨⟩|apply nM|apply fM)
   all_goals((try apply vM);(try simp only[vq]at*);try omega)
   all_goals(try(rw[hs]))
  have e:k=ls.length:=by omega
  subst e;have e2:prA c ls sum ls.length++lnB vX gv=vY c ls sum gv:=rfl
  repeat'((conv=>whnf);first|(intro hq;(try simp only[vw]at hq);try first|exact absurd hq (by decide)|exfalso;omega)|apply aI|with_reducible exact vM rfl|exact⟨⟩|apply nM|apply fM)
  all_goals((try apply vM);(try simp only[vq]at*);try omega)
  all_goals(try first|exact k4|omega)
  all_goals(try rw[e2]at*)
  ·rw[hr,if_pos (by omega)];exact Sup.of rfl
  ·exact hT.1
  ·rw[hr,if_neg (by omega)];exact Sup.of rfl
 exact fin _ rfl
def L9:List (List Int):=[[0,1,2],[3,4,5],[6,7,8],[0,3,6],[1,4,7],[2,5,8],[0,4,8],[2,4,6]]
def G9:List Int:=[2,7,0,0,5,0,0,0,0]
def G9b:List Int:=[2,7,5,0,0,0,0,0,0]
def N9:List Int:=[2,7,6,9,5,1,4,3,8]
def O9:List Int:=[8,7,6,5,4,3,2,1,0]
theorem acv:pzE 9 L9 15 G9=0:=by decide+kernel
theorem adr:(sol 9 L9 15 G9 1).1.length=6∧(sol 9 L9 15 G9 1).2.1.cs.getD 3 []=[9]∧(sol 9 L9 15 G9 1).2.1.cs.length=9∧(sol 9 L9 15 G9 1).2.2=0:=by decide+kernel
theorem acw:Ev 9 L9 15 G9 5=([N9],0):=by decide+kernel
theorem ads:GJ 9 L9 15 G9=[6,0,0,0,0]:=by decide+kernel
theorem OA:(iM 9 L9 15 G9).1=1∧(iM 9 L9 15 G9).2.2=0:=by decide+kernel
instance adI:DecidableEq Dd:=fun a b=>match a,b with
 |⟨g,y,x,k⟩,⟨g',y',x',k'⟩=>decidable_of_iff (g=g'∧y=y'∧x=x'∧k=k') ⟨fun h=>by obtain⟨rfl,rfl,rfl,rfl⟩:=h;rfl,fun h=>by cases h;exact⟨rfl,rfl,rfl,rfl⟩⟩
theorem acy:tV 9 L9 15 G9=(some ⟨1,2,6,0⟩,0):=by decide+kernel
abbrev Uw:ByteArray:=⟨#[99,101,108,108,32,50,32,105,115,32,54,32,98,121,32,108,97,115,116,32,111,110,32,108,105,110,101,32,48]⟩
theorem adt:Oq 9 L9 15 G9 ⟨#[108,97,115,116]⟩ 2 6 0=(Uw,0):=by decide+kernel
theorem adu:dY N9=[1,2,3,4,5,6,7,8,9]:=by
 unfold dY;simp[N9,List.mergeSort,List.MergeSort.Internal.splitInTwo,aip,aip.go,List.merge]
theorem aeI:iw N9=(true,0):=by
 have h:kM N9=true:=by unfold kM;rw[adu];decide
 unfold iw;rw[if_neg (by decide),h]
theorem OB:vU 9 L9 N9 1=0∧GZ L9 N9=true∧lu 5 O9=0:=by decide+kernel
theorem WS:O9.foldl (mkS 9 L9 15 N9 1) N9=[2,7,0,9,0,0,0,0,0]∧fP N9 (L9.getD 0 []) (L9.getD 0 []).length=15:=by decide+kernel
theorem adv:tX 9 L9 N9 O9 1=((9,L9,15,[2,7,0,9,0,0,0,0,0]),0):=by
 unfold tX;rw[if_neg (by rw[OB.1];simp),if_neg (by rw[aeI];simp),if_neg (by rw[OB.2.1];simp),if_neg (by rw[OB.2.2];decide),WS.2]
 rw[show(1:Int).toNat=1 from rfl,WS.1]
abbrev kN:ByteArray:=⟨#[99,101,108,108,115,32,57,10,115,117,109,32,49,53,10,108,105,110,101,32,48,32,49,32,50,10,108,105,110,101,32,51,32,52,32,53,10,108,105,110,101,32,54,32,55,32,56,10,108,105,110,101,32,48,32,51,32,54,10,108,105,110,101,32,49,32,52,32,55,10,108,105,110,101,32,50,32,53,32,56,10,108,105,110,101,32,48,32,52,32,56,10,108,105,110,101,32,50,32,52,32,54,10,103,105,118,101,110,32,50,32,55,32,48,32,48,32,53,32,48,32,48,32,48,32,48,10]⟩
theorem adw:Oy 9 L9 15 G9=(kN,0):=by decide+kernel
def OC (z:ByteArray):Bool:=decide (0<z.size)&&decide (z.size≤9)&&(decide (z.size=1)||!decide (((z.data.getD 0 0).toNat:Int)=48))&&(dD z).all dgI
theorem yT (z:ByteArray):Bu z↔OC z=true:=by
 unfold Bu OC;simp only[afp,agB,decide_eq_true_eq,ah9,decide_eq_false_iff_not];constructor
 ·rintro⟨⟨h1,h2,h3⟩,h4⟩;exact⟨⟨⟨h1,h2⟩,h3⟩,h4⟩
 ·rintro⟨⟨⟨h1,h2⟩,h3⟩,h4⟩;exact⟨⟨h1,h2,h3⟩,h4⟩
def OD (s:ByteArray) (sg:Bool):Bool:=preB s kMi&&(!sg||decide (kJ s kMi=kZe))
theorem He (s:ByteArray) (sg:Bool):NW s sg↔OD s sg=true:=by
 unfold NW OD;simp
def BS (s:ByteArray) (sg:Bool):Option Int:=if(OC (kJ s kMi)&&!OD s sg)=true then Go.Lib.atoi s.data.toList else none
theorem BU (s:ByteArray) (sg:Bool):fQ s sg=BS s sg:=by
 unfold fQ BS;by_cases h:OC (kJ s kMi)=true<;>by_cases h2:OD s sg=true
 ·rw[if_neg (fun e=>e.2 ((He _ _).2 h2)),if_neg (by simp[h,h2])]
 ·rw[if_pos ⟨(yT _).2 h,fun e=>h2 ((He _ _).1 e)⟩,if_pos (by simp[h,h2])]
 ·rw[if_neg (fun e=>h ((yT _).1 e.1)),if_neg (by simp[h,h2])]
 ·rw[if_neg (fun e=>h ((yT _).1 e.1)),if_neg (by simp[h,h2])]
def Hf (s w:ByteArray):Option (List Int):=
 if(decide ((dF 32 s).getD 0 .empty=w)&&((dF 32 s).drop 1).all fun x=>(BS x (decide (w=ji))).isSome)=true then some (((dF 32 s).drop 1).map fun x=>(BS x (decide (w=ji))).getD 0)else none
theorem KI (sg:Bool) (ws:List ByteArray):okW sg ws↔(ws.all fun x=>(BS x sg).isSome)=true:=by
 unfold okW;rw[agE];constructor
 ·intro h x hx
  obtain⟨j,hj,rfl⟩:=List.mem_iff_getElem.1 hx;have:=h j hj;rw[afe,afj hj,BU]at this;exact this
 ·intro h j hj
  rw[BU];exact h _ (vJ hj)
theorem ZP (s w:ByteArray):bX s w=Hf s w:=by
 unfold bX Hf numsL;simp only[BU];by_cases h:(dF 32 s).getD 0 .empty=w<;>by_cases h2:(((dF 32 s).drop 1).all fun x=>(BS x (decide (w=ji))).isSome)=true
 ·rw[if_pos ⟨h,(KI _ _).2 h2⟩,if_pos (by rw[h2];simp only[h];simp)]
 ·rw[if_neg (fun e=>h2 ((KI _ _).1 e.2)),if_neg (fun e=>h2 (by rw[afp]at e;exact e.2))]
 ·rw[if_neg (fun e=>h e.1),if_neg (fun e=>h (by rw[afp,decide_eq_true_eq]at e;exact e.1))]
 ·rw[if_neg (fun e=>h e.1),if_neg (fun e=>h (by rw[afp,decide_eq_true_eq]at e;exact e.1))]
def Hg (r:Rd) (s:ByteArray):Bool × Rd:=
 if r.line+1≤2 then
  match Hf s (if r.line=0 then Gt else ji)with
  |none=>(false,{r with line:=r.line+1})
  |some l=>if l.length≠1 then(false,{r with line:=r.line+1})else if r.line=0 then(true,{r with line:=r.line+1,c:=l.getD 0 0})else(true,{r with line:=r.line+1,sum:=l.getD 0 0})
 else if r.done=true then(false,{r with line:=r.line+1})
 else match Hf s Et with
  |some l=>(true,{r with line:=r.line+1,L:=r.L++[l]})
  |none=>match Hf s vK with
   |some l=>(true,{r with line:=r.line+1,gv:=l,done:=true})
   |none=>(false,{r with line:=r.line+1,gv:=[],done:=false})
theorem ZQ (r:Rd) (s:ByteArray):nxt r s=Hg r s:=by
 unfold nxt Hg;simp only[ZP];rfl
def rdC:Rd→List ByteArray→Rd × Bool
 |r,[]=>(r,true)
 |r,x::t=>if(Hg r x).1=true then rdC (Hg r x).2 t else((Hg r x).2,false)
theorem acz:∀(l:List ByteArray) (r:Rd),rdG r l=rdC r l:=by
 intro l;induction l with
 |nil=>intro r;rfl
 |cons x t ih=>
  intro r;unfold rdG rdC;rw[ZQ,ih]
theorem aeJ:((rdC rd0 (dF 10 (jB kN kNl))).1.c,(rdC rd0 (dF 10 (jB kN kNl))).1.L,(rdC rd0 (dF 10 (jB kN kNl))).1.sum,(rdC rd0 (dF 10 (jB kN kNl))).1.gv,(rdC rd0 (dF 10 (jB kN kNl))).1.done,(rdC rd0 (dF 10 (jB kN kNl))).2)=(9,L9,15,G9,true,true):=by decide+kernel
theorem adx:vV kN=0:=by decide+kernel
theorem acA:Oo kN=((9,L9,15,G9),0,0):=by
 have h:=aeJ;have hG:iO kN=rdC rd0 (dF 10 (jB kN kNl)):=acz _ _;rw[←hG]at h;simp only[Prod.mk.injEq]at h;obtain⟨h1,h2,h3,h4,h5,h6⟩:=h;unfold Oo;rw[if_neg (by rw[adx];simp),if_neg (by rw[h6];simp),if_neg (by rw[h5];simp),h1,h2,h3,h4,if_neg (by rw[acv];simp)]
theorem acB (l:List Dd):Sup (.isl (dlC l) .none) (.isl (.recs 4 (l.map ddC)) .none):=⟨fun{S w ι v} hr=>by
 have hn:(CL.recs 4 (l.map ddC)).ncell=(dlC l).ncell:=by simp[CL.ncell]
 have hc:(CL.recs 4 (l.map ddC)).cnt=(dlC l).cnt:=by simp[CL.cnt]
 have hg:∀j,j<(dlC l).ncell→(CL.recs 4 (l.map ddC)).get j=(dlC l).get j:=fun j hj=>by
  simp only[CL.ncell]at hj;have:j / 4<l.length:=by omega
  simp only[CL.get];rw[afe,List.getElem?_map,afe,afj this];rfl
 cases hr with
 |islnil _ _ _ h=>exact .islnil _ _ _ (by rw[hc];exact h)
 |isl _ _ _ b off cap h1 h2 h3 h4 h5=>
  rw[←hc];exact .isl _ _ _ _ _ _ (by rw[hc];exact h1) (fun j hj=>h2 j (by rw[←hn];exact hj)) (fun j hj=>by rw[hg j (by rw[←hn];exact hj)];exact h3 j (by rw[←hn];exact hj)) (fun h=>by cases h) (fun k h=>by cases h)⟩
theorem Ju:aF Tryz.prog 84 [] (.agg [.int .i64 9,.isl (.rows .i64 L9) .none]):=by
 refine bZ (md:=1) (rf:=[]) mixed ak aD Tryz.func84 (by rfl) (by rfl) (by rfl) ?_
 repeat'((conv=>whnf);first|(intro hq;(try simp only[vw]at hq);try first|exact absurd hq (by decide)|exfalso;omega)|apply aI|with_reducible exact vM rfl|exact⟨⟩|apply nM|apply fM)
 all_goals((try apply vM);(try simp only[vq]at*);try omega)
 unfold L9;all_goals(refine Sup.via ?_;repeat'((conv=>whnf);first|intro _|apply aI|with_reducible exact vM rfl|exact⟨⟩|apply nM|apply fM);all_goals((try apply vM);(try simp only[vq]at*);try omega);all_goals(try(simp[CL.sub];done)))
theorem Ux:aF Tryz.prog 85 [] (.isl (.ints .i64 N9) .none):=by
 refine av (md:=1) (rf:=[]) mixed ak aD Tryz.func85 (by rfl) (by rfl) (by rfl) ?_
 repeat'((conv=>whnf);first|(intro hq;(try simp only[vw]at hq);try first|exact absurd hq (by decide)|exfalso;omega)|apply aI|with_reducible exact vM rfl|exact⟨⟩|apply nM|apply fM)
 all_goals((try apply vM);(try simp only[vq]at*);try omega)
 unfold N9;all_goals(refine Sup.via ?_;repeat'((conv=>whnf);first|intro _|apply aI|with_reducible exact vM rfl|exact⟨⟩|apply nM|apply fM);all_goals((try apply vM);(try simp only[vq]at*);try omega);all_goals(try(simp[CL.sub];done)))
def BX:PSp:=fun xs K=>match xs with
 | []=>VC (True)∧K (.agg [.int .i64 9,.isl (.rows .i64 L9) .none])
 |_=>False
theorem Rj:POK Tryz.prog 84 BX:=by
 intro xs K h;unfold BX at h;split at h
 ·exact⟨_,h.2,Ju⟩
 ·exact h.elim
def Uy:PSp:=fun xs K=>match xs with
 | []=>VC (True)∧K (.isl (.ints .i64 N9) .none)
 |_=>False
theorem acC:POK Tryz.prog 85 Uy:=by
 intro xs K h;unfold Uy at h;split at h
 ·exact⟨_,h.2,Ux⟩
 ·exact h.elim
theorem ny:bN L9:=⟨by decide,by decide⟩
def C9:List (List Int):=[[2],[7],[1,3,4,6,8,9],[1,3,4,6,8,9],[5],[1,3,4,6,8,9],[1,3,4,6,8,9],[1,3,4,6,8,9],[1,3,4,6,8,9]]
def D9:List Bool:=[true,true,false,false,true,false,false,false,false]
def T9:List (List PV):=[(6,2,0),(3,7,4),(8,8,6),(4,6,2),(9,3,3),(1,5,1)].map fun d:Int × Int × Int=>[.str bJ,.int .i64 d.2.1,.int .i64 d.1,.int .i64 d.2.2]
theorem ady:vQ 9 L9 15 G9=⟨C9,D9⟩:=by
 have h1:(vQ 9 L9 15 G9).cs=C9:=by decide+kernel
 have h2:(vQ 9 L9 15 G9).ds=D9:=by decide+kernel
 rw[←h1,←h2]
theorem aeK:aF Tryz.prog 20 [pzV 9 L9 15 G9] (.tup [.agg [.isl (.rows .i64 C9) .none,.isl (.bools D9) .none],.int .i64 0]):=by
 have h:=Oe 9 L9 15 G9 ny (by decide)
 rw[ady,acv]at h;exact h
theorem adz:aF Tryz.prog 21 [pzV 9 L9 15 G9] (.tup [ddV bJ 2 6 0,.int .i64 0]):=by
 have h:=QT 9 L9 15 G9 ny (by decide)
 rw[acy]at h;exact h
theorem adA:aF Tryz.prog 63 [pzV 9 L9 15 G9,ddV bJ 2 6 0] (.tup [.str Uw,.int .i64 0]):=by
 have h:=G6 9 L9 15 G9 ny (by decide) bJ 2 6 0
 rw[adt]at h;exact h
theorem adB:(sol 9 L9 15 G9 1).1.map ddC=T9:=by
 have h:(sol 9 L9 15 G9 1).1=[⟨1,2,6,0⟩,⟨1,7,3,4⟩,⟨1,8,8,6⟩,⟨1,6,4,2⟩,⟨1,3,9,3⟩,⟨1,5,1,1⟩]:=by decide+kernel
 rw[h];rfl
def S9:List (List Int):=[[2],[7],[6],[9],[5],[1],[4],[3],[8]]
theorem acD:aF Tryz.prog 30 [pzV 9 L9 15 G9,.int .i64 1] (.tup [.isl (.recs 4 T9) .none,.agg [.isl (.rows .i64 S9) .none,.isl (.bools (afo 9 true)) .none],.int .i64 0]):=by
 have h:=oH 9 L9 15 G9 1 ny (by decide)
 have h1:iL 9 L9 15 G9 1=sol 9 L9 15 G9 1:=by
  have e:aK [pzE 9 L9 15 G9,fI 1]=0∧(sol 9 L9 15 G9 (1:Int).toNat).2.2≠21:=by decide+kernel
  unfold iL;rw[if_neg (by rw[e.1];simp),if_neg e.2]
  rfl
 rw[h1]at h;have h2:(sol 9 L9 15 G9 1).2.2=0:=adr.2.2.2;have h3:(sol 9 L9 15 G9 1).2.1.cs=S9:=by decide+kernel
 have h4:(sol 9 L9 15 G9 1).2.1.ds=afo 9 true:=by decide+kernel
 rw[←adB];refine qy h (wU rfl fun i hi=>?_)
 match i,hi with
 |0,_=>exact acB _
 |1,_=>
  show Sup (stV _) _;rw[show stV (sol 9 L9 15 G9 1).2.1=.agg [.isl (.rows .i64 (sol 9 L9 15 G9 1).2.1.cs) .none,.isl (.bools (sol 9 L9 15 G9 1).2.1.ds) .none]from rfl,h3];rw[h4];exact dG _
 |2,_=>show Sup (.int .i64 _) _;rw[h2];exact dG _
theorem acE:aF Tryz.prog 31 [pzV 9 L9 15 G9] (.tup [.int .i64 1,.int .i64 0]):=by
 have h:=Ap 9 L9 15 G9 ny (by decide)
 rw[OA.1,OA.2]at h;exact h
theorem acF:aF Tryz.prog 32 [pzV 9 L9 15 G9] (.tup [.isl (.ints .i64 [6,0,0,0,0]) .none,.int .i64 0]):=by
 have h:=Og 9 L9 15 G9 ny (by decide)
 rw[ads,OA.2]at h;exact h
theorem adC:aF Tryz.prog 53 [.agg [.int .i64 9,.isl (.rows .i64 L9) .none],.isl (.ints .i64 N9) .none,.isl (.ints .i64 O9) .none,.int .i64 1] (.tup [pzV 9 L9 15 [2,7,0,9,0,0,0,0,0],.int .i64 0]):=by
 have h:=Df 9 L9 N9 O9 1 ny (by decide) (by decide)
 rw[adv]at h;exact h
theorem adD:aF Tryz.prog 39 [pzV 9 L9 15 G9,.int .i64 5] (.tup [.isl (.rows .i64 [N9]) .none,.int .i64 0]):=by
 have h:=BK 9 L9 15 G9 5 ny (by decide)
 rw[acw]at h;exact h
theorem acG:aF Tryz.prog 42 [pzV 9 L9 15 G9] (.tup [.str kN,.int .i64 0]):=by
 have h:=Oz 9 L9 15 G9 ny (by decide)
 rw[adw]at h;exact h
theorem adE:aF Tryz.prog 44 [.str kN] (.tup [pzV 9 L9 15 G9,.int .i64 0,.int .i64 0]):=by
 have h:=Rf kN (by decide+kernel)
 rw[acA]at h;exact h
theorem acH:aF Tryz.prog 30 [pzV 9 L9 15 G9b,.int .i64 5] (.tup [.any,.agg [.isl (.rows .i64 []) .none,.isl (.bools []) .none],.int .i64 21]):=by
 have h:=oH 9 L9 15 G9b 5 ny (by decide)
 have h1:iL 9 L9 15 G9b 5=([],noS,21):=by
  have e:aK [pzE 9 L9 15 G9b,fI 5]=0∧(sol 9 L9 15 G9b (5:Int).toNat).2.2=21:=by decide+kernel
  unfold iL;rw[if_neg (by rw[e.1];simp),if_pos e.2]
 rw[h1]at h;refine qy h (wU rfl fun i hi=>?_)
 match i,hi with
 |0,_=>exact⟨fun _=>.any _ _⟩
 |1,_=>exact dG _
 |2,_=>exact dG _
def OE:PSp:=fun xs K=>match xs with
 | [.agg [.int .i64 c,.isl (.rows .i64 ls) .none,.int .i64 s,.isl (.ints .i64 gv) .none]]=>VC (c=9∧ls=L9∧s=15∧gv=G9)∧K (.tup [.agg [.isl (.rows .i64 C9) .none,.isl (.bools D9) .none],.int .i64 0])
 |_=>False
theorem ZR:POK Tryz.prog 20 OE:=by
 intro xs K h;unfold OE at h;split at h
 ·exact⟨_,h.2,(by obtain⟨rfl,rfl,rfl,rfl⟩:=h.1.get;exact aeK)⟩
 ·exact h.elim
def Hl:PSp:=fun xs K=>match xs with
 | [.agg [.int .i64 c,.isl (.rows .i64 ls) .none,.int .i64 s,.isl (.ints .i64 gv) .none]]=>VC (c=9∧ls=L9∧s=15∧gv=G9)∧K (.tup [ddV bJ 2 6 0,.int .i64 0])
 |_=>False
theorem Uz:POK Tryz.prog 21 Hl:=by
 intro xs K h;unfold Hl at h;split at h
 ·exact⟨_,h.2,(by obtain⟨rfl,rfl,rfl,rfl⟩:=h.1.get;exact adz)⟩
 ·exact h.elim
def Ho:PSp:=fun xs K=>match xs with
 | [.agg [.int .i64 c,.isl (.rows .i64 ls) .none,.int .i64 s,.isl (.ints .i64 gv) .none],.agg [.str r,.int .i64 y,.int .i64 x,.int .i64 k]]=>VC ((c=9∧ls=L9∧s=15∧gv=G9)∧r=bJ∧y=2∧x=6∧k=0)∧K (.tup [.str Uw,.int .i64 0])
 |_=>False
theorem UA:POK Tryz.prog 63 Ho:=by
 intro xs K h;unfold Ho at h;split at h
 ·exact⟨_,h.2,(by obtain⟨⟨rfl,rfl,rfl,rfl⟩,rfl,rfl,rfl,rfl⟩:=h.1.get;exact adA)⟩
 ·exact h.elim
def BZ:PSp:=fun xs K=>match xs with
 | [.agg [.int .i64 c,.isl (.rows .i64 ls) .none,.int .i64 s,.isl (.ints .i64 gv) .none],.int .i64 g]=>match decide (g=1)with
  |true=>VC (g=1∧c=9∧ls=L9∧s=15∧gv=G9)∧K (.tup [.isl (.recs 4 T9) .none,.agg [.isl (.rows .i64 S9) .none,.isl (.bools (afo 9 true)) .none],.int .i64 0])
  |false=>VC (g=5∧c=9∧ls=L9∧s=15∧gv=G9b)∧K (.tup [.any,.agg [.isl (.rows .i64 []) .none,.isl (.bools []) .none],.int .i64 21])
 |_=>False
theorem Rk:POK Tryz.prog 30 BZ:=by
 intro xs K hk;unfold BZ at hk;split at hk
 ·split at hk
  ·obtain⟨⟨rfl,rfl,rfl,rfl,rfl⟩,hk⟩:=hk;exact⟨_,hk,acD⟩
  ·obtain⟨⟨rfl,rfl,rfl,rfl,rfl⟩,hk⟩:=hk;exact⟨_,hk,acH⟩
 ·exact hk.elim
def Ca:PSp:=fun xs K=>match xs with
 | [.agg [.int .i64 c,.isl (.rows .i64 ls) .none,.int .i64 s,.isl (.ints .i64 gv) .none]]=>VC (c=9∧ls=L9∧s=15∧gv=G9)∧K (.tup [.int .i64 1,.int .i64 0])
 |_=>False
theorem Rl:POK Tryz.prog 31 Ca:=by
 intro xs K h;unfold Ca at h;split at h
 ·exact⟨_,h.2,(by obtain⟨rfl,rfl,rfl,rfl⟩:=h.1.get;exact acE)⟩
 ·exact h.elim
def Cb:PSp:=fun xs K=>match xs with
 | [.agg [.int .i64 c,.isl (.rows .i64 ls) .none,.int .i64 s,.isl (.ints .i64 gv) .none]]=>VC (c=9∧ls=L9∧s=15∧gv=G9)∧K (.tup [.isl (.ints .i64 [6,0,0,0,0]) .none,.int .i64 0])
 |_=>False
theorem Rm:POK Tryz.prog 32 Cb:=by
 intro xs K h;unfold Cb at h;split at h
 ·exact⟨_,h.2,(by obtain⟨rfl,rfl,rfl,rfl⟩:=h.1.get;exact acF)⟩
 ·exact h.elim
def Hq:PSp:=fun xs K=>match xs with
 | [.agg [.int .i64 c,.isl (.rows .i64 ls) .none],.isl (.ints .i64 nv) .none,.isl (.ints .i64 ov) .none,.int .i64 g]=>VC (c=9∧ls=L9∧nv=N9∧ov=O9∧g=1)∧K (.tup [pzV 9 L9 15 [2,7,0,9,0,0,0,0,0],.int .i64 0])
 |_=>False
theorem UC:POK Tryz.prog 53 Hq:=by
 intro xs K h;unfold Hq at h;split at h
 ·exact⟨_,h.2,(by obtain⟨rfl,rfl,rfl,rfl,rfl⟩:=h.1.get;exact adC)⟩
 ·exact h.elim
def Hr:PSp:=fun xs K=>match xs with
 | [.agg [.int .i64 c,.isl (.rows .i64 ls) .none,.int .i64 s,.isl (.ints .i64 gv) .none],.int .i64 lim]=>VC ((c=9∧ls=L9∧s=15∧gv=G9)∧lim=5)∧K (.tup [.isl (.rows .i64 [N9]) .none,.int .i64 0])
 |_=>False
theorem UD:POK Tryz.prog 39 Hr:=by
 intro xs K h;unfold Hr at h;split at h
 ·exact⟨_,h.2,(by obtain⟨⟨rfl,rfl,rfl,rfl⟩,rfl⟩:=h.1.get;exact adD)⟩
 ·exact h.elim
def Cc:PSp:=fun xs K=>match xs with
 | [.agg [.int .i64 c,.isl (.rows .i64 ls) .none,.int .i64 s,.isl (.ints .i64 gv) .none]]=>VC (c=9∧ls=L9∧s=15∧gv=G9)∧K (.tup [.str kN,.int .i64 0])
 |_=>False
theorem Ro:POK Tryz.prog 42 Cc:=by
 intro xs K h;unfold Cc at h;split at h
 ·exact⟨_,h.2,(by obtain⟨rfl,rfl,rfl,rfl⟩:=h.1.get;exact acG)⟩
 ·exact h.elim
def Ht:PSp:=fun xs K=>match xs with
 | [.str s]=>VC (s=kN)∧K (.tup [pzV 9 L9 15 G9,.int .i64 0,.int .i64 0])
 |_=>False
theorem UE:POK Tryz.prog 44 Ht:=by
 intro xs K h;unfold Ht at h;split at h
 ·exact⟨_,h.2,(by obtain rfl:=h.1.get;exact adE)⟩
 ·exact h.elim
noncomputable def adF:CPT:=aA 20 (kR OE) (aA 21 (kR Hl) (aA 30 (kR BZ) (aA 31 (kR Ca) (aA 32 (kR Cb) (aA 36 (aB qG) (aA 39 (kR Hr) (aA 42 (kR Cc) (aA 44 (aB Ht) (aA 53 (aB Hq) (aA 63 (kR Ho) (aA 84 (aB BX) (aA 85 (aB Uy) noC))))))))))))
theorem UF:aZ Tryz.prog adF:=aj (iU ZR) (aj (iU Uz) (aj (iU Rk) (aj (iU Rl) (aj (iU Rm) (aj (au xI) (aj (iU UD) (aj (iU Ro) (aj (au UE) (aj (au UC) (aj (iU UA) (aj (au Rj) (aj (au acC) aD))))))))))))
theorem OG:aF Tryz.prog 17 [] (.bp true):=by
 refine bZ (md:=1) (rf:=[28]) mixed ak UF Tryz.func17 (by rfl) (by rfl) (by rfl) ?_
 repeat'((conv=>whnf);first|(intro hq;(try simp only[vw]at hq);try first|exact absurd hq (by decide)|exfalso;omega)|apply aI|with_reducible exact vM rfl|exact⟨⟩|apply nM|apply fM)
 all_goals((try apply vM);(try simp only[vq]at*);try omega)
 all_goals(try rfl)
 all_goals(try decide+kernel)
 all_goals(try(exfalso;exact absurd hq (by decide+kernel)))
 have hb:∀b,b=true→Sup (bG ([PV.bp b]++[])) (PV.bp true):=fun b e=>by subst e;exact Sup.of rfl
 exact hb _ (by decide+kernel)
def Hu:PSp:=fun xs K=>match xs with
 | []=>VC (True)∧K (.bp true)
 |_=>False
theorem UG:POK Tryz.prog 17 Hu:=by
 intro xs K h;unfold Hu at h;split at h
 ·exact⟨_,h.2,OG⟩
 ·exact h.elim
end Go.Eng.YtcechbdgokjmgaaGreatDoor
namespace Go.Eng.YtcechbdgokjmgaaGreatDoor
open Go.Proofs
set_option linter.unusedSimpArgs false
set_option linter.unusedVariables false
set_option maxHeartbeats 0
set_option maxRecDepth 100000
theorem UH (c:Int) (ls:List (List Int)) (sum:Int) (gv:List Int):aF Tryz.prog 19 [pzV c ls sum gv] (pzV c ls sum gv):=by
 refine av (md:=1) (rf:=[]) mixed ak aD Tryz.func19 (by rfl) (by rfl) (by rfl) ?_
 repeat'((conv=>whnf);first|intro _|apply aI|with_reducible exact vM rfl|exact⟨⟩|apply nM|apply fM)
 all_goals((try apply vM);(try simp only[vq]at*);try omega)
 all_goals exact Sup.of rfl
def OH:PSp:=fun xs K=>match xs with
 | [.agg [.int .i64 c,.isl (.rows .i64 ls) .none,.int .i64 sum,.isl (.ints .i64 gv) .none]]=>VC (True)∧K (.agg [.int .i64 c,.isl (.rows .i64 ls) .none,.int .i64 sum,.isl (.ints .i64 gv) .none])
 |_=>False
theorem Rp:POK Tryz.prog 19 OH:=by
 intro xs K h;unfold OH at h;split at h
 ·exact⟨_,h.2,UH _ _ _ _⟩
 ·exact h.elim
theorem UJ (s:St):aF Tryz.prog 24 [stV s] (stV s):=by
 refine av (md:=1) (rf:=[]) mixed ak aD Tryz.func24 (by rfl) (by rfl) (by rfl) ?_
 repeat'((conv=>whnf);first|intro _|apply aI|with_reducible exact vM rfl|exact⟨⟩|apply nM|apply fM)
 all_goals((try apply vM);(try simp only[vq]at*);try omega)
 all_goals exact Sup.of rfl
def UK:PSp:=fun xs K=>match xs with
 | [.agg [.isl (.rows .i64 CS) .none,.isl (.bools DS) .none]]=>VC (True)∧K (.agg [.isl (.rows .i64 CS) .none,.isl (.bools DS) .none])
 |_=>False
theorem acI:POK Tryz.prog 24 UK:=by
 intro xs K h;unfold UK at h;split at h
 ·exact⟨_,h.2,UJ ⟨_,_⟩⟩
 ·exact h.elim
def shB (ls:List (List Int)) (k n:Nat):Bool:=decide (ls.length≤n)&&ls.all fun l=>decide (l.length≤k)
theorem acJ {ls:List (List Int)} {k n:Nat} (h:shB ls k n=true):ls.length≤n∧∀l∈ls,l.length≤k:=by
 unfold shB at h;rw[afp,decide_eq_true_eq,agE]at h;exact⟨h.1,fun l hl=>of_decide_eq_true (h.2 l hl)⟩
theorem OI (c:Int) (ls:List (List Int)) (k n:Nat) (hn:n≤1000000):aF Tryz.prog 50 [.agg [.int .i64 c,.isl (.rows .i64 ls) .none],.int .i64 (k:Int),.int .i64 (n:Int)] (.bp (shB ls k n)):=by
 by_cases h1:ls.length≤n
 case neg=>
  rw[show shB ls k n=false by unfold shB;rw[decide_eq_false h1];rfl]
  refine av (md:=1) (rf:=[]) mixed ak aD Tryz.func50 (by rfl) (by rfl) (by rfl) ?_
  repeat'((conv=>whnf);first|(intro hq;(try simp only[vw]at hq);try first|exact absurd hq (by decide)|exfalso;omega)|apply aI|with_reducible exact vM rfl|exact⟨⟩|apply nM|apply fM)
  all_goals((try apply vM);(try simp only[vq]at*);try omega)
  all_goals first|omega|exact iA false|skip
 refine av (md:=1) (rf:=[]) mixed ak aD Tryz.func50 (by rfl) (by rfl) (by rfl) ?_
 repeat'((conv=>whnf);first|(intro hq;(try simp only[vw]at hq);try first|exact absurd hq (by decide)|exfalso;omega)|apply aI|with_reducible exact vM rfl|exact⟨⟩|apply nM|apply fM)
 all_goals((try apply vM);(try simp only[vq]at*);try omega)
 all_goals(try omega)
 conv=>whnf
 refine aL (X:=Nat) (fun i=>i≤ls.length∧∀j,j<i→(ls.getD j []).length≤k) (fun i=>[(7,.int .i64 i)]) (fun i=>[]) (fun i=>ls.length-i) 0 ⟨aJ,mixed,ak,aD,aP⟩ (by rfl) ⟨by omega,fun j hj=>by omega⟩ ?_ ?_
 ·repeat'((conv=>whnf);first|intro _|apply aI|with_reducible exact vM rfl|exact⟨⟩|apply nM|apply fM)
  all_goals((try apply vM);(try simp only[vq]at*);try omega)
 intro i ⟨hi,hok⟩;by_cases hlt:i<ls.length
 ·repeat'((conv=>whnf);first|(intro hq;(try simp only[vw]at hq);try first|exact absurd hq (by decide)|exfalso;omega)|apply aI|with_reducible exact vM rfl|exact⟨⟩|apply nM|apply fM)
  all_goals((try apply vM);(try simp only[vq]at*);try omega)
  all_goals(try omega)
  ·have:shB ls k n=false:=by
    unfold shB;rw[aiq.2 ⟨ls.getD i [],lI hlt,by rw[decide_eq_false (by omega)];simp⟩,ahi]
   rw[this];exact iA false
  ·refine⟨i+1,[],⟨⟨by omega,fun j hj=>?_⟩,by omega⟩,?_⟩
   ·by_cases e:j=i
    ·subst e;omega
    ·exact hok j (by omega)
   repeat'((conv=>whnf);first|intro _|apply aI|with_reducible exact vM rfl|exact⟨⟩|apply nM|apply fM)
   all_goals((try apply vM);(try simp only[vq]at*);try omega)
 have e:i=ls.length:=by omega
 subst e;have:shB ls k n=true:=by
  unfold shB;rw[decide_eq_true h1,ahN,agE];intro l hl;obtain⟨j,hj,rfl⟩:=afi hl;have:=hok j hj;rw[afe,afj hj]at this;exact decide_eq_true this
 rw[this]
 repeat'((conv=>whnf);first|(intro hq;(try simp only[vw]at hq);try first|exact absurd hq (by decide)|exfalso;omega)|apply aI|with_reducible exact vM rfl|exact⟨⟩|apply nM|apply fM)
 all_goals((try apply vM);(try simp only[vq]at*);try omega)
 all_goals first|omega|exact iA true
def Hw:PSp:=fun xs K=>match xs with
 | [.agg [.int .i64 c,.isl (.rows .i64 ls) .none],.int .i64 k,.int .i64 n]=>VC (0≤k∧0≤n∧n≤1000000)∧K (.bp (shB ls k.toNat n.toNat))
 |_=>False
theorem UL:POK Tryz.prog 50 Hw:=by
 intro xs K hk;unfold Hw at hk;split at hk
 ·rename_i c ls k n
  obtain⟨⟨h1,h2,h3⟩,hk⟩:=hk;obtain⟨k',rfl⟩:∃k':Nat,k=k':=⟨k.toNat,by omega⟩
  obtain⟨n',rfl⟩:∃n':Nat,n=n':=⟨n.toNat,by omega⟩
  exact⟨_,hk,OI _ _ _ _ (by omega)⟩
 ·exact hk.elim
def yU (c:Int) (ls:List (List Int)) (k n:Nat):Bool:=shB ls k n&&(decide (iJ c ls=0)&&decide (c≤k))
noncomputable def aeL:CPT:=aA 50 (aB Hw) (aA 120 (aB Es) noC)
theorem Ce:aZ Tryz.prog aeL:=aj (au UL) (aj (au Kh) aD)
theorem KJ {ls:List (List Int)} {k n:Nat} (h:shB ls k n=true) (hk:k≤5000) (hn:n≤1000000):bN ls:=by
 obtain⟨h1,h2⟩:=acJ h;exact⟨by omega,fun l hl=>by have:=h2 l hl;omega⟩
theorem UM (c:Int) (ls:List (List Int)) (k n:Nat) (hk:k≤5000) (hn:n≤1000000):aF Tryz.prog 52 [.agg [.int .i64 c,.isl (.rows .i64 ls) .none],.int .i64 (k:Int),.int .i64 (n:Int)] (.bp (yU c ls k n)):=by
 unfold yU;cases h:shB ls k n with
 |false=>
  rw[aho];refine av (md:=1) (rf:=[]) mixed ak Ce Tryz.func52 (by rfl) (by rfl) (by rfl) ?_
  repeat'((conv=>whnf);first|(intro hq;(try simp only[vw]at hq);try first|exact absurd hq (by decide)|exfalso;omega)|apply aI|with_reducible exact vM rfl|exact⟨⟩|apply nM|apply fM)
  all_goals((try apply vM);(try simp only[vq]at*);try omega)
  all_goals first|omega|exact iA false|exact absurd (hq.symm.trans h) (by decide)|(exfalso;exact absurd (h.symm.trans (‹shB ls _ _=true›)) (by decide))|skip
 |true=>
  have hL:=KJ h hk hn;rw[ahN];by_cases h1:iJ c ls=0
  ·rw[decide_eq_true h1,ahN]
   refine av (md:=1) (rf:=[]) mixed ak Ce Tryz.func52 (by rfl) (by rfl) (by rfl) ?_
   repeat'((conv=>whnf);first|(intro hq;(try simp only[vw]at hq);try first|exact absurd hq (by decide)|exfalso;omega)|apply aI|with_reducible exact vM rfl|exact⟨⟩|apply nM|apply fM)
   all_goals((try apply vM);(try simp only[vq]at*);try omega)
   all_goals first|omega|exact hL|exact Sup.of rfl|exact absurd (h.symm.trans hq) (by decide)|(exfalso;exact hq h1)|skip
  ·rw[decide_eq_false h1,aho]
   refine av (md:=1) (rf:=[]) mixed ak Ce Tryz.func52 (by rfl) (by rfl) (by rfl) ?_
   repeat'((conv=>whnf);first|(intro hq;(try simp only[vw]at hq);try first|exact absurd hq (by decide)|exfalso;omega)|apply aI|with_reducible exact vM rfl|exact⟨⟩|apply nM|apply fM)
   all_goals((try apply vM);(try simp only[vq]at*);try omega)
   all_goals first|omega|exact hL|exact iA false|exact absurd (h.symm.trans hq) (by decide)|(exfalso;exact h1 hq)|skip
def UN:PSp:=fun xs K=>match xs with
 | [.agg [.int .i64 c,.isl (.rows .i64 ls) .none],.int .i64 k,.int .i64 n]=>VC ((0≤k∧k≤5000)∧0≤n∧n≤1000000)∧K (.bp (yU c ls k.toNat n.toNat))
 |_=>False
theorem acK:POK Tryz.prog 52 UN:=by
 intro xs K hk;unfold UN at hk;split at hk
 ·rename_i c ls k n
  obtain⟨⟨h1,h2,h3⟩,hk⟩:=hk;obtain⟨k',rfl⟩:∃k':Nat,k=k':=⟨k.toNat,by omega⟩
  obtain⟨n',rfl⟩:∃n':Nat,n=n':=⟨n.toNat,by omega⟩
  exact⟨_,hk,UM _ _ _ _ (by omega) (by omega)⟩
 ·exact hk.elim
theorem UO {c:Int} {ls:List (List Int)} {k n:Nat} (h:yU c ls k n=true) (hk:k≤5000) (hn:n≤1000000):bN ls:=by
 unfold yU at h;rw[afp]at h;exact KJ h.1 hk hn
end Go.Eng.YtcechbdgokjmgaaGreatDoor
namespace Go.Eng.YtcechbdgokjmgaaGreatDoor
open Go.Proofs Go.RowKit
set_option linter.unusedSimpArgs false
set_option linter.unusedVariables false
set_option maxHeartbeats 0
set_option maxRecDepth 100000
def kD (p:PSp) (u:PV):PSp:=fun xs K=>p xs (fun v=>VC (Sup v u))∧K u
theorem gT {g:FuncId} {p:PSp} (h:POK Tryz.prog g p) (u:PV):POK Tryz.prog g (kD p u):=by
 intro xs K hk;obtain⟨v,hv,hp⟩:=h _ _ hk.1;exact⟨u,hk.2,qy hp hv.get⟩
theorem cZ {a b:Bool} (h:a=b):Sup (.bp a) (.bool b):=⟨fun hr=>by cases hr;subst h;exact .bool _ _⟩
theorem jU {a b:Int} (h:a=b):Sup (.int .i64 a) (.int .i64 b):=Sup.of (by rw[h])
end Go.Eng.YtcechbdgokjmgaaGreatDoor
namespace Go.Eng.YtcechbdgokjmgaaGreatDoor
set_option linter.unusedSimpArgs false
set_option linter.unusedVariables false
def sF (g:Int→Int):List Int→Int
 | []=>0
 |x::r=>g x+sF g r
theorem Cg (g:Int→Int):∀(l:List Int) (a:Int),l.foldl (fun a x=>a+g x) a=a+sF g l:=by
 intro l;induction l with
 |nil=>intro a;simp[sF]
 |cons x r ih=>intro a;rw[air,ih];simp only[sF];omega
theorem wW {g h:Int→Int}:∀{l:List Int},(∀x∈l,g x≤h x)→sF g l≤sF h l:=by
 intro l;induction l with
 |nil=>intro _;exact ais _
 |cons x r ih=>
  intro hh;have h1:=hh x (by simp)
  have h2:=ih fun y hy=>hh y (by simp[hy])
  simp only[sF];omega
theorem qj {g h:Int→Int} {l:List Int} (hh:∀x∈l,g x=h x):sF g l=sF h l:=by
 have h1:=wW (g:=g) (h:=h) fun x hx=>by rw[hh x hx];exact ais _
 have h2:=wW (g:=h) (h:=g) fun x hx=>by rw[hh x hx];exact ais _
 omega
theorem rP (g h:Int→Int):∀(l:List Int),sF (fun x=>g x+h x) l=sF g l+sF h l:=by
 intro l;induction l with
 |nil=>rfl
 |cons x r ih=>simp only[sF,ih];omega
theorem Rq (g:Int→Int) (p:Int→Bool):∀(l:List Int),sF g (l.filter p)=sF (fun x=>if p x then g x else 0) l:=by
 intro l;induction l with
 |nil=>rfl
 |cons x r ih=>
  rw[List.filter_cons];cases hp:p x with
  |true=>rw[if_pos rfl];simp only[sF,ih,hp];rfl
  |false=>rw[if_neg (by simp)];simp only[sF,ih,hp];simp
theorem Ch:∀(l:List Int),sF (fun _=>0) l=0:=by
 intro l;induction l with
 |nil=>rfl
 |cons x r ih=>simp only[sF,ih];rfl
theorem acL {y a:Int}:∀{l:List Int},l.Pairwise (·< ·)→y∈l→sF (fun x=>if x=y then a else 0) l=a:=by
 intro l;induction l with
 |nil=>intro _ h;simp at h
 |cons x r ih=>
  intro hp hy;have hp':=agw.1 hp;simp only[sF];by_cases e:x=y
  ·subst e
   have:sF (fun z=>if z=x then a else 0) r=sF (fun _=>0) r:=qj fun z hz=>by
    have:=hp'.1 z hz;rw[if_neg (by omega)]
   rw[if_pos rfl,this,Ch];omega
  ·rw[if_neg e,ih hp'.2 (by rcases agv.1 hy with h|h;exact absurd h.symm e;exact h)];omega
theorem UQ (s:St):∀(l:List Int) (a:Int),l.foldl (fun a x=>if s.dc x.toNat then a-hd0 (s.cd x.toNat)else a) a=a-sF (fun x=>if s.dc x.toNat then hd0 (s.cd x.toNat)else 0) l:=by
 intro l;induction l with
 |nil=>intro a;simp[sF]
 |cons x r ih=>
  intro a;rw[air,ih];simp only[sF];split<;>omega
theorem vZ (s:St) (sum:Int) (l:List Int):rst s sum l=sum-sF (fun x=>if s.dc x.toNat then hd0 (s.cd x.toNat)else 0) l:=UQ s l sum
theorem KL (s:St) (o:List Int):qR s o=sF (fun y=>hd0 (s.cd y.toNat)) o:=by
 unfold qR;rw[Cg (fun y=>hd0 (s.cd y.toNat))];omega
theorem KM (s:St) (o:List Int):qU s o=sF (fun y=>ls0 (s.cd y.toNat)) o:=by
 unfold qU;rw[Cg (fun y=>ls0 (s.cd y.toNat))];omega
theorem ZT (N l:List Int):eB N l=sF (fun x=>N.getD x.toNat 0) l:=by
 unfold eB;rw[Cg (fun x=>N.getD x.toNat 0)];omega
theorem rQ (s:St) (l:List Int) (but:Int) (g:Int→Int):sF g (opn s l but)=sF (fun x=>if !(s.dc x.toNat)&&decide (x≠but)then g x else 0) l:=by
 unfold opn;exact Rq g _ l
theorem d9 {s:St} {l:List Int} {but z:Int}:z∈opn s l but↔z∈l∧s.dc z.toNat=false∧z≠but:=by
 unfold opn;rw[ahh];simp
theorem Hy {s:St} {l:List Int} {but:Int} (h:l.Pairwise (·< ·)):(opn s l but).Pairwise (·< ·):=h.filter _
def ChF (s:St) (o used:List Int) (sum:Int) (h:Int→Int):Prop:=
 (∀y∈o,h y∈s.cd y.toNat∧h y∉used)∧(∀y∈o,∀z∈o,y≠z→h y≠h z)∧sF h o=sum
theorem Ci (s:St):∀(o used:List Int) (sum:Int),o.Pairwise (·< ·)→(chs s o used sum=true↔∃h,ChF s o used sum h):=by
 intro o;induction o with
 |nil=>
  intro used sum _;simp only[chs,decide_eq_true_eq,ChF];constructor
  ·rintro rfl
   exact⟨fun _=>0,fun y hy=>by simp at hy,fun y hy=>by simp at hy,rfl⟩
  ·rintro⟨h,_,_,h3⟩
   exact h3.symm
 |cons y r ih=>
  intro used sum hp;have hp':=agw.1 hp;simp only[chs,ahC,ahh,ah9,decide_eq_false_iff_not];constructor
  ·rintro⟨x,⟨hx,hu⟩,hc⟩
   obtain⟨h,h1,h2,h3⟩:=(ih _ _ hp'.2).1 hc;have hne:∀z∈r,z≠y:=fun z hz=>by have:=hp'.1 z hz;omega
   refine⟨fun z=>if z=y then x else h z,fun z hz=>?_,fun z hz w hw hzw=>?_,?_⟩
   ·rcases agv.1 hz with rfl|hz
    ·simp only[if_true];exact⟨hx,hu⟩
    ·simp only[if_neg (hne z hz)]
     exact⟨(h1 z hz).1,fun hm=>(h1 z hz).2 (by simp[hm])⟩
   ·rcases agv.1 hz with rfl|hz2<;>rcases agv.1 hw with rfl|hw2
    ·exact absurd rfl hzw
    ·simp only[if_true,if_neg (hne w hw2)]
     exact fun e=>(h1 w hw2).2 (by simp[←e])
    ·simp only[if_true,if_neg (hne z hz2)]
     exact fun e=>(h1 z hz2).2 (by simp[e])
    ·simp only[if_neg (hne z hz2),if_neg (hne w hw2)]
     exact h2 z hz2 w hw2 hzw
   ·simp only[sF,if_true]
    have:sF (fun z=>if z=y then x else h z) r=sF h r:=qj fun z hz=>by simp only[if_neg (hne z hz)]
    rw[this,h3];omega
  ·rintro⟨h,h1,h2,h3⟩
   refine⟨h y,h1 y (by simp),(ih _ _ hp'.2).2 ⟨h,fun z hz=>⟨(h1 z (by simp[hz])).1,fun hm=>?_⟩,fun z hz w hw=>h2 z (by simp[hz]) w (by simp[hw]),?_⟩⟩
   ·rcases aff.1 hm with hm|hm
    ·exact(h1 z (by simp[hz])).2 hm
    ·have:=hp'.1 z hz
     exact h2 z (by simp[hz]) y (by simp) (by omega) (ahL.1 hm)
   ·simp only[sF]at h3;omega
structure gK (c:Int) (ls:List (List Int)) (sum:Int) (f:List Int):Prop where
 len:(f.length:Int)=c
 nrm:kM f=true
 sum:∀i,i<ls.length→eB f (ls.getD i [])=sum
structure Alw (s:St) (f:List Int):Prop where
 len:s.cs.length=f.length
 mem:∀i,i<f.length→f.getD i 0∈s.cd i
theorem gK.rng {c:Int} {ls:List (List Int)} {sum:Int} {f:List Int} (h:gK c ls sum f) {i:Nat} (hi:i<f.length):1≤f.getD i 0∧f.getD i 0≤c:=by
 have h1:=mX h.nrm (f.getD i 0) (dZ hi);have:=h.len;omega
theorem gK.inj {c:Int} {ls:List (List Int)} {sum:Int} {f:List Int} (h:gK c ls sum f) {i j:Nat} (hi:i<f.length) (hj:j<f.length) (e:f.getD i 0=f.getD j 0):i=j:=by
 have hn:=Rb h.nrm;rw[eT hi,eT hj]at e;exact(List.getElem_inj hn).1 e
theorem gK.sur {c:Int} {ls:List (List Int)} {sum:Int} {f:List Int} (h:gK c ls sum f) {x:Int} (hx:1≤x∧x≤c):∃i,i<f.length∧f.getD i 0=x:=by
 have hl:=h.len;have h1:x∈dY f:=by
  rw[Aq h.nrm];exact ahQ.2 ⟨(x-1).toNat,agU.2 (by omega),by omega⟩
 have h2:x∈f:=(aif f _).mem_iff.1 h1;obtain⟨i,hi,rfl⟩:=(bO _ x).1 h2;exact⟨i,hi,rfl⟩
theorem Alw.dec {c:Int} {ls:List (List Int)} {sum:Int} {s:St} {f:List Int} (hB:bg c ls sum s) (hA:Alw s f) {i:Nat} (hi:i<f.length) (hd:s.dc i=true):s.cd i=[f.getD i 0]:=by
 have h1:=hB.dec i (by rw[hA.len];exact hi) hd
 obtain⟨z,hz⟩:=ait.1 h1;have:=hA.mem i hi;rw[hz,ahL]at this;rw[hz,this]
theorem Hz {c:Int} {ls:List (List Int)} {sum:Int} {s:St} {f:List Int} (hB:bg c ls sum s) (hA:Alw s f) (hf:gK c ls sum f) {k:Nat} (hk:k<ls.length):
 rst s sum (ls.getD k [])=sF (fun x=>if !(s.dc x.toNat)then f.getD x.toNat 0 else 0) (ls.getD k []):=by
 have h1:=hf.sum k hk;rw[ZT]at h1;rw[vZ];have h2:sF (fun x=>f.getD x.toNat 0) (ls.getD k [])=sF (fun x=>(if s.dc x.toNat then hd0 (s.cd x.toNat)else 0)+(if !(s.dc x.toNat)then f.getD x.toNat 0 else 0)) (ls.getD k []):=qj fun x hx=>by
  have hr:=(hB.ln k hk).rng x hx;have hl:=hf.len;cases hd:s.dc x.toNat with
  |true=>
   rw[hA.dec hB (by omega) hd]
   simp[hd0]
  |false=>simp
 rw[rP]at h2;omega
theorem yV {c:Int} {ls:List (List Int)} {sum:Int} {s:St} {f:List Int} (hB:bg c ls sum s) (hA:Alw s f) (hf:gK c ls sum f) {k:Nat} (hk:k<ls.length) {y:Int} (hy:y∈ls.getD k []) (hd:s.dc y.toNat=false):
 rst s sum (ls.getD k [])=f.getD y.toNat 0+sF (fun x=>f.getD x.toNat 0) (opn s (ls.getD k []) y):=by
 rw[Hz hB hA hf hk,rQ];have h1:sF (fun x=>if !(s.dc x.toNat)then f.getD x.toNat 0 else 0) (ls.getD k [])=sF (fun x=>(if x=y then f.getD y.toNat 0 else 0)+(if !(s.dc x.toNat)&&decide (x≠y)then f.getD x.toNat 0 else 0)) (ls.getD k []):=qj fun x hx=>by
  by_cases e:x=y
  ·subst e;simp[hd]
  ·simp[e]
 rw[h1,rP,acL (hB.ln k hk).pw hy]
structure nZ (c:Int) (ls:List (List Int)) (g:Nat) (y x k:Int):Prop where
 gg:1≤g∧g≤5
 yy:0≤y∧y<c
 xx:1≤x∧x≤c
 kk:lnG g=true→(0≤k∧k<ls.length)∧y∈ls.getD k.toNat []
theorem iP {g:Nat} {s:St} {sum:Int} {l:List Int} {y x:Int}:okJ g s sum l y x=true↔s.dc y.toNat=false∧x∈s.cd y.toNat∧jst g s sum l y x=true:=by
 unfold okJ;simp
theorem sound {c:Int} {ls:List (List Int)} {sum:Int} {s:St} {f:List Int} (hB:bg c ls sum s) (hA:Alw s f) (hf:gK c ls sum f) {g:Nat} {y x k:Int} (hL:nZ c ls g y x k) (h:okJ g s sum (ls.getD k.toNat []) y x=true):
 g≤3↔f.getD y.toNat 0=x:=by
 obtain⟨hd,hx,hj⟩:=iP.1 h;have hc:=hB.c1;have hfl:=hf.len;have hsl:=hB.cl;have hyf:y.toNat<f.length:=by have:=hL.yy;omega
 have hfy:=hA.mem _ hyf;have hg:=hL.gg;obtain rfl|rfl|rfl|rfl|rfl:g=1∨g=2∨g=3∨g=4∨g=5:=by omega
 ·refine⟨fun _=>?_,fun _=>by omega⟩
  obtain⟨hk,hm⟩:=hL.kk rfl;have:=yV hB hA hf (k:=k.toNat) (by omega) hm hd
  simp only[jst,yB,afp,decide_eq_true_eq]at hj;rw[aiu hj.1]at this;simp only[sF]at this;omega
 ·refine⟨fun _=>?_,fun _=>by omega⟩
  simp only[jst,yC,decide_eq_true_eq]at hj;obtain⟨z,hz⟩:=ait.1 hj;rw[hz,ahL]at hx hfy;rw[hx,hfy]
 ·refine⟨fun _=>?_,fun _=>by omega⟩
  simp only[jst,qQ,agE,agU,agB,decide_eq_true_eq,ah9,decide_eq_false_iff_not]at hj;obtain⟨i,hi,e⟩:=hf.sur hL.xx;have h1:=hA.mem i hi;rw[e]at h1;rcases hj i (by rw[hA.len];exact hi)with h2|h2
  ·rw[←h2];simpa using e
  ·exact absurd h1 h2
 ·refine⟨fun h=>by omega,fun e=>?_⟩
  exfalso
  obtain⟨hk,hm⟩:=hL.kk rfl;have h1:=yV hB hA hf (k:=k.toNat) (by omega) hm hd
  have hr:=fun z (hz:z∈opn s (ls.getD k.toNat []) y)=>(hB.ln k.toNat (by omega)).rng z (d9.1 hz).1
  have hz:=fun z (hz:z∈opn s (ls.getD k.toNat []) y)=>hA.mem z.toNat (by have:=hr z hz;omega)
  have hasc:=fun z (hz:z∈opn s (ls.getD k.toNat []) y)=>(hB.asc z.toNat (by have:=hr z hz;omega)).1.pw
  have h2:qR s (opn s (ls.getD k.toNat []) y)≤sF (fun x=>f.getD x.toNat 0) (opn s (ls.getD k.toNat []) y):=by
   rw[KL];exact wW fun z hzz=>P8 (hasc z hzz) _ (hz z hzz)
  have h3:sF (fun x=>f.getD x.toNat 0) (opn s (ls.getD k.toNat []) y)≤qU s (opn s (ls.getD k.toNat []) y):=by
   rw[KM];exact wW fun z hzz=>F5 (hasc z hzz) _ (hz z hzz)
  simp only[jst,yD,agB,ahC,decide_eq_true_eq]at hj;rcases hj with⟨z,hzz,e0⟩|hj
  ·have:=hz z hzz
   rw[e0]at this;simp at this
  ·omega
 ·refine⟨fun h=>by omega,fun e=>?_⟩
  exfalso
  obtain⟨hk,hm⟩:=hL.kk rfl;have h1:=yV hB hA hf (k:=k.toNat) (by omega) hm hd
  have hr:=fun z (hz:z∈opn s (ls.getD k.toNat []) y)=>(hB.ln k.toNat (by omega)).rng z (d9.1 hz).1
  simp only[jst,yE,afp,decide_eq_true_eq,ah9]at hj;have:chs s (opn s (ls.getD k.toNat []) y) [x] (rst s sum (ls.getD k.toNat [])-x)=true:=by
   refine(Ci s _ _ _ (Hy (hB.ln k.toNat (by omega)).pw)).2 ⟨fun z=>f.getD z.toNat 0,fun z hz=>⟨hA.mem _ (by have:=hr z hz;omega),fun hm=>?_⟩,fun z hz w hw hne e1=>?_,by omega⟩
   ·have h2:=hr z hz
    have:=hf.inj (i:=z.toNat) (j:=y.toNat) (by omega) hyf (by rw[e];exact ahL.1 hm)
    exact(d9.1 hz).2.2 (by have:=hL.yy;omega)
   ·have h2:=hr z hz
    have h3:=hr w hw;have:=hf.inj (i:=z.toNat) (j:=w.toNat) (by omega) (by omega) e1
    omega
  rw[this]at hj;exact absurd hj.2 (by simp)
theorem ZU {c:Int} {ls:List (List Int)} {sum:Int} {s:St} {f:List Int} (hB:bg c ls sum s) (hA:Alw s f) (hf:gK c ls sum f) {g:Nat} {y x k:Int} (hL:nZ c ls g y x k) (h:okJ g s sum (ls.getD k.toNat []) y x=true):Alw (apl g s y x) f:=by
 have hs:=sound hB hA hf hL h;have hc:=hB.c1;have hfl:=hf.len;have hsl:=hB.cl;have hy:=hL.yy;refine⟨mU.1.trans hA.len,fun i hi=>?_⟩;have hm:=hA.mem i hi;rw[Am (by omega) i (by omega)]
 by_cases hg:g≤3
 ·have hfy:=hs.1 hg
  rw[if_pos hg];split
  ·rename_i e;rw[e,hfy];simp
  ·rename_i e
   exact gJ.2 ⟨hm,fun e1=>e (hf.inj hi (by omega) (by rw[e1,hfy]))⟩
 ·have hfy:f.getD y.toNat 0≠x:=fun e=>hg (hs.2 e)
  rw[if_neg hg];split
  ·rename_i e
   rw[e]at hm⊢;exact gJ.2 ⟨hm,hfy⟩
  ·exact hm
theorem KO {c:Int} {ls:List (List Int)} {sum:Int} {s:St} {f:List Int} (hB:bg c ls sum s) (hA:Alw s f) (hf:gK c ls sum f):brk c ls sum s=false:=by
 have hfl:=hf.len;have hcl:=hB.cl;unfold brk;simp only[Bool.or_eq_false_iff,aiv,agE,agU,ahC,ahD,decide_eq_true_eq,afp];refine⟨⟨fun i hi=>?_,fun l hl e=>?_⟩,fun l hl=>?_⟩
 ·obtain⟨j,hj,e⟩:=hf.sur (x:=(i:Int)+1) (by omega)
  have:=hA.mem j hj;rw[e]at this;exact⟨s.cd j,dZ (by omega),this⟩
 ·obtain⟨j,hj,rfl⟩:=afi hl
  have:=hA.mem j (by rw[←hA.len];exact hj)
  unfold St.cd at this;rw[afe,afj hj]at this;simp only[Option.getD_some]at this;rw[e]at this;simp at this
 ·rintro⟨h1,h2⟩
  obtain⟨k,hk,rfl⟩:=afi hl;have e:ls[k]=ls.getD k []:=by rw[afe,afj hk];rfl
  rw[e]at h1 h2;rw[Hz hB hA hf hk]at h2;apply h2;have:sF (fun x=>f.getD x.toNat 0) (opn s (ls.getD k []) (-1))=0:=by rw[aiu h1];rfl
  rw[rQ]at this;refine Eq.trans ?_ this;refine qj fun x hx=>?_;have:=(hB.ln k hk).rng x hx;have h3:x≠ -1:=by omega
  simp[h3]
theorem acM {c:Int} {ls:List (List Int)} {sum:Int} {s:St} (hB:bg c ls sum s) {g:Nat} (hg:1≤g∧g≤5) {d:Dd} (hm:d∈kK g s sum ls):nZ c ls d.g d.y d.x d.k∧okJ d.g s sum (ls.getD d.k.toNat []) d.y d.x=true:=by
 obtain⟨h1,h2,h3,h4⟩:=qd.1 hm;have hcl:=hB.cl;obtain⟨h5,h6,h7⟩:=iP.1 h4;have hA:=hB.asc d.y.toNat (by omega)
 subst h1;refine⟨⟨hg,by omega,?_,fun hl=>?_⟩,h4⟩
 ·have:=hA.1.rng _ h6;have:=hA.2 _ h6;omega
 ·rw[if_pos hl]at h3;exact h3
theorem KP {c:Int} {ls:List (List Int)} {sum:Int} {s:St} (hB:bg c ls sum s) {n:Nat} (hn:n≤5) {d:Dd} (hf:gN s sum ls n=some d):nZ c ls d.g d.y d.x d.k∧okJ d.g s sum (ls.getD d.k.toNat []) d.y d.x=true∧d.g≤n:=by
 obtain⟨g,g1,g2,hm⟩:=yO hf;obtain⟨h1,h2⟩:=acM hB ⟨g1,by omega⟩ hm
 exact⟨h1,h2,by rw[(qd.1 hm).1];exact g2⟩
theorem HV {c:Int} {ls:List (List Int)} {sum:Int} {f:List Int} (hf:gK c ls sum f) {n:Nat} (hn:n≤5):∀(u:Nat) (s:St) (l:List Dd),bg c ls sum s→StI s→Alw s f→
 (iK c ls sum n u s l).2.2≠21∧Alw (iK c ls sum n u s l).2.1 f∧bg c ls sum (iK c ls sum n u s l).2.1:=by
 intro u;induction u with
 |zero=>exact fun s l hB hI hA=>⟨by simp[iK],hA,hB⟩
 |succ u ih=>
  intro s l hB hI hA;unfold iK;rw[KO hB hA hf];simp only[afQ,if_false];split
  ·exact⟨by simp,hA,hB⟩
  ·split
   ·exact⟨by simp,hA,hB⟩
   ·rename_i d hd
    obtain⟨h1,h2,h3⟩:=KP hB hn hd;obtain⟨h4,h5,h6⟩:=iP.1 h2;obtain⟨h7,h8⟩:=nQ hB hI (g:=d.g) h1.yy h1.xx h4 h5;exact ih _ _ h7 h8 (ZU hB hA hf h1 h2)
structure LeS (t s:St):Prop where
 len:t.cs.length=s.cs.length
 cd:∀i,i<s.cs.length→∀x∈t.cd i,x∈s.cd i
 dc:∀i,i<s.cs.length→s.dc i=true→t.dc i=true
def NeS (t:St):Prop:=∀i,i<t.cs.length→1≤(t.cd i).length
def OJ (c:Int) (ls:List (List Int)) (sum:Int) (n:Nat) (t:St):Prop:=∀g y x k,nZ c ls g y x k→g≤n→okJ g t sum (ls.getD k.toNat []) y x=false
structure TS (c:Int) (ls:List (List Int)) (sum:Int) (t s:St):Prop where
 bt:bg c ls sum t
 it:StI t
 ne:NeS t
 bs:bg c ls sum s
 le:LeS t s
theorem TS.at {c:Int} {ls:List (List Int)} {sum:Int} {t s:St} (h:TS c ls sum t s) {z:Int} (hz:0≤z∧z<c):z.toNat<t.cs.length∧z.toNat<s.cs.length:=by
 have:=h.bt.cl;have:=h.bs.cl;omega
theorem TS.hd {c:Int} {ls:List (List Int)} {sum:Int} {t s:St} (h:TS c ls sum t s) {z:Int} (hz:0≤z∧z<c):hd0 (t.cd z.toNat)∈t.cd z.toNat∧ls0 (t.cd z.toNat)∈t.cd z.toNat∧hd0 (s.cd z.toNat)≤hd0 (t.cd z.toNat)∧ls0 (t.cd z.toNat)≤ls0 (s.cd z.toNat):=by
 obtain⟨h1,h2⟩:=h.at hz;have h3:=h.ne _ h1;have h4:=rC h3;have h5:=wO h3;exact⟨h4,h5,P8 (h.bs.asc _ h2).1.pw _ (h.le.cd _ h2 _ h4),F5 (h.bs.asc _ h2).1.pw _ (h.le.cd _ h2 _ h5)⟩
theorem TS.dec {c:Int} {ls:List (List Int)} {sum:Int} {t s:St} (h:TS c ls sum t s) {z:Int} (hz:0≤z∧z<c) (hd:s.dc z.toNat=true):t.dc z.toNat=true∧t.cd z.toNat=s.cd z.toNat:=by
 obtain⟨h1,h2⟩:=h.at hz;have h3:=h.le.dc _ h2 hd;refine⟨h3,?_⟩;have h4:=(h.bs.num hz hd).2.2;have h5:=(h.bt.num hz h3).2.2;have h6:=h.le.cd _ h2 _ (h.hd hz).1;rw[h4,ahL]at h6;rw[h5,h4,h6]
theorem acN {c:Int} {ls:List (List Int)} {sum:Int} {t:St} (h:bg c ls sum t) {z:Int} (hz:0≤z∧z<c) (hd:t.dc z.toNat=true):ls0 (t.cd z.toNat)=hd0 (t.cd z.toNat):=by
 have:=(h.num hz hd).2.2;rw[this];rfl
theorem KQ {s t:St} {sum:Int} {l:List Int} {but but':Int} {g g':Int→Int}
 (h:∀z∈l,(if s.dc z.toNat then hd0 (s.cd z.toNat)else 0)+(if !(s.dc z.toNat)&&decide (z≠but)then g z else 0)≤(if t.dc z.toNat then hd0 (t.cd z.toNat)else 0)+(if !(t.dc z.toNat)&&decide (z≠but')then g' z else 0)):
 rst t sum l-sF g' (opn t l but')≤rst s sum l-sF g (opn s l but):=by
 have:=wW h;rw[rP,rP]at this;rw[vZ,vZ,rQ,rQ];omega
theorem KS {s t:St} {sum:Int} {l:List Int} {but but':Int} {g g':Int→Int}
 (h:∀z∈l,(if t.dc z.toNat then hd0 (t.cd z.toNat)else 0)+(if !(t.dc z.toNat)&&decide (z≠but')then g' z else 0)≤(if s.dc z.toNat then hd0 (s.cd z.toNat)else 0)+(if !(s.dc z.toNat)&&decide (z≠but)then g z else 0)):
 rst s sum l-sF g (opn s l but)≤rst t sum l-sF g' (opn t l but'):=by
 have:=wW h;rw[rP,rP]at this;rw[vZ,vZ,rQ,rQ];omega
theorem KT {s t:St} {sum:Int} {l:List Int} {but but':Int} {g g':Int→Int}
 (h:∀z∈l,(if s.dc z.toNat then hd0 (s.cd z.toNat)else 0)+(if !(s.dc z.toNat)&&decide (z≠but)then g z else 0)=(if t.dc z.toNat then hd0 (t.cd z.toNat)else 0)+(if !(t.dc z.toNat)&&decide (z≠but')then g' z else 0)):
 rst s sum l-sF g (opn s l but)=rst t sum l-sF g' (opn t l but'):=by
 have h1:=KQ (sum:=sum) fun z hz=>aiw (h z hz);have h2:=KS (sum:=sum) fun z hz=>aiw (h z hz).symm;omega
theorem TS.opn {c:Int} {ls:List (List Int)} {sum:Int} {t s:St} (h:TS c ls sum t s) {l:List Int} (hl:∀z∈l,0≤z∧z<c) {y z:Int} (hz:z∈opn t l y):z∈opn s l y:=by
 obtain⟨h1,h2,h3⟩:=d9.1 hz;refine d9.2 ⟨h1,?_,h3⟩;cases hd:s.dc z.toNat with
 |false=>rfl
 |true=>rw[(h.dec (hl z h1) hd).1]at h2;cases h2
theorem TS.opn_len {c:Int} {ls:List (List Int)} {sum:Int} {t s:St} (h:TS c ls sum t s) {l:List Int} (hl:∀z∈l,0≤z∧z<c) (y:Int):(Eng.YtcechbdgokjmgaaGreatDoor.opn t l y).length≤(Eng.YtcechbdgokjmgaaGreatDoor.opn s l y).length:=by
 unfold Eng.YtcechbdgokjmgaaGreatDoor.opn;rw[←aix,←aix];refine List.countP_mono_left fun z hz hp=>?_;have:z∈Eng.YtcechbdgokjmgaaGreatDoor.opn t l y:=by unfold Eng.YtcechbdgokjmgaaGreatDoor.opn;exact ahh.2 ⟨hz,hp⟩
 have:=h.opn hl this;unfold Eng.YtcechbdgokjmgaaGreatDoor.opn at this;exact(ahh.1 this).2
def mrg (t:St) (h:Int→Int) (z:Int):Int:=if t.dc z.toNat then hd0 (t.cd z.toNat)else h z
theorem TS.ch {c:Int} {ls:List (List Int)} {sum:Int} {t s:St} (h:TS c ls sum t s) {l:List Int} (hl:∀z∈l,0≤z∧z<c) {y x r:Int} (hy:0≤y∧y<c) (hx:x∈t.cd y.toNat)
 {H:Int→Int} (hH:∀z∈l,z≠y→t.dc z.toNat=false→H z∈t.cd z.toNat∧H z≠x) (hd:∀z∈l,∀w∈l,z≠y→w≠y→t.dc z.toNat=false→t.dc w.toNat=false→z≠w→H z≠H w) (hr:sF (mrg t H) (Eng.YtcechbdgokjmgaaGreatDoor.opn s l y)=r):
 ChF s (Eng.YtcechbdgokjmgaaGreatDoor.opn s l y) [x] r (mrg t H):=by
 have inm:∀z∈Eng.YtcechbdgokjmgaaGreatDoor.opn s l y,mrg t H z∈t.cd z.toNat:=fun z hz=>by
  obtain⟨h1,h2,h3⟩:=d9.1 hz;unfold mrg;split
  ·exact(h.hd (hl z h1)).1
  ·rename_i hd
   exact(hH z h1 h3 (by simpa using hd)).1
 have key:∀(z w:Int),0≤z∧z<c→0≤w∧w<c→z≠w→t.dc z.toNat=true→∀v∈t.cd w.toNat,hd0 (t.cd z.toNat)≠v:=fun z w hz hw hne hd v hv e=>by
  have:=h.it z.toNat w.toNat (h.at hz).1 (h.at hw).1 (by omega) hd
  rw[e]at this;exact this hv
 refine⟨fun z hz=>?_,fun z hz w hw hne=>?_,hr⟩
 ·obtain⟨h1,h2,h3⟩:=d9.1 hz
  refine⟨h.le.cd _ (h.at (hl z h1)).2 _ (inm z hz),fun hm=>?_⟩;rw[ahL]at hm;unfold mrg at hm;split at hm
  ·rename_i hd1
   exact key z y (hl z h1) hy h3 hd1 x hx hm
  ·rename_i hd1
   exact(hH z h1 h3 (by simpa using hd1)).2 hm
 ·obtain⟨h1,h2,h3⟩:=d9.1 hz
  obtain⟨w1,w2,w3⟩:=d9.1 hw;cases ez:t.dc z.toNat with
  |true=>
   have:mrg t H z=hd0 (t.cd z.toNat):=by unfold mrg;rw[if_pos ez]
   rw[this];exact key z w (hl z h1) (hl w w1) hne ez _ (inm w hw)
  |false=>
   cases ew:t.dc w.toNat with
   |true=>
    have:mrg t H w=hd0 (t.cd w.toNat):=by unfold mrg;rw[if_pos ew]
    rw[this];exact fun e=>key w z (hl w w1) (hl z h1) (Ne.symm hne) ew _ (inm z hz) e.symm
   |false=>
    have e1:mrg t H z=H z:=by unfold mrg;rw[ez];rfl
    have e2:mrg t H w=H w:=by unfold mrg;rw[ew];rfl
    rw[e1,e2];exact hd z h1 w w1 h3 w3 ez ew hne
theorem UR {c:Int} {ls:List (List Int)} {sum:Int} {t s:St} (h:TS c ls sum t s) {g:Nat} {y x k:Int} (hL:nZ c ls g y x k) (hj:jst g s sum (ls.getD k.toNat []) y x=true) (hd:t.dc y.toNat=false) (hx:x∈t.cd y.toNat):
 jst g t sum (ls.getD k.toNat []) y x=true:=by
 have hg:=hL.gg;obtain⟨hyt,hys⟩:=h.at hL.yy;have hds:s.dc y.toNat=false:=by
  cases e:s.dc y.toNat with
  |false=>rfl
  |true=>rw[h.le.dc _ hys e]at hd;cases hd
 obtain rfl|rfl|rfl|rfl|rfl:g=1∨g=2∨g=3∨g=4∨g=5:=by omega
 ·obtain⟨hk,hm⟩:=hL.kk rfl
  have hl:=(h.bs.ln k.toNat (by omega)).rng
  simp only[jst,yB,afp,decide_eq_true_eq]at hj⊢;have h1:=h.opn_len hl y;have hle:(opn t (ls.getD k.toNat []) y).length=0:=by omega
  have h2:rst s sum (ls.getD k.toNat [])-sF (fun _=>0) (opn s (ls.getD k.toNat []) y)=rst t sum (ls.getD k.toNat [])-sF (fun _=>0) (opn t (ls.getD k.toNat []) y):=KT fun z hz=>by
   by_cases e:z=y
   ·subst e;rw[hd,hds];simp
   ·have:s.dc z.toNat=true:=by
     cases e1:s.dc z.toNat with
     |true=>rfl
     |false=>
      have:z∈opn s (ls.getD k.toNat []) y:=d9.2 ⟨hz,e1,e⟩;rw[aiu hj.1]at this;simp at this
    obtain⟨t1,t2⟩:=h.dec (hl z hz) this;rw[this,t1,t2]
  rw[Ch,Ch]at h2;exact⟨hle,by omega⟩
 ·simp only[jst,yC,decide_eq_true_eq]at hj⊢
  obtain⟨z,hz⟩:=ait.1 hj;have hp:=(h.bt.asc _ hyt).1.pw;have hall:∀v∈t.cd y.toNat,v=z:=fun v hv=>by
   have:=h.le.cd _ hys v hv;rw[hz]at this;exact ahL.1 this
  obtain⟨q,hq⟩:∃q,t.cd y.toNat=q:=⟨_,rfl⟩;rw[hq]at hp hall hx⊢;cases q with
  |nil=>simp at hx
  |cons a r=>
   cases r with
   |nil=>rfl
   |cons b r=>
    have h1:=hall a (by simp)
    have h2:=hall b (by simp)
    have h3:=(agw.1 hp).1 b (by simp)
    omega
 ·simp only[jst,qQ,agE,agU,agB,decide_eq_true_eq,ah9,decide_eq_false_iff_not]at hj⊢
  intro i hi;rw[h.le.len]at hi;rcases hj i hi with h1|h1
  ·exact .inl h1
  ·exact .inr fun hm=>h1 (h.le.cd i hi x hm)
 ·obtain⟨hk,hm⟩:=hL.kk rfl
  have hl:=(h.bs.ln k.toNat (by omega)).rng
  simp only[jst,yD,agB,ahC,decide_eq_true_eq]at hj⊢;rcases hj with⟨z,hz,e⟩|hj
  ·exfalso
   have h1:=hl z (d9.1 hz).1;have h2:=h.le.cd _ (h.at h1).2 _ (h.hd h1).1;rw[e]at h2;simp at h2
  ·refine .inr ?_
   rw[KL,KM]at hj⊢;rcases hj with hj|hj
   ·left
    have:=KQ (s:=s) (t:=t) (sum:=sum) (l:=ls.getD k.toNat []) (but:=y) (but':=y) (g:=fun y=>hd0 (s.cd y.toNat)) (g':=fun y=>hd0 (t.cd y.toNat)) fun z hz=>by
     by_cases e:z=y
     ·subst e;rw[hd,hds];simp
     ·cases e1:s.dc z.toNat with
      |true=>obtain⟨t1,t2⟩:=h.dec (hl z hz) e1;rw[t1,t2];simp
      |false=>
       have h3:=(h.hd (hl z hz)).2.2.1;cases e2:t.dc z.toNat<;>simp[e]<;>exact h3
    omega
   ·right
    have:=KS (s:=s) (t:=t) (sum:=sum) (l:=ls.getD k.toNat []) (but:=y) (but':=y) (g:=fun y=>ls0 (s.cd y.toNat)) (g':=fun y=>ls0 (t.cd y.toNat)) fun z hz=>by
     by_cases e:z=y
     ·subst e;rw[hd,hds];simp
     ·cases e1:s.dc z.toNat with
      |true=>obtain⟨t1,t2⟩:=h.dec (hl z hz) e1;rw[t1,t2];simp
      |false=>
       have h3:=(h.hd (hl z hz)).2.2.2;cases e2:t.dc z.toNat with
       |true=>have:=acN h.bt (hl z hz) e2;simp[e];omega
       |false=>simp[e];exact h3
    omega
 ·obtain⟨hk,hm⟩:=hL.kk rfl
  have hl:=(h.bs.ln k.toNat (by omega)).rng
  have hpw:=(h.bs.ln k.toNat (by omega)).pw
  simp only[jst,yE,afp,decide_eq_true_eq,ah9]at hj⊢;refine⟨by have:=h.opn_len hl y;omega,?_⟩
  cases hch:chs t (opn t (ls.getD k.toNat []) y) [x] (rst t sum (ls.getD k.toNat [])-x)with
  |false=>rfl
  |true=>
   exfalso
   obtain⟨H,h1,h2,h3⟩:=(Ci t _ _ _ (Hy hpw)).1 hch;have hs:=KT (s:=s) (t:=t) (sum:=sum) (l:=ls.getD k.toNat []) (but:=y) (but':=y) (g:=mrg t H) (g':=H) fun z hz=>by
    by_cases e:z=y
    ·subst e;rw[hd,hds];simp
    ·cases e1:s.dc z.toNat with
     |true=>obtain⟨t1,t2⟩:=h.dec (hl z hz) e1;rw[t1,t2];simp
     |false=>cases e2:t.dc z.toNat<;>simp[e,mrg,e2]
   have:=(Ci s _ _ _ (Hy hpw)).2 ⟨_,h.ch (y:=y) (x:=x) (r:=rst s sum (ls.getD k.toNat [])-x) hl hL.yy hx (H:=H)
    (fun z hz hne hdz=>⟨(h1 z (d9.2 ⟨hz,hdz,hne⟩)).1,fun e=>(h1 z (d9.2 ⟨hz,hdz,hne⟩)).2 (by rw[e];simp)⟩)
    (fun z hz w hw hz' hw' dz dw hne=>h2 z (d9.2 ⟨hz,dz,hz'⟩) w (d9.2 ⟨hw,dw,hw'⟩) hne) (by omega)⟩
   rw[this]at hj;exact absurd hj.2 (by simp)
theorem acO {c:Int} {ls:List (List Int)} {sum:Int} {t s:St} (h:TS c ls sum t s) {g:Nat} {y x k:Int} (hL:nZ c ls g y x k) (h3:g≤3→t.dc y.toNat=true∧t.cd y.toNat=[x]) (h4:4≤g→x∉t.cd y.toNat):LeS t (apl g s y x):=by
 obtain⟨hyt,hys⟩:=h.at hL.yy;have hsd:y.toNat<s.ds.length:=by have:=h.bs.dl;have:=hL.yy;omega
 refine⟨by rw[mU.1];exact h.le.len,fun i hi v hv=>?_,fun i hi hdi=>?_⟩
 ·rw[mU.1]at hi
  have hm:=h.le.cd i hi v hv;rw[Am hys i hi];by_cases hg:g≤3
  ·obtain⟨e1,e2⟩:=h3 hg
   rw[if_pos hg];split
   ·rename_i e;subst e;rw[e2]at hv;exact hv
   ·rename_i e
    refine gJ.2 ⟨hm,fun e3=>?_⟩;have:=h.it y.toNat i hyt (by rw[h.le.len];exact hi) (Ne.symm e) e1
    rw[e2]at this;exact this (by rw[e3]at hv;exact hv)
  ·rw[if_neg hg]
   split
   ·rename_i e;subst e
    exact gJ.2 ⟨hm,fun e3=>h4 (by omega) (e3▸hv)⟩
   ·exact hm
 ·rw[mU.1]at hi
  rw[GA hsd]at hdi;by_cases hg:g≤3∧i=y.toNat
  ·rw[hg.2];exact(h3 hg.1).1
  ·rw[if_neg hg]at hdi
   exact h.le.dc i hi hdi
theorem adG {c:Int} {ls:List (List Int)} {sum:Int} {t s:St} {f:List Int} (hB:bg c ls sum t) (hI:StI t) (hA:Alw t f) (hBs:bg c ls sum s) (hle:LeS t s):TS c ls sum t s:=
 ⟨hB,hI,fun i hi=>aiy (hA.mem i (by rw[←hA.len];exact hi)),hBs,hle⟩
theorem acP {c:Int} {ls:List (List Int)} {sum:Int} {t s:St} {f:List Int} (hf:gK c ls sum f) (hA:Alw t f) (h:TS c ls sum t s) {n:Nat} (hS:OJ c ls sum n t) {g:Nat} (hgn:g≤n) {y x k:Int} (hL:nZ c ls g y x k) (hj:okJ g s sum (ls.getD k.toNat []) y x=true):LeS t (apl g s y x):=by
 obtain⟨hds,hxs,hjs⟩:=iP.1 hj;have hAs:Alw s f:=⟨h.le.len.symm.trans hA.len,fun i hi=>h.le.cd i (by rw[←h.le.len,hA.len];exact hi) _ (hA.mem i hi)⟩
 have hs:=sound h.bs hAs hf hL hj;obtain⟨hyt,hys⟩:=h.at hL.yy;have hyf:y.toNat<f.length:=by rw[←hA.len];exact hyt
 have hno:=hS g y x k hL hgn;have hfm:=hA.mem _ hyf;have hopen:t.dc y.toNat=false→x∉t.cd y.toNat:=fun hd hx=>by
  have:=iP.2 ⟨hd,hx,UR h hL hjs hd hx⟩;rw[hno]at this;cases this
 refine acO h hL (fun hg=>?_) fun hg hx=>?_
 ·have hfy:=hs.1 hg
  have hd:t.dc y.toNat=true:=by
   cases e:t.dc y.toNat with
   |true=>rfl
   |false=>exact absurd (hfy▸hfm) (hopen e)
  exact⟨hd,by rw[hA.dec h.bt hyf hd,hfy]⟩
 ·have hfy:f.getD y.toNat 0≠x:=fun e=>by have:=hs.2 e;omega
  cases e:t.dc y.toNat with
  |false=>exact hopen e hx
  |true=>
   rw[hA.dec h.bt hyf e,ahL]at hx;exact hfy hx.symm
structure Unb (c:Int) (ls:List (List Int)) (sum:Int) (t:St):Prop where
 num:∀x:Int,1≤x→x≤c→∃i,i<t.cs.length∧x∈t.cd i
 ne:NeS t
 line:∀k,k<ls.length→opn t (ls.getD k []) (-1)=[]→rst t sum (ls.getD k [])=0
inductive Run (c:Int) (ls:List (List Int)) (sum:Int) (n:Nat):St→St→Prop
 |refl (s:St):Run c ls sum n s s
 |step {s t:St} {g:Nat} {y x k:Int}:nZ c ls g y x k→g≤n→okJ g s sum (ls.getD k.toNat []) y x=true→Run c ls sum n (apl g s y x) t→Run c ls sum n s t
theorem Run.ok {c:Int} {ls:List (List Int)} {sum:Int} {n:Nat} {s t:St} (h:Run c ls sum n s t):bg c ls sum s→StI s→bg c ls sum t∧StI t:=by
 induction h with
 |refl s=>exact fun a b=>⟨a,b⟩
 |step hL _ hj _ ih=>
  intro hB hI;obtain⟨h4,h5,h6⟩:=iP.1 hj;obtain⟨h7,h8⟩:=nQ hB hI hL.yy hL.xx h4 h5;exact ih h7 h8
theorem LeS.refl (s:St):LeS s s:=⟨rfl,fun _ _ _ h=>h,fun _ _ h=>h⟩
theorem LeS.trans {r t s:St} (h:LeS r t) (h':LeS t s):LeS r s:=⟨h.len.trans h'.len,fun i hi x hx=>h'.cd i hi x (h.cd i (by rw[h'.len];exact hi) x hx),fun i hi hd=>h.dc i (by rw[h'.len];exact hi) (h'.dc i hi hd)⟩
theorem acQ {c:Int} {ls:List (List Int)} {sum:Int} {s:St} (hB:bg c ls sum s) {g:Nat} {y x k:Int} (hL:nZ c ls g y x k) (hj:okJ g s sum (ls.getD k.toNat []) y x=true):LeS (apl g s y x) s:=by
 obtain⟨h4,h5,h6⟩:=iP.1 hj;have hy:=hL.yy;have hcl:=hB.cl;have hdl:=hB.dl;refine⟨mU.1,fun i hi v hv=>?_,fun i hi hd=>?_⟩
 ·rw[Am (by omega) i hi]at hv
  split at hv
  ·split at hv
   ·rename_i e;subst e;rw[ahL.1 hv];exact h5
   ·exact(gJ.1 hv).1
  ·split at hv
   ·rename_i e;subst e;exact(gJ.1 hv).1
   ·exact hv
 ·rw[GA (by omega)]
  split
  ·rfl
  ·exact hd
theorem Run.le {c:Int} {ls:List (List Int)} {sum:Int} {n:Nat} {s t:St} (h:Run c ls sum n s t):bg c ls sum s→StI s→LeS t s:=by
 induction h with
 |refl s=>exact fun _ _=>.refl s
 |step hL _ hj _ ih=>
  intro hB hI;obtain⟨h4,h5,h6⟩:=iP.1 hj;obtain⟨h7,h8⟩:=nQ hB hI hL.yy hL.xx h4 h5;exact(ih h7 h8).trans (acQ hB hL hj)
theorem Run.one {c:Int} {ls:List (List Int)} {sum:Int} {n:Nat} {s t:St} {g:Nat} {y x k:Int} (h:Run c ls sum n s t) (hL:nZ c ls g y x k) (hg:g≤n) (hj:okJ g t sum (ls.getD k.toNat []) y x=true):Run c ls sum n s (apl g t y x):=by
 induction h with
 |refl s=>exact .step hL hg hj (.refl _)
 |step a b d _ ih=>exact .step a b d (ih hj)
theorem ZV {c:Int} {ls:List (List Int)} {sum:Int} {t:St} {f:List Int} (hBt:bg c ls sum t) (hIt:StI t) (hf:gK c ls sum f) (hA:Alw t f) {n:Nat} (hS:OJ c ls sum n t) {s s':St} (h:Run c ls sum n s s'):bg c ls sum s→StI s→LeS t s→LeS t s':=by
 induction h with
 |refl s=>exact fun _ _ h=>h
 |step hL hg hj _ ih=>
  intro hB hI hle;obtain⟨h4,h5,h6⟩:=iP.1 hj;obtain⟨h7,h8⟩:=nQ hB hI hL.yy hL.xx h4 h5;exact ih h7 h8 (acP hf hA (adG hBt hIt hA hB hle) hS hg hL hj)
theorem acR {c:Int} {ls:List (List Int)} {sum:Int} {t:St} (hB:bg c ls sum t) {n:Nat} (h:gN t sum ls n=none):OJ c ls sum n t:=fun g y x k hL hg=>by
 cases e:okJ g t sum (ls.getD k.toNat []) y x with
 |false=>rfl
 |true=>
  exfalso
  have h1:=QK.1 h g hL.gg.1 hg;have hcl:=hB.cl;have hy:=hL.yy;have:(⟨g,y,x,if lnG g then k else-1⟩:Dd)∈kK g t sum ls:=by
   refine qd.2 ⟨rfl,by simp only;omega,?_,?_⟩
   ·cases hl:lnG g with
    |true=>exact hL.kk hl
    |false=>rfl
   ·cases hl:lnG g with
    |true=>exact e
    |false=>
     have e1:=iP.1 e;refine iP.2 ⟨e1.1,e1.2.1,?_⟩;have hg5:=hL.gg;obtain rfl|rfl|rfl|rfl|rfl:g=1∨g=2∨g=3∨g=4∨g=5:=by omega
     all_goals first|(cases hl;done)|exact e1.2.2
  rw[h1]at this;simp at this
theorem Cj {t:St} (hl:t.ds.length=t.cs.length):don t=true↔∀i,i<t.cs.length→t.dc i=true:=by
 unfold don;simp only[ah9,ahD,Bool.not_eq_true,aiv];constructor
 ·intro h i hi
  have:=h (t.dc i) (dZ (by omega))
  cases e:t.dc i with
  |true=>rfl
  |false=>exact absurd e this
 ·intro h b hb
  obtain⟨i,hi,rfl⟩:=afi hb;have:=h i (by omega)
  unfold St.dc at this;rw[afe,afj hi]at this;rw[show t.ds[i]=true from this];simp
structure Ends (c:Int) (ls:List (List Int)) (sum:Int) (n:Nat) (s:St) (r:List Dd × St × Int):Prop where
 cases:(∃t,Run c ls sum n s t∧brk c ls sum t=true∧r.2.2=21)∨(Run c ls sum n s r.2.1∧brk c ls sum r.2.1=false∧((don r.2.1=true∧r.2.2=0)∨(don r.2.1=false∧gN r.2.1 sum ls n=none∧r.2.2=23)))
theorem Rs {c:Int} {ls:List (List Int)} {sum:Int} {n:Nat} (hn:n≤5):∀(u:Nat) (s:St) (l:List Dd),bg c ls sum s→StI s→muS s<u→Ends c ls sum n s (iK c ls sum n u s l):=by
 intro u;induction u with
 |zero=>intro s l _ _ h;omega
 |succ u ih=>
  intro s l hB hI hmu;unfold iK;cases hb:brk c ls sum s with
  |true=>exact⟨.inl ⟨s,.refl s,hb,by simp⟩⟩
  |false=>
   simp only[afQ,if_false];cases hd:don s with
   |true=>exact⟨.inr ⟨by simpa using Run.refl s,by simpa using hb,.inl (by simpa using hd)⟩⟩
   |false=>
    simp only[afQ,if_false];cases hf:gN s sum ls n with
    |none=>exact⟨.inr ⟨.refl s,hb,.inr ⟨hd,hf,rfl⟩⟩⟩
    |some d=>
     simp only;obtain⟨h1,h2,h3⟩:=KP hB hn hf;obtain⟨h4,h5,h6⟩:=iP.1 h2;obtain⟨h7,h8⟩:=nQ hB hI (g:=d.g) h1.yy h1.xx h4 h5;have hcl:=hB.cl;have hdl:=hB.dl;have hy:=h1.yy;have hm:=QN (g:=d.g) (y:=d.y) (by omega) (by omega) h4 h5
     have:=(ih _ (l++[d]) h7 h8 (by omega)).cases
     refine⟨?_⟩;rcases this with⟨t,r1,r2⟩|⟨r1,r2⟩
     ·exact .inl ⟨t,.step h1 h3 h2 r1,r2⟩
     ·exact .inr ⟨.step h1 h3 h2 r1,r2⟩
theorem HY {c:Int} {ls:List (List Int)} {sum:Int} {gv:List Int} (h:cK c ls sum gv) {n:Nat} (hn:n≤5):Ends c ls sum n (bgn c gv) (sol c ls sum gv n):=by
 have hB:=lX h;exact Rs hn 273 _ [] hB (oV h) (by have:=QO hB;omega)
theorem Ck {c:Int} {ls:List (List Int)} {sum:Int} {gv f:List Int} (h:cK c ls sum gv) (hf:gK c ls sum f) (hg:∀i,i<gv.length→0<gv.getD i 0→gv.getD i 0=f.getD i 0):Alw (bgn c gv) f:=by
 have hl:=h.gl;have hfl:=hf.len;have hc:=h.c1;refine⟨by rw[eU.1];omega,fun i hi=>?_⟩
 have hig:i<gv.length:=by omega
 rw[vN hig];split
 ·rename_i h0
  rw[hg i hig h0];simp
 ·rename_i h0
  refine(mR (by omega)).2 ⟨hf.rng hi,fun hm=>?_⟩
  obtain⟨j,hj,e⟩:=(bO _ _).1 hm;have h1:=hf.rng hi;have h2:=hg j hj (by omega)
  have:=hf.inj hi (by omega) (e.symm.trans h2)
  subst this;omega
theorem acS {c:Int} {ls:List (List Int)} {sum:Int} {gv gv':List Int} (h:cK c ls sum gv) (h':cK c ls sum gv') (hg:∀i,i<gv.length→0<gv.getD i 0→gv'.getD i 0=gv.getD i 0):LeS (bgn c gv') (bgn c gv):=by
 have hl:=h.gl;have hl':=h'.gl;have hc:=h.c1;refine⟨by rw[eU.1,eU.1];omega,fun i hi v hv=>?_,fun i hi hd=>?_⟩
 ·rw[eU.1]at hi
  rw[vN hi];rw[vN (by omega)]at hv
  by_cases h0:0<gv.getD i 0
  ·rw[hg i hi h0,if_pos h0]at hv
   rw[if_pos h0];exact hv
  ·rw[if_neg h0]
   have nin:∀w:Int,1≤w→w∈gv→∃j,j<gv.length∧j≠i∧gv.getD j 0=w∧gv'.getD j 0=w:=fun w h1 hm=>by
    obtain⟨j,hj,e⟩:=(bO _ _).1 hm;refine⟨j,hj,fun e1=>?_,e,?_⟩
    ·subst e1;omega
    ·rw[hg j hj (by omega)];exact e
   split at hv
   ·rename_i h1
    rw[ahL]at hv;subst hv;have hr:=h'.gr _ (dZ (l:=gv') (d:=0) (show i<gv'.length by omega))
    refine(mR (by omega)).2 ⟨by omega,fun hm=>?_⟩
    obtain⟨j,hj,hne,e1,e2⟩:=nin _ (by omega) hm
    rcases Nat.lt_or_ge j i with hji|hji
    ·exact h'.gd j i hji (by omega) (by omega) e2
    ·exact h'.gd i j (by omega) (by omega) (by omega) e2.symm
   ·have:=(mR (by omega)).1 hv
    refine(mR (by omega)).2 ⟨this.1,fun hm=>?_⟩
    obtain⟨j,hj,hne,e1,e2⟩:=nin v this.1.1 hm;exact this.2 (by rw[←e2];exact dZ (by omega))
 ·rw[eU.1]at hi
  rw[Ao hi,decide_eq_true_eq]at hd;rw[Ao (by omega),decide_eq_true_eq,hg i hi hd]
  exact hd
theorem tY {c:Int} {ls:List (List Int)} {sum:Int} {gv gv' f:List Int} (h:cK c ls sum gv) (h':cK c ls sum gv') (hf:gK c ls sum f) (hg:∀i,i<gv.length→0<gv.getD i 0→gv'.getD i 0=gv.getD i 0)
 (hg':∀i,i<gv'.length→0<gv'.getD i 0→gv'.getD i 0=f.getD i 0) {n n':Nat} (hn:n≤n') (hn':n'≤5) (h0:(sol c ls sum gv n).2.2=0):(sol c ls sum gv' n').2.2=0:=by
 have hB':=lX h';have hI':=oV h';have hA:=Ck h' hf hg';obtain⟨a1,a2,a3⟩:=HV hf hn' 273 (bgn c gv') [] hB' hI' hA;have hE':=(HY h' hn').cases
 have hE:=(HY h (show n≤5 by omega)).cases
 rcases hE' with⟨t,_,_,e⟩|⟨r1,r2,r3|⟨r4,r5,r6⟩⟩
 ·exact absurd e a1
 ·exact r3.2
 ·exfalso
  rcases hE with⟨t,_,_,e⟩|⟨q1,q2,q3|⟨_,_,q6⟩⟩
  ·rw[h0]at e;cases e
  ·have hB:=lX h
   have hI:=oV h;obtain⟨o1,o2⟩:=r1.ok hB' hI';have hS:OJ c ls sum n (sol c ls sum gv' n').2.1:=fun g y x k hL hgn=>acR o1 r5 g y x k hL (by omega)
   have hle:=ZV o1 o2 hf a2 hS q1 hB hI ((r1.le hB' hI').trans (acS h h' hg));obtain⟨p1,p2⟩:=q1.ok hB hI;have hdl1:=o1.dl;have hcl1:=o1.cl;have hdl2:=p1.dl;have hcl2:=p1.cl;have h1:=(Cj (by omega)).1 q3.1
   have h2:don (sol c ls sum gv' n').2.1=true:=(Cj (by omega)).2 fun i hi=>hle.dc i (by rw[←hle.len];exact hi) (h1 i (by rw[←hle.len];exact hi))
   rw[h2]at r4;cases r4
  ·rw[h0]at q6;cases q6
end Go.Eng.YtcechbdgokjmgaaGreatDoor
namespace Go.Eng.YtcechbdgokjmgaaGreatDoor
open Go.Proofs
set_option linter.unusedSimpArgs false
set_option linter.unusedVariables false
set_option maxHeartbeats 0
set_option maxRecDepth 100000
theorem cK.set0 {c:Int} {ls:List (List Int)} {sum:Int} {gv:List Int} (h:cK c ls sum gv) (k:Nat):cK c ls sum (gv.set k 0):=by
 have hc:=h.c1;have ha:∀i,(gv.set k 0).getD i 0=if i=k then 0 else gv.getD i 0:=fun i=>by
  rw[afe,afC];by_cases e:k=i
  ·subst e;rw[if_pos rfl,if_pos rfl];split<;>rfl
  ·rw[if_neg e,if_neg (fun e'=>e e'.symm),←afe]
 refine⟨h.c1,h.ll,h.ln,h.sm,by rw[afE];exact h.gl,fun x hx=>?_,fun i j hij hj hpos e=>?_⟩
 ·obtain⟨i,hi,rfl⟩:=(bO _ x).1 hx
  rw[afE]at hi;rw[ha];split
  ·omega
  ·exact h.gr _ (dZ hi)
 ·rw[afE]at hj
  rw[ha]at hpos;rw[ha,ha]at e;by_cases e1:j=k
  ·rw[if_pos e1]at hpos;omega
  ·rw[if_neg e1]at hpos e
   by_cases e2:i=k
   ·rw[if_pos e2]at e;omega
   ·rw[if_neg e2]at e;exact h.gd i j hij hj hpos e
def yX (c:Int) (ls:List (List Int)) (sum:Int) (gv:List Int) (g:Nat):Bool:=
 (afc gv.length).all fun i=>decide (gv.getD i 0=0)||decide ((sol c ls sum (gv.set i 0) g).2.2≠0)
def wm (c:Int) (ls:List (List Int)) (sum:Int) (gv:List Int) (g:Int):Bool × Int:=
 if aK [pzE c ls sum gv,fI g]≠0 then(false,aK [pzE c ls sum gv,fI g])else if(sol c ls sum gv g.toNat).2.2≠0 then(false,23)else(yX c ls sum gv g.toNat,0)
noncomputable def aeM:CPT:=aA 22 (aB lV) (aA 88 (aB jv) (aA 98 (aB nL) (aA 99 (jM vP) (aA 124 (fq [] Ew) noC))))
theorem rR:aZ Tryz.prog aeM:=aj (au lq) (aj (au iV) (aj (au qV) (aj (gV yP) (aj (dH [] KG) aD))))
theorem OL {c:Int} {ls:List (List Int)} {sum:Int} {gv:List Int} {g i:Nat} (hi:i<gv.length) (h0:gv.getD i 0≠0) (h:(sol c ls sum (gv.set i 0) g).2.2=0):yX c ls sum gv g=false:=by
 unfold yX;rw[aiq];exact⟨i,agU.2 hi,by rw[decide_eq_false h0,h];decide⟩
theorem Cm (c:Int) (ls:List (List Int)) (sum:Int) (gv:List Int) (g:Int) (h:bN ls) (hgl:gv.length≤5000):
 aF Tryz.prog 58 [pzV c ls sum gv,.int .i64 g] (.tup [.bp (wm c ls sum gv g).1,.int .i64 (wm c ls sum gv g).2]):=by
 unfold wm;by_cases h1:aK [pzE c ls sum gv,fI g]=0
 case neg=>
  rw[if_pos h1];refine av (md:=1) (rf:=[]) mixed ak rR Tryz.func58 (by rfl) (by rfl) (by rfl) ?_
  repeat'((conv=>whnf);first|(intro hq;(try simp only[vw]at hq);try first|exact absurd hq (by decide)|exfalso;omega)|apply aI|with_reducible exact vM rfl|exact⟨⟩|apply nM|apply fM)
  all_goals((try apply vM);(try simp only[vq]at*);try omega)
  all_goals first|exact⟨h,hgl⟩|exact rH _ _|(exfalso;exact h1 (by assumption))|(exfalso;contradiction)|skip
 rw[if_neg (by rw[h1];simp)]
 obtain⟨he,hgr⟩:=yQ h1;have hp:=cK.of he;have hg5:=Db hgr;have hc:=hp.c1;have hll:=hp.ll;have hgl':=hp.gl;have hcond:∀gw:List Int,gw.length=gv.length→(1≤gw.length∧gw.length≤1000000)∧ls.length≤5000∧∀i,i<ls.length→1≤(ls.getD i []).length∧(ls.getD i []).length≤5000:=fun gw e=>⟨by omega,by omega,fun i hi=>by have:=hp.ln i hi;have:=this.ne;have:=(hp.ln i hi).len;omega⟩
 cases ho:fT (sol c ls sum gv g.toNat)with
 |none=>
  have he2:(sol c ls sum gv g.toNat).2.2≠0:=by
   unfold fT at ho;by_cases e:(sol c ls sum gv g.toNat).2.2=21
   ·rw[e];decide
   ·rw[if_neg e]at ho;cases ho
  rw[if_pos he2];refine av (md:=1) (rf:=[]) mixed ak rR Tryz.func58 (by rfl) (by rfl) (by rfl) ?_
  repeat'((conv=>whnf);first|refine Exists.intro (none) ?_|(intro hq;(try simp only[vw]at hq);try first|exact absurd hq (by decide)|exfalso;omega)|apply aI|with_reducible exact vM rfl|exact⟨⟩|apply nM|apply fM)
  all_goals((try apply vM);(try simp only[vq]at*);try omega)
  all_goals first|exact⟨h,hgl⟩|exact⟨hp,by omega,ho⟩|exact rH _ _|(exfalso;exact(‹_≠(0:Int)›) h1)|(exfalso;contradiction)|skip
 |some r=>
  have hr:sol c ls sum gv g.toNat=r:=by
   unfold fT at ho;by_cases e:(sol c ls sum gv g.toNat).2.2=21
   ·rw[if_pos e]at ho;cases ho
   ·rw[if_neg e]at ho;exact Option.some.inj ho
  rw[hr];by_cases h2:r.2.2=0
  case neg=>
   rw[if_pos h2];refine av (md:=1) (rf:=[]) mixed ak rR Tryz.func58 (by rfl) (by rfl) (by rfl) ?_
   repeat'((conv=>whnf);first|refine Exists.intro (some r) ?_|(intro hq;(try simp only[vw]at hq);try first|exact absurd hq (by decide)|exfalso;omega)|apply aI|with_reducible exact vM rfl|exact⟨⟩|apply nM|apply fM)
   all_goals((try apply vM);(try simp only[vq]at*);try omega)
   all_goals first|exact⟨h,hgl⟩|exact⟨hp,by omega,ho⟩|exact rH _ _|(exfalso;exact(‹_≠(0:Int)›) h1)|(exfalso;contradiction)|skip
  rw[if_neg (by rw[h2];simp)]
  refine av (md:=1) (rf:=[]) mixed ak rR Tryz.func58 (by rfl) (by rfl) (by rfl) ?_
  repeat'((conv=>whnf);first|refine Exists.intro (some r) ?_|(intro hq;(try simp only[vw]at hq);try first|exact absurd hq (by decide)|exfalso;omega)|apply aI|with_reducible exact vM rfl|exact⟨⟩|apply nM|apply fM)
  all_goals((try apply vM);(try simp only[vq]at*);try omega)
  all_goals(try first|exact⟨h,hgl⟩|exact⟨hp,by omega,ho⟩|(exfalso;exact(‹_≠(0:Int)›) h1)|(exfalso;contradiction))
  conv=>whnf
  refine aL (X:=Nat) (fun i=>i≤gv.length∧∀j,j<i→(decide (gv.getD j 0=0)||decide ((sol c ls sum (gv.set j 0) g.toNat).2.2≠0))=true) (fun i=>[(37,.int .i64 i)]) (fun i=>[]) (fun i=>gv.length-i) 0 ⟨aJ,mixed,ak,rR,aP⟩ (by rfl) ⟨by omega,fun j hj=>by omega⟩ ?_ ?_
  ·repeat'((conv=>whnf);first|intro _|apply aI|with_reducible exact vM rfl|exact⟨⟩|apply nM|apply fM)
   all_goals((try apply vM);(try simp only[vq]at*);try omega)
  intro i ⟨hi,hall⟩;by_cases hlt:i<gv.length
  ·by_cases h0:gv.getD i 0=0
   ·repeat'((conv=>whnf);first|(intro hq;(try simp only[vw]at hq);try first|exact absurd hq (by decide)|exfalso;omega)|apply aI|with_reducible exact vM rfl|exact⟨⟩|apply nM|apply fM)
    all_goals((try apply vM);(try simp only[vq]at*);try omega)
    all_goals(try omega)
    refine⟨i+1,[],⟨⟨by omega,fun j hj=>?_⟩,by omega⟩,?_⟩
    ·by_cases e:j=i
     ·subst e;rw[decide_eq_true h0];rfl
     ·exact hall j (by omega)
    repeat'((conv=>whnf);first|intro _|apply aI|with_reducible exact vM rfl|exact⟨⟩|apply nM|apply fM)
    all_goals((try apply vM);(try simp only[vq]at*);try omega)
   have hpi:=hp.set0 i;have hl2:(gv.set i 0).length=gv.length:=afE ..;have tk:ahH (gv.length-0) (ahI 0 (gv.set i 0))=gv.set i 0:=dh hl2;cases ho2:fT (sol c ls sum (gv.set i 0) g.toNat)with
   |none=>
    have he3:(sol c ls sum (gv.set i 0) g.toNat).2.2≠0:=by
     unfold fT at ho2;by_cases e:(sol c ls sum (gv.set i 0) g.toNat).2.2=21
     ·rw[e];decide
     ·rw[if_neg e]at ho2;cases ho2
    repeat'((conv=>whnf);first|refine Exists.intro (none) ?_|(intro hq;(try simp only[vw]at hq);try first|exact absurd hq (by decide)|exfalso;omega)|apply aI|with_reducible exact vM rfl|exact⟨⟩|apply nM|apply fM)
    all_goals((try apply vM);(try simp only[vq]at*);try omega)
    all_goals(try first|exact hcond _ rfl|exact⟨by rw[tk];exact hpi,by omega,by rw[tk];exact ho2⟩|omega)
    refine⟨i+1,[],⟨⟨by omega,fun j hj=>?_⟩,by omega⟩,?_⟩
    ·by_cases e:j=i
     ·subst e;rw[decide_eq_true he3,aiz]
     ·exact hall j (by omega)
    repeat'((conv=>whnf);first|intro _|apply aI|with_reducible exact vM rfl|exact⟨⟩|apply nM|apply fM)
    all_goals((try apply vM);(try simp only[vq]at*);try omega)
   |some r2=>
    have hr2:sol c ls sum (gv.set i 0) g.toNat=r2:=by
     unfold fT at ho2;by_cases e:(sol c ls sum (gv.set i 0) g.toNat).2.2=21
     ·rw[if_pos e]at ho2;cases ho2
     ·rw[if_neg e]at ho2;exact Option.some.inj ho2
    repeat'((conv=>whnf);first|refine Exists.intro (some r2) ?_|(intro hq;(try simp only[vw]at hq);try first|exact absurd hq (by decide)|exfalso;omega)|apply aI|with_reducible exact vM rfl|exact⟨⟩|apply nM|apply fM)
    all_goals((try apply vM);(try simp only[vq]at*);try omega)
    all_goals(try first|exact hcond _ rfl|exact⟨by rw[tk];exact hpi,by omega,by rw[tk];exact ho2⟩|omega)
    all_goals(try(rw[OL hlt h0 (by rw[hr2];assumption)];exact rH _ _))
    refine⟨i+1,[],⟨⟨by omega,fun j hj=>?_⟩,by omega⟩,?_⟩
    ·by_cases e:j=i
     ·subst e;rw[hr2,decide_eq_true (p:=r2.2.2≠0) (by assumption),aiz]
     ·exact hall j (by omega)
    repeat'((conv=>whnf);first|intro _|apply aI|with_reducible exact vM rfl|exact⟨⟩|apply nM|apply fM)
    all_goals((try apply vM);(try simp only[vq]at*);try omega)
  have e:i=gv.length:=by omega
  subst e;have ht:yX c ls sum gv g.toNat=true:=by
   unfold yX;rw[agE];exact fun j hj=>hall j (agU.1 hj)
  rw[ht]
  repeat'((conv=>whnf);first|(intro hq;(try simp only[vw]at hq);try first|exact absurd hq (by decide)|exfalso;omega)|apply aI|with_reducible exact vM rfl|exact⟨⟩|apply nM|apply fM)
  all_goals((try apply vM);(try simp only[vq]at*);try omega)
  all_goals first|omega|exact rH _ _|skip
end Go.Eng.YtcechbdgokjmgaaGreatDoor
namespace Go.Eng.YtcechbdgokjmgaaGreatDoor
set_option linter.unusedSimpArgs false
set_option linter.unusedVariables false
def okP (ls:List (List Int)) (sum:Int) (f:List Int):Bool:=ls.all fun l=>!decide (l.getD (l.length-1) 0<f.length)||decide (eB f l=sum)
theorem acT {l:List Int} (hp:l.Pairwise (·< ·)) {a:Int} (ha:∀x∈l,a≤x):∀i,i<l.length→a+i≤l.getD i 0:=by
 intro i;induction i with
 |zero=>intro hi;have:=ha _ (dZ (d:=(0:Int)) hi);omega
 |succ i ih=>
  intro hi;have h1:=ih (by omega)
  have h2:=aik.1 hp i (i+1) (by omega) hi (by omega)
  rw[eT (show i<l.length by omega)]at h1
  rw[eT hi];omega
theorem acU {l:List Int} (hp:l.Pairwise (·< ·)) {b:Int} (hb:∀x∈l,x≤b):∀d i,i+d+1=l.length→l.getD i 0+d≤b:=by
 intro d;induction d with
 |zero=>intro i hi;have:=hb _ (dZ (l:=l) (d:=(0:Int)) (show i<l.length by omega));omega
 |succ d ih=>
  intro i hi;have h1:=ih (i+1) (by omega)
  have h2:=aik.1 hp i (i+1) (by omega) (by omega) (by omega)
  rw[eT (show i+1<l.length by omega)]at h1
  rw[eT (show i<l.length by omega)];omega
theorem acV {F:List Int} (hn:F.Nodup) (hr:∀x∈F,1≤x∧x≤F.length):kM F=true:=by
 have hp:(dY F).Perm F:=aif F _;have hs:(dY F).Pairwise (·≤ ·):=by
  have:=List.pairwise_mergeSort (le:=fun x y:Int=>decide (x≤y)) (fun a b c h1 h2=>by simp at*;omega) (fun a b=>by simp;omega) F
  exact this.imp fun h=>by simpa using h
 have hs2:(dY F).Pairwise (·< ·):=by
  have hn2:(dY F).Pairwise (·≠ ·):=hp.nodup_iff.2 hn;exact hs.imp₂ (fun a b h1 h2=>by omega) hn2
 have hlo:=acT hs2 (a:=1) fun x hx=>(hr x (hp.mem_iff.1 hx)).1;have hhi:=acU hs2 (b:=F.length) fun x hx=>(hr x (hp.mem_iff.1 hx)).2;refine Dc fun i hi=>?_;have h1:=hlo i (by rw[jL];exact hi)
 have h2:=hhi (F.length-1-i) i (by rw[jL];omega)
 omega
structure aeN (c:Int) (ls:List (List Int)) (sum:Int) (gv F:List Int):Prop where
 s:gK c ls sum F
 g:∀i,i<gv.length→0<gv.getD i 0→gv.getD i 0=F.getD i 0
theorem HZ {F:List Int} {i:Nat} {x:Int} (hi:i≤F.length):x∈F.take i↔∃j,j<i∧F.getD j 0=x:=by
 constructor
 ·intro h
  obtain⟨j,hj,e⟩:=(bO _ _).1 h;rw[afR]at hj;refine⟨j,by omega,?_⟩
  rw[←e,afe,afe,List.getElem?_take_of_lt (by omega)]
 ·rintro⟨j,hj,e⟩
  rw[←e];exact qW hj hi
structure SrJ (c:Int) (ls:List (List Int)) (sum:Int) (gv:List Int) (f:Nat) (N U:List Int):Prop where
 fl:f≤gv.length
 nl:N.length=gv.length
 tl:∀j,gv.length-f≤j→j<gv.length→N.getD j 0=gv.getD j 0
 us:∀x:Int,1≤x→(x∈U↔x∈gv∨x∈N.take (gv.length-f))
 gd:∀i,i<gv.length-f→(0<gv.getD i 0→N.getD i 0=gv.getD i 0)∧(gv.getD i 0=0→N.getD i 0∉gv)
 pv:1≤gv.length-f→okP ls sum (N.take (gv.length-f-1))=true
end Go.Eng.YtcechbdgokjmgaaGreatDoor
namespace Go.Eng.YtcechbdgokjmgaaGreatDoor
open Go.Proofs
set_option linter.unusedSimpArgs false
set_option linter.unusedVariables false
set_option maxHeartbeats 0
set_option maxRecDepth 100000
theorem Jv (l f:List Int) (h:l.length≤1000) (hl:∀x∈l,0≤x∧x<f.length) (hf:∀x∈f,0≤x∧x≤16):aF Tryz.prog 119 [.isl (.ints .i64 l) .none,.isl (.ints .i64 f) .none] (.int .i64 (eB f l)):=by
 refine av (md:=1) (rf:=[]) mixed ak aD Tryz.func119 (by rfl) (by rfl) (by rfl) ?_
 repeat'((conv=>whnf);first|(intro hq;(try simp only[vw]at hq);try first|exact absurd hq (by decide)|exfalso;omega)|apply aI|with_reducible exact vM rfl|exact⟨⟩|apply nM|apply fM)
 all_goals((try apply vM);(try simp only[vq]at*);try omega)
 conv=>whnf
 refine aL (X:=Nat) (fun i=>i≤l.length) (fun i=>[(6,.int .i64 i),(5,.int .i64 (eB f (l.take i)))]) (fun i=>[]) (fun i=>l.length-i) 0 ⟨aJ,mixed,ak,aD,aP⟩ (by rfl) (by omega) ?_ ?_
 ·repeat'((conv=>whnf);first|intro _|apply aI|with_reducible exact vM rfl|exact⟨⟩|apply nM|apply fM)
  all_goals((try apply vM);(try simp only[vq]at*);try omega)
  all_goals rfl
 intro i hi;have hbd:=mV hf (l.take i);rw[afR]at hbd;by_cases hlt:i<l.length
 ·have hx:=hl _ (dZ (d:=(0:Int)) hlt)
  have hxl:(l.getD i 0).toNat<f.length:=by omega
  have hfx:=hf _ (dZ (d:=(0:Int)) hxl);have hap:=yR f (l.take i) (l.getD i 0);rw[←dR hlt]at hap
  repeat'((conv=>whnf);first|(intro hq;(try simp only[vw]at hq);try first|exact absurd hq (by decide)|exfalso;omega)|apply aI|with_reducible exact vM rfl|exact⟨⟩|apply nM|apply fM)
  all_goals((try apply vM);(try simp only[vq]at*);try omega)
  all_goals(try omega)
  refine⟨i+1,[],⟨by omega,by omega⟩,?_⟩
  rw[hap]
  repeat'((conv=>whnf);first|intro _|apply aI|with_reducible exact vM rfl|exact⟨⟩|apply nM|apply fM)
  all_goals((try apply vM);(try simp only[vq]at*);try omega)
 ·have:i=l.length:=by omega
  subst this;rw[ag7]
  repeat'((conv=>whnf);first|(intro hq;(try simp only[vw]at hq);try first|exact absurd hq (by decide)|exfalso;omega)|apply aI|with_reducible exact vM rfl|exact⟨⟩|apply nM|apply fM)
  all_goals((try apply vM);(try simp only[vq]at*);try omega)
  all_goals(try first|omega|exact Sup.of rfl)
def wX:PSp:=fun xs K=>match xs with
 | [.isl (.ints .i64 l) .none,.isl (.ints .i64 f) .none]=>VC (l.length≤1000∧(∀x∈l,0≤x∧x<f.length)∧∀x∈f,0≤x∧x≤16)∧K (.int .i64 (eB f l))
 |_=>False
theorem Dg:POK Tryz.prog 119 wX:=by
 intro xs K h;unfold wX at h;split at h
 ·exact⟨_,h.2,Jv _ _ h.1.get.1 h.1.get.2.1 h.1.get.2.2⟩
 ·exact h.elim
def eP (f:List Int) (ls:List (List Int)):List Int:=ls.map (eB f)
noncomputable def aeO:CPT:=aA 119 (aB wX) noC
theorem KU:aZ Tryz.prog aeO:=aj (au Dg) aD
theorem OM (c:Int) (ls:List (List Int)) (f:List Int) (hl:ls.length≤1000) (h:∀i,i<ls.length→(ls.getD i []).length≤1000∧∀x∈ls.getD i [],0≤x∧x<f.length) (hf:∀x∈f,0≤x∧x≤16):aF Tryz.prog 170 [.agg [.int .i64 c,.isl (.rows .i64 ls) .none],.isl (.ints .i64 f) .none] (.isl (.ints .i64 (eP f ls)) .none):=by
 refine av (md:=1) (rf:=[]) mixed ak KU Tryz.func170 (by rfl) (by rfl) (by rfl) ?_
 repeat'((conv=>whnf);first|(intro hq;(try simp only[vw]at hq);try first|exact absurd hq (by decide)|exfalso;omega)|apply aI|with_reducible exact vM rfl|exact⟨⟩|apply nM|apply fM)
 all_goals((try apply vM);(try simp only[vq]at*);try omega)
 conv=>whnf
 refine aL (X:=Nat) (fun i=>i≤ls.length) (fun i=>[(6,.int .i64 i),(5,.isl (.ints .i64 (eP f (ls.take i))) (.own 20))]) (fun i=>[(20,.tok 1 i)]) (fun i=>ls.length-i) 0 ⟨aJ,mixed,ak,KU,aP⟩ (by rfl) (by omega) ?_ ?_
 ·repeat'((conv=>whnf);first|intro _|apply aI|with_reducible exact vM rfl|exact⟨⟩|apply nM|apply fM)
  all_goals((try apply vM);(try simp only[vq]at*);try omega)
  all_goals(try rfl)
 intro i hi;have hsl:(eP f (ls.take i)).length=i:=by unfold eP;rw[ag3,afR];omega
 by_cases hlt:i<ls.length
 ·have hh:=h i hlt
  have hs:eP f (ls.take (i+1))=eP f (ls.take i)++[eB f (ls.getD i [])]:=by
   unfold eP;rw[ag5,afe,afj hlt,ag6];rfl
  repeat'((conv=>whnf);first|(intro hq;(try simp only[vw]at hq);try first|exact absurd hq (by decide)|exfalso;omega)|apply aI|with_reducible exact vM rfl|exact⟨⟩|apply nM|apply fM)
  all_goals((try apply vM);(try simp only[vq]at*);try omega)
  all_goals(try first|omega|exact⟨hh.1,hh.2,hf⟩|(rw[agl,List.length_singleton];omega))
  refine⟨i+1,[],⟨by omega,by omega⟩,?_⟩
  rw[hs]
  repeat'((conv=>whnf);first|intro _|apply aI|with_reducible exact vM rfl|exact⟨⟩|apply nM|apply fM)
  all_goals((try apply vM);(try simp only[vq]at*);try omega)
 ·have:i=ls.length:=by omega
  subst this;rw[ag7]
  repeat'((conv=>whnf);first|(intro hq;(try simp only[vw]at hq);try first|exact absurd hq (by decide)|exfalso;omega)|apply aI|with_reducible exact vM rfl|exact⟨⟩|apply nM|apply fM)
  all_goals((try apply vM);(try simp only[vq]at*);try omega)
  all_goals(try first|omega|exact Sup.of rfl)
def H6:PSp:=fun xs K=>match xs with
 | [.agg [.int .i64 c,.isl (.rows .i64 ls) .none],.isl (.ints .i64 f) .none]=>VC (ls.length≤1000∧(∀i,i<ls.length→(ls.getD i []).length≤1000∧∀x∈ls.getD i [],0≤x∧x<f.length)∧∀x∈f,0≤x∧x≤16)∧K (.isl (.ints .i64 (eP f ls)) .none)
 |_=>False
theorem UU:POK Tryz.prog 170 H6:=by
 intro xs K h;unfold H6 at h;split at h
 ·exact⟨_,h.2,OM _ _ _ h.1.get.1 h.1.get.2.1 h.1.get.2.2⟩
 ·exact h.elim
def nA (l:List Int):Bool:=l.all fun x=>decide (x=l.getD 0 0)
def UW (b:Bool):PSp:=fun xs K=>match xs with
 | [.agg [.int .i64 c,.isl (.rows .i64 ls) .none],.isl (.ints .i64 f) .none]=>VC (ls.length≤1000∧(∀i,i<ls.length→(ls.getD i []).length≤1000∧∀x∈ls.getD i [],0≤x∧x<f.length)∧(∀x∈f,0≤x∧x≤16)∧nA (eP f ls)=b)∧∀i:Int,VC (-1≤i∧i≤1000∧decide (i<0)=b)→K (.int .i64 i)
 |_=>False
theorem UY (c:Int) (ls:List (List Int)) (f:List Int) (hl:ls.length≤1000) (h:∀i,i<ls.length→(ls.getD i []).length≤1000∧∀x∈ls.getD i [],0≤x∧x<f.length) (hf:∀x∈f,0≤x∧x≤16):∃j:Int,(-1≤j∧j≤1000∧decide (j<0)=nA (eP f ls))∧aF Tryz.prog 125 [.agg [.int .i64 c,.isl (.rows .i64 ls) .none],.isl (.ints .i64 f) .none] (.int .i64 j):=by
 obtain⟨S,hS⟩:∃S,eP f ls=S:=⟨_,rfl⟩;have hSl:S.length=ls.length:=by rw[←hS];simp[eP]
 rw[hS];have key:(∃j:Nat,j<S.length∧S.getD j 0≠S.getD 0 0∧∀k,k<j→S.getD k 0=S.getD 0 0)∨∀k,k<S.length→S.getD k 0=S.getD 0 0:=by
  by_cases hall:∀k,k<S.length→S.getD k 0=S.getD 0 0
  ·exact .inr hall
  ·left
   obtain⟨k,hk⟩:=aiA.1 hall;have hk1:=(aiB.1 hk);have main:∀n,(∀k,k<n→k<S.length→S.getD k 0=S.getD 0 0)∨∃j:Nat,j<S.length∧S.getD j 0≠S.getD 0 0∧∀k,k<j→S.getD k 0=S.getD 0 0:=by
    intro n;induction n with
    |zero=>exact .inl fun k h=>by omega
    |succ n ih=>
     rcases ih with a|a
     ·by_cases q:n<S.length∧S.getD n 0≠S.getD 0 0
      ·exact .inr ⟨n,q.1,q.2,fun k h=>a k h (by omega)⟩
      ·refine .inl fun k h1 h2=>?_
       by_cases e:k=n
       ·subst e;exact afV.1 fun r=>q ⟨h2,r⟩
       ·exact a k (by omega) h2
     ·exact .inr a
   rcases main S.length with a|a
   ·exact absurd (a k hk1.1 hk1.1) hk1.2
   ·exact a
 have hst:eP f ls=S:=hS;have sums:Sup (.isl (.ints .i64 (eP f ls)) .none) (.isl (.ints .i64 S) .none):=by rw[hS];exact dG _
 have hC:aZ Tryz.prog (aA 170 (aB fun xs K=>H6 xs (fun v=>VC (Sup v (.isl (.ints .i64 S) .none)))∧K (.isl (.ints .i64 S) .none)) noC):=aj (au (fun xs K hk=>by
  obtain⟨v,hv,hp⟩:=UU _ _ hk.1;exact⟨_,hk.2,qy hp hv.get⟩)) aD
 rcases key with⟨j,j1,j2,j3⟩|hall
 ·refine⟨(j:Int),⟨by omega,by omega,?_⟩,?_⟩
  ·rw[decide_eq_false (by omega)]
   unfold nA;exact(aiq.2 ⟨_,dZ (d:=(0:Int)) j1,by rw[decide_eq_false j2];simp⟩).symm
  refine av (md:=1) (rf:=[]) mixed ak hC Tryz.func125 (by rfl) (by rfl) (by rfl) ?_
  repeat'((conv=>whnf);first|(intro hq;(try simp only[vw]at hq);try first|exact absurd hq (by decide)|exfalso;omega)|apply aI|with_reducible exact vM rfl|exact⟨⟩|apply nM|apply fM)
  all_goals((try apply vM);(try simp only[vq]at*);try omega)
  all_goals(try first|exact⟨hl,h,hf⟩|exact sums)
  conv=>whnf
  refine aL (X:=Nat) (fun i=>i≤j) (fun i=>[(6,.int .i64 i)]) (fun i=>[]) (fun i=>j-i) 0 ⟨aJ,mixed,ak,hC,aP⟩ (by rfl) (by omega) ?_ ?_
  ·repeat'((conv=>whnf);first|intro _|apply aI|with_reducible exact vM rfl|exact⟨⟩|apply nM|apply fM)
   all_goals((try apply vM);(try simp only[vq]at*);try omega)
  intro i hi;by_cases hij:i=j
  ·subst hij
   have j2':S.getD i 0≠S.getD (aht 0) 0:=j2
   repeat'((conv=>whnf);first|(intro hq;(try simp only[vw]at hq);try first|exact absurd hq (by decide)|exfalso;omega)|apply aI|with_reducible exact vM rfl|exact⟨⟩|apply nM|apply fM)
   all_goals((try apply vM);(try simp only[vq]at*);try omega)
   all_goals(try first|omega|exact Sup.of rfl|(exfalso;exact hq j2'))
   all_goals(try(exfalso;omega))
  ·have:=j3 i (by omega)
   have j3':S.getD i 0=S.getD (aht 0) 0:=this
   repeat'((conv=>whnf);first|(intro hq;(try simp only[vw]at hq);try first|exact absurd hq (by decide)|exfalso;omega)|apply aI|with_reducible exact vM rfl|exact⟨⟩|apply nM|apply fM)
   all_goals((try apply vM);(try simp only[vq]at*);try omega)
   all_goals(try first|omega|(exfalso;exact hq j3'))
   refine⟨i+1,[],⟨by omega,by omega⟩,?_⟩
   repeat'((conv=>whnf);first|intro _|apply aI|with_reducible exact vM rfl|exact⟨⟩|apply nM|apply fM)
   all_goals((try apply vM);(try simp only[vq]at*);try omega)
 ·refine⟨-1,⟨by omega,by omega,?_⟩,?_⟩
  ·rw[decide_eq_true (by omega)]
   unfold nA;refine(agE.2 fun x hx=>?_).symm;obtain⟨k,hk,rfl⟩:=(bO S x).1 hx;exact decide_eq_true (hall k hk)
  refine av (md:=1) (rf:=[]) mixed ak hC Tryz.func125 (by rfl) (by rfl) (by rfl) ?_
  repeat'((conv=>whnf);first|(intro hq;(try simp only[vw]at hq);try first|exact absurd hq (by decide)|exfalso;omega)|apply aI|with_reducible exact vM rfl|exact⟨⟩|apply nM|apply fM)
  all_goals((try apply vM);(try simp only[vq]at*);try omega)
  all_goals(try first|exact⟨hl,h,hf⟩|exact sums)
  conv=>whnf
  refine aL (X:=Nat) (fun i=>i≤S.length) (fun i=>[(6,.int .i64 i)]) (fun i=>[]) (fun i=>S.length-i) 0 ⟨aJ,mixed,ak,hC,aP⟩ (by rfl) (by omega) ?_ ?_
  ·repeat'((conv=>whnf);first|intro _|apply aI|with_reducible exact vM rfl|exact⟨⟩|apply nM|apply fM)
   all_goals((try apply vM);(try simp only[vq]at*);try omega)
  intro i hi;by_cases hij:i<S.length
  ·have j3':S.getD i 0=S.getD (aht 0) 0:=hall i hij
   repeat'((conv=>whnf);first|(intro hq;(try simp only[vw]at hq);try first|exact absurd hq (by decide)|exfalso;omega)|apply aI|with_reducible exact vM rfl|exact⟨⟩|apply nM|apply fM)
   all_goals((try apply vM);(try simp only[vq]at*);try omega)
   all_goals(try first|omega|(exfalso;exact hq j3'))
   refine⟨i+1,[],⟨by omega,by omega⟩,?_⟩
   repeat'((conv=>whnf);first|intro _|apply aI|with_reducible exact vM rfl|exact⟨⟩|apply nM|apply fM)
   all_goals((try apply vM);(try simp only[vq]at*);try omega)
  ·have:i=S.length:=by omega
   subst this
   repeat'((conv=>whnf);first|(intro hq;(try simp only[vw]at hq);try first|exact absurd hq (by decide)|exfalso;omega)|apply aI|with_reducible exact vM rfl|exact⟨⟩|apply nM|apply fM)
   all_goals((try apply vM);(try simp only[vq]at*);try omega)
   all_goals(try first|omega|exact Sup.of rfl)
theorem acW (b:Bool):POK Tryz.prog 125 (UW b):=by
 intro xs K hk;unfold UW at hk;split at hk
 ·obtain⟨⟨h1,h2,h3,h4⟩,hk⟩:=hk
  obtain⟨j,⟨j1,j2,j3⟩,hp⟩:=UY _ _ _ h1 h2 h3;exact⟨_,hk j ⟨j1,j2,j3.trans h4⟩,hp⟩
 ·exact hk.elim
noncomputable def aeP (b:Bool):CPT:=aA 125 (aB (UW b)) noC
theorem ZW (b:Bool):aZ Tryz.prog (aeP b):=aj (au (acW b)) aD
theorem Jw (c:Int) (ls:List (List Int)) (f:List Int) (hl:ls.length≤1000) (h:∀i,i<ls.length→(ls.getD i []).length≤1000∧∀x∈ls.getD i [],0≤x∧x<f.length) (hf:∀x∈f,0≤x∧x≤16):aF Tryz.prog 55 [.agg [.int .i64 c,.isl (.rows .i64 ls) .none],.isl (.ints .i64 f) .none] (.bp (nA (eP f ls))):=by
 obtain⟨b,hb⟩:∃b,nA (eP f ls)=b:=⟨_,rfl⟩;rw[hb];have hC:=ZW b;refine av (md:=1) (rf:=[]) mixed ak hC Tryz.func55 (by rfl) (by rfl) (by rfl) ?_
 repeat'((conv=>whnf);first|(intro hq;(try simp only[vw]at hq);try first|exact absurd hq (by decide)|exfalso;omega)|apply aI|with_reducible exact vM rfl|exact⟨⟩|apply nM|apply fM)
 all_goals((try apply vM);(try simp only[vq]at*);try omega)
 all_goals(try exact⟨hl,h,hf,hb⟩)
 rw[←hq.get.2.2];exact Sup.of rfl
def Cn:PSp:=fun xs K=>match xs with
 | [.agg [.int .i64 c,.isl (.rows .i64 ls) .none],.isl (.ints .i64 f) .none]=>VC (ls.length≤1000∧(∀i,i<ls.length→(ls.getD i []).length≤1000∧∀x∈ls.getD i [],0≤x∧x<f.length)∧∀x∈f,0≤x∧x≤16)∧K (.bp (nA (eP f ls)))
 |_=>False
theorem Rt:POK Tryz.prog 55 Cn:=by
 intro xs K h;unfold Cn at h;split at h
 ·exact⟨_,h.2,Jw _ _ _ h.1.get.1 h.1.get.2.1 h.1.get.2.2⟩
 ·exact h.elim
theorem clD {b:Bool} (h:b=false) (h':b=true):False:=by rw[h]at h';cases h'
def csE (c:Int) (s:St):Int:=if(s.cs.length:Int)≠c∨(s.ds.length:Int)≠c then 2 else cO (fun i=>lC c (s.cd i) (s.dc i)) s.cs.length
theorem UZ (c:Int) (ls:List (List Int)) (sum:Int) (gv:List Int) (s:St) (h1:s.cs.length≤1000000∧s.ds.length≤1000000) (h2:∀i,i<s.cs.length→(s.cs.getD i []).length≤1000000):aF Tryz.prog 49 [pzV c ls sum gv,stV s] (.int .i64 (csE c s)):=by
 by_cases hl:(s.cs.length:Int)≠c∨(s.ds.length:Int)≠c
 ·have he:csE c s=2:=if_pos hl
  rw[he];refine av (md:=1) (rf:=[]) mixed ak aD Tryz.func49 (by rfl) (by rfl) (by rfl) ?_
  repeat'((conv=>whnf);first|(intro hq;(try simp only[vw]at hq);try first|exact absurd hq (by decide)|exfalso;omega)|apply aI|with_reducible exact vM rfl|exact⟨⟩|apply nM|apply fM)
  all_goals((try apply vM);(try simp only[vq]at*);try omega)
  all_goals(try first|omega|exact Sup.of rfl)
 have he:csE c s=cO (fun i=>lC c (s.cd i) (s.dc i)) s.cs.length:=if_neg hl;have e1:(s.cs.length:Int)=c:=by omega
 have e2:(s.ds.length:Int)=c:=by omega
 refine av (md:=1) (rf:=[]) mixed ak aD Tryz.func49 (by rfl) (by rfl) (by rfl) ?_
 repeat'((conv=>whnf);first|(intro hq;(try simp only[vw]at hq);try first|exact absurd hq (by decide)|exfalso;omega)|apply aI|with_reducible exact vM rfl|exact⟨⟩|apply nM|apply fM)
 all_goals((try apply vM);(try simp only[vq]at*);try omega)
 all_goals(try omega)
 conv=>whnf
 refine aL (X:=Nat) (fun i=>i≤s.cs.length∧∀j,j<i→lC c (s.cd j) (s.dc j)=0) (fun i=>[(6,.int .i64 i)]) (fun i=>[]) (fun i=>s.cs.length-i) 0 ⟨aJ,mixed,ak,aD,aP⟩ (by rfl) ⟨by omega,fun j hj=>by omega⟩ ?_ ?_
 ·repeat'((conv=>whnf);first|intro _|apply aI|with_reducible exact vM rfl|exact⟨⟩|apply nM|apply fM)
  all_goals((try apply vM);(try simp only[vq]at*);try omega)
 intro i ⟨hi,hok⟩;by_cases hlt:i<s.cs.length
 case neg=>
  have:i=s.cs.length:=by omega
  subst this;rw[he,dU hok]
  repeat'((conv=>whnf);first|(intro hq;(try simp only[vw]at hq);try first|exact absurd hq (by decide)|exfalso;omega)|apply aI|with_reducible exact vM rfl|exact⟨⟩|apply nM|apply fM)
  all_goals((try apply vM);(try simp only[vq]at*);try omega)
  all_goals(try first|omega|exact Sup.of rfl)
 have hll:=h2 i hlt;have fin:∀e,lC c (s.cd i) (s.dc i)=e→e≠0→csE c s=e:=fun e a1 a2=>by
  rw[he];exact(dV hlt (by rw[a1];exact a2) hok).trans a1
 have nxt:lC c (s.cd i) (s.dc i)=0→∀j,j<i+1→lC c (s.cd j) (s.dc j)=0:=fun a j hj=>by
  by_cases e:j=i
  ·subst e;exact a
  ·exact hok j (by omega)
 have hcd:s.cd i=s.cs.getD i []:=rfl;have hdc:s.dc i=s.ds.getD i false:=rfl;rw[hcd,hdc]at fin nxt;obtain⟨l,hL⟩:∃l,s.cs.getD i []=l:=⟨_,rfl⟩;rw[hL]at fin nxt hll
 repeat'((conv=>whnf);first|(intro hq;(try simp only[vw]at hq);try first|exact absurd hq (by decide)|exfalso;omega)|apply aI|with_reducible exact vM rfl|exact⟨⟩|apply nM|apply fM)
 all_goals((try apply vM);(try simp only[vq]at*);try omega)
 all_goals(try omega)
 conv=>whnf
 refine aL (X:=Nat) (fun k=>k≤l.length∧∀j,j<k→1≤l.getD j 0∧l.getD j 0≤c) (fun k=>[(7,.isl (.ints .i64 l) .none),(8,.int .i64 k)]) (fun k=>[]) (fun k=>l.length-k) 0 ⟨aJ,mixed,ak,aD,aP⟩ (by rfl) ⟨by omega,fun j hj=>by omega⟩ ?_ ?_
 ·repeat'((conv=>whnf);first|intro _|apply aI|with_reducible exact vM rfl|exact⟨⟩|apply nM|apply fM)
  all_goals((try apply vM);(try simp only[vq]at*);try omega)
  all_goals first|exact hL|exact hL.symm|(rw[hL];done)|skip
 intro k ⟨hk,hkr⟩;by_cases hkl:k<l.length
 ·have hno:(l.getD k 0<1∨c<l.getD k 0)→csE c s=3:=fun a=>by
   refine fin 3 ?_ (by decide)
   have:l.any (jQ 1 c)=true:=ahC.2 ⟨l.getD k 0,dZ hkl,by
    unfold jQ;rcases a with a|a
    ·rw[decide_eq_true a];rfl
    ·rw[decide_eq_true a,aiz]⟩
   unfold lC;rw[this];rfl
  repeat'((conv=>whnf);first|(intro hq;(try simp only[vw]at hq);try first|exact absurd hq (by decide)|exfalso;omega)|apply aI|with_reducible exact vM rfl|exact⟨⟩|apply nM|apply fM)
  all_goals((try apply vM);(try simp only[vq]at*);try omega)
  all_goals(try omega)
  ·rw[hno (.inr hq)];exact Sup.of rfl
  ·refine⟨k+1,[],⟨⟨by omega,fun j hj=>?_⟩,by omega⟩,?_⟩
   ·by_cases e:j=k
    ·subst e;omega
    ·exact hkr j (by omega)
   repeat'((conv=>whnf);first|intro _|apply aI|with_reducible exact vM rfl|exact⟨⟩|apply nM|apply fM)
   all_goals((try apply vM);(try simp only[vq]at*);try omega)
  ·rw[hno (.inl hq)];exact Sup.of rfl
 have ek:k=l.length:=by omega
 subst ek;have hany:l.any (jQ 1 c)=false:=by
  rw[ahD];intro x hx;obtain⟨j,hj,rfl⟩:=(bO l x).1 hx;have:=hkr j hj;unfold jQ;rw[decide_eq_false (by omega),decide_eq_false (by omega)];simp
 repeat'((conv=>whnf);first|(intro hq;(try simp only[vw]at hq);try first|exact absurd hq (by decide)|exfalso;omega)|apply aI|with_reducible exact vM rfl|exact⟨⟩|apply nM|apply fM)
 all_goals((try apply vM);(try simp only[vq]at*);try omega)
 all_goals(try omega)
 conv=>whnf
 refine aL (X:=Nat) (fun k=>1≤k∧(k≤l.length∨k=1)∧upB l k=true) (fun k=>[(7,.isl (.ints .i64 l) .none),(9,.int .i64 k)]) (fun k=>[]) (fun k=>l.length+1-k) 1 ⟨aJ,mixed,ak,aD,aP⟩ (by rfl) ⟨by omega,.inr rfl,by simp[upB]⟩ ?_ ?_
 ·repeat'((conv=>whnf);first|intro _|apply aI|with_reducible exact vM rfl|exact⟨⟩|apply nM|apply fM)
  all_goals((try apply vM);(try simp only[vq]at*);try omega)
 intro k ⟨hk1,hk2,hku⟩;have hus:=Uc l k;rw[hku,ahN]at hus;by_cases hkl:k<l.length
 ·have ekk:((k:Int)-1).toNat=k-1:=by omega
  repeat'((conv=>whnf);first|(intro hq;(try simp only[vw]at hq);try first|exact absurd hq (by decide)|exfalso;omega)|apply aI|with_reducible exact vM rfl|exact⟨⟩|apply nM|apply fM)
  all_goals((try apply vM);(try simp only[vq]at*);try omega)
  all_goals(try omega)
  ·rw[ekk]at hq
   have h11:upB l l.length=false:=by
    cases e:upB l l.length with
    |false=>rfl
    |true=>
     have:=agE.1 e k (agU.2 hkl);rw[decide_eq_true_eq]at this;omega
   rw[fin 11 (by unfold lC;rw[hany,h11];rfl) (by decide)]
   exact Sup.of rfl
  ·rw[ekk]at hq
   refine⟨k+1,[],⟨⟨by omega,.inl (by omega),by rw[hus];exact decide_eq_true (.inr (by omega))⟩,by omega⟩,?_⟩
   repeat'((conv=>whnf);first|intro _|apply aI|with_reducible exact vM rfl|exact⟨⟩|apply nM|apply fM)
   all_goals((try apply vM);(try simp only[vq]at*);try omega)
 have hup:upB l l.length=true:=by
  by_cases e:k=l.length
  ·rw[←e];exact hku
  ·have:l.length=0:=by omega
   rw[this];rfl
 cases hd:s.ds.getD i false with
 |false=>
  have c0:lC c l false=0:=by unfold lC;rw[hany,hup];rfl
  rw[hd]at nxt
  repeat'((conv=>whnf);first|(intro hq;(try simp only[vw]at hq);try first|exact absurd hq (by decide)|exfalso;omega)|apply aI|with_reducible exact vM rfl|exact⟨⟩|apply nM|apply fM)
  all_goals((try apply vM);(try simp only[vq]at*);try omega)
  all_goals(try omega)
  all_goals(try(exfalso;refine clD hd ?_;assumption))
  refine⟨i+1,[],⟨⟨by omega,nxt c0⟩,by omega⟩,?_⟩
  repeat'((conv=>whnf);first|intro _|apply aI|with_reducible exact vM rfl|exact⟨⟩|apply nM|apply fM)
  all_goals((try apply vM);(try simp only[vq]at*);try omega)
 |true=>
  rw[hd]at nxt fin;by_cases hl1:l.length=1
  ·have c0:lC c l true=0:=by unfold lC;rw[hany,hup,decide_eq_false (fun e=>e hl1)];rfl
   repeat'((conv=>whnf);first|(intro hq;(try simp only[vw]at hq);try first|exact absurd hq (by decide)|exfalso;omega)|apply aI|with_reducible exact vM rfl|exact⟨⟩|apply nM|apply fM)
   all_goals((try apply vM);(try simp only[vq]at*);try omega)
   all_goals(try omega)
   all_goals(try(exfalso;refine clD ?_ hd;assumption))
   refine⟨i+1,[],⟨⟨by omega,nxt c0⟩,by omega⟩,?_⟩
   repeat'((conv=>whnf);first|intro _|apply aI|with_reducible exact vM rfl|exact⟨⟩|apply nM|apply fM)
   all_goals((try apply vM);(try simp only[vq]at*);try omega)
  ·have c0:lC c l true=29:=by unfold lC;rw[hany,hup,decide_eq_true hl1];rfl
   repeat'((conv=>whnf);first|(intro hq;(try simp only[vw]at hq);try first|exact absurd hq (by decide)|exfalso;omega)|apply aI|with_reducible exact vM rfl|exact⟨⟩|apply nM|apply fM)
   all_goals((try apply vM);(try simp only[vq]at*);try omega)
   all_goals(try omega)
   all_goals(try(exfalso;refine clD ?_ hd;assumption))
   rw[fin 29 c0 (by decide)]
   exact Sup.of rfl
def U0:PSp:=fun xs K=>match xs with
 | [.agg [.int .i64 c,.isl (.rows .i64 ls) .none,.int .i64 sum,.isl (.ints .i64 gv) .none],.agg [.isl (.rows .i64 CS) .none,.isl (.bools DS) .none]]=>VC ((CS.length≤1000000∧DS.length≤1000000)∧∀i,i<CS.length→(CS.getD i []).length≤1000000)∧K (.int .i64 (csE c ⟨CS,DS⟩))
 |_=>False
theorem acX:POK Tryz.prog 49 U0:=by
 intro xs K h;unfold U0 at h;split at h
 ·exact⟨_,h.2,UZ _ _ _ _ ⟨_,_⟩ h.1.get.1 h.1.get.2⟩
 ·exact h.elim
def wo (f:List Int):Bool:=(afc f.length).all fun k:Nat=>decide ((k:Int)+1∈f)
theorem KV {α:Type} [DecidableEq α]:∀(l m:List α),l.Nodup→(∀x∈l,x∈m)→l.length≤m.length:=by
 intro l;induction l with
 |nil=>intro m _ _;simp
 |cons x r ih=>
  intro m hn hm;have hn':=agw.1 hn;have hx:=hm x (by simp)
  have:=ih (m.erase x) hn'.2 fun y hy=>(List.mem_erase_of_ne (fun e=>hn'.1 y hy e.symm)).2 (hm y (by simp[hy]))
  rw[List.length_erase_of_mem hx]at this;have:=aiy hx;simp only[aeZ];omega
def qK (n:Nat):List Int:=(afc n).map fun k:Nat=>(k:Int)+1
theorem U2 (n:Nat):(qK n).Nodup:=by
 unfold qK;rw[List.Nodup,aii];exact List.pairwise_lt_range.imp fun h e=>by omega
theorem Dh {n:Nat} {x:Int}:x∈qK n↔1≤x∧x≤n:=by
 unfold qK;rw[ahQ];constructor
 ·rintro⟨k,hk,rfl⟩
  have:=agU.1 hk;omega
 ·intro h
  exact⟨(x-1).toNat,agU.2 (by omega),by omega⟩
theorem ZX {l:List Int} {j:Nat} {x:Int} (hj:j<l.length) (hx:x∈l) (h:x=l.getD j 0→∃i,i<l.length∧i≠j∧l.getD i 0=x):x∈l.eraseIdx j:=by
 obtain⟨i,hi,e⟩:=(bO l x).1 hx;rw[List.mem_eraseIdx_iff_getElem];by_cases q:i=j
 ·obtain⟨k,h1,h2,h3⟩:=h (by rw[←e,q])
  exact⟨k,h1,h2,by rw[←eT h1];exact h3⟩
 ·exact⟨i,hi,q,by rw[←eT hi];exact e⟩
theorem wY {f:List Int}:wo f=true↔kM f=true:=by
 constructor
 ·intro h
  have hs:∀x∈qK f.length,x∈f:=fun x hx=>by
   have h1:=Dh.1 hx;have:=agE.1 h (x-1).toNat (agU.2 (by omega))
   rw[decide_eq_true_eq,show(((x-1).toNat:Nat):Int)+1=x by omega]at this
   exact this
  have key:∀j,j<f.length→(∀x∈qK f.length,x=f.getD j 0→∃i,i<f.length∧i≠j∧f.getD i 0=x)→False:=fun j hj hx=>by
   have:=KV (qK f.length) (f.eraseIdx j) (U2 _) fun x hm=>ZX hj (hs x hm) (hx x hm);rw[List.length_eraseIdx_of_lt hj]at this;simp only[qK,ag3,List.length_range]at this;omega
  refine acV ?_ fun x hx=>?_
  ·rw[List.Nodup,aik]
   intro i j hi hj hij e;exact key j hj fun x hx e1=>⟨i,hi,by omega,by rw[e1,eT hi,eT hj];exact e⟩
  ·obtain⟨j,hj,rfl⟩:=(bO f x).1 hx
   refine aiC fun hno=>key j hj fun x hx e1=>?_;have:=Dh.1 hx;exact absurd (by rw[e1]at this;exact this) hno
 ·intro h
  refine agE.2 fun k hk=>decide_eq_true ?_;have hk:=agU.1 hk;have h1:(k:Int)+1∈dY f:=by
   rw[Aq h];exact ahQ.2 ⟨k,agU.2 hk,rfl⟩
  exact(aif f _).mem_iff.1 h1
theorem Ru (f:List Int) (h:f.length≤1000000):aF Tryz.prog 54 [.isl (.ints .i64 f) .none] (.bp (wo f)):=by
 refine av (md:=1) (rf:=[]) mixed ak aD Tryz.func54 (by rfl) (by rfl) (by rfl) ?_
 repeat'((conv=>whnf);first|(intro hq;(try simp only[vw]at hq);try first|exact absurd hq (by decide)|exfalso;omega)|apply aI|with_reducible exact vM rfl|exact⟨⟩|apply nM|apply fM)
 all_goals((try apply vM);(try simp only[vq]at*);try omega)
 conv=>whnf
 refine aL (X:=Nat) (fun n=>n≤f.length∧∀k,k<n→(k:Int)+1∈f) (fun n=>[(3,.int .i64 ((n:Int)+1))]) (fun n=>[]) (fun n=>f.length-n) 0 ⟨aJ,mixed,ak,aD,aP⟩ (by rfl) ⟨by omega,fun k hk=>by omega⟩ ?_ ?_
 ·repeat'((conv=>whnf);first|intro _|apply aI|with_reducible exact vM rfl|exact⟨⟩|apply nM|apply fM)
  all_goals((try apply vM);(try simp only[vq]at*);try omega)
 intro n ⟨hn,hok⟩;by_cases hlt:n<f.length
 case neg=>
  have e:wo f=true:=agE.2 fun k hk=>decide_eq_true (hok k (by have:=agU.1 hk;omega))
  rw[e]
  repeat'((conv=>whnf);first|(intro hq;(try simp only[vw]at hq);try first|exact absurd hq (by decide)|exfalso;omega)|apply aI|with_reducible exact vM rfl|exact⟨⟩|apply nM|apply fM)
  all_goals((try apply vM);(try simp only[vq]at*);try omega)
  all_goals(try first|omega|exact iA true)
 repeat'((conv=>whnf);first|(intro hq;(try simp only[vw]at hq);try first|exact absurd hq (by decide)|exfalso;omega)|apply aI|with_reducible exact vM rfl|exact⟨⟩|apply nM|apply fM)
 all_goals((try apply vM);(try simp only[vq]at*);try omega)
 all_goals(try omega)
 conv=>whnf
 refine aL (X:=Nat) (fun i=>i≤f.length) (fun i=>[(5,.int .i64 i),(4,.bp (decide ((n:Int)+1∈f.take i)))]) (fun i=>[]) (fun i=>f.length-i) 0 ⟨aJ,mixed,ak,aD,aP⟩ (by rfl) (by omega) ?_ ?_
 ·repeat'((conv=>whnf);first|intro _|apply aI|with_reducible exact vM rfl|exact⟨⟩|apply nM|apply fM)
  all_goals((try apply vM);(try simp only[vq]at*);try omega)
  all_goals(try(simp;done))
 intro i hi;by_cases hli:i<f.length
 ·have ht:=dR hli
  have hin:(n:Int)+1∈f.take i→decide ((n:Int)+1∈f.take (i+1))=true:=fun a=>decide_eq_true (by rw[ht];exact afg _ a)
  have hout:(n:Int)+1∉f.take i→decide ((n:Int)+1∈f.take (i+1))=decide (f.getD i 0=(n:Int)+1):=fun a=>by
   rw[ht];by_cases e:f.getD i 0=(n:Int)+1
   ·rw[decide_eq_true e,decide_eq_true (by rw[e];simp)]
   ·rw[decide_eq_false e,decide_eq_false (by rw[aff,ahL];rintro(q|q);exact a q;exact e q.symm)]
  repeat'((conv=>whnf);first|(intro hq;(try simp only[vw]at hq);try first|exact absurd hq (by decide)|exfalso;omega)|apply aI|with_reducible exact vM rfl|exact⟨⟩|apply nM|apply fM)
  all_goals((try apply vM);(try simp only[vq]at*);try omega)
  all_goals(try omega)
  ·refine⟨i+1,[],⟨by omega,by omega⟩,?_⟩
   rw[hout hq]
   repeat'((conv=>whnf);first|intro _|apply aI|with_reducible exact vM rfl|exact⟨⟩|apply nM|apply fM)
   all_goals((try apply vM);(try simp only[vq]at*);try omega)
  ·refine⟨i+1,[],⟨by omega,by omega⟩,?_⟩
   rw[decide_eq_true (show(n:Int)+1∈f.take (i+1) by rw[ht];exact afg _ hq)]
   repeat'((conv=>whnf);first|intro _|apply aI|with_reducible exact vM rfl|exact⟨⟩|apply nM|apply fM)
   all_goals((try apply vM);(try simp only[vq]at*);try omega)
 have:i=f.length:=by omega
 subst this;rw[ag7]
 repeat'((conv=>whnf);first|(intro hq;(try simp only[vw]at hq);try first|exact absurd hq (by decide)|exfalso;omega)|apply aI|with_reducible exact vM rfl|exact⟨⟩|apply nM|apply fM)
 all_goals((try apply vM);(try simp only[vq]at*);try omega)
 all_goals(try omega)
 ·rw[show wo f=false from aiq.2 ⟨n,agU.2 hlt,by rw[decide_eq_false hq];simp⟩]
  exact iA false
 ·refine⟨n+1,[],⟨⟨by omega,fun k hk=>?_⟩,by omega⟩,?_⟩
  ·by_cases e:k=n
   ·subst e;exact hq
   ·exact hok k (by omega)
  repeat'((conv=>whnf);first|intro _|apply aI|with_reducible exact vM rfl|exact⟨⟩|apply nM|apply fM)
  all_goals((try apply vM);(try simp only[vq]at*);try omega)
def Ez:PSp:=fun xs K=>match xs with
 | [.isl (.ints .i64 f) .none]=>VC (f.length≤1000000)∧K (.bp (wo f))
 |_=>False
theorem KW:POK Tryz.prog 54 Ez:=by
 intro xs K h;unfold Ez at h;split at h
 ·exact⟨_,h.2,Ru _ h.1.get⟩
 ·exact h.elim
def l5 (c:Int) (ls:List (List Int)) (sum:Int) (gv f:List Int):Bool:=decide ((f.length:Int)=c)&&(wo f&&((afc f.length).all (fun i=>!(decide (0<gv.getD i 0)&&decide (gv.getD i 0≠f.getD i 0)))&&ls.all fun l=>decide (eB f l=sum)))
noncomputable def aeQ:CPT:=aA 54 (aB Ez) (aA 119 (aB wX) noC)
theorem rT:aZ Tryz.prog aeQ:=aj (au KW) (aj (au Dg) aD)
theorem Jy (c:Int) (ls:List (List Int)) (sum:Int) (gv f:List Int) (h:cK c ls sum gv):aF Tryz.prog 48 [pzV c ls sum gv,.isl (.ints .i64 f) .none] (.bp (l5 c ls sum gv f)):=by
 have hc:=h.c1;have hgl:=h.gl;have no:l5 c ls sum gv f=false→Sup (bG [PV.bool false]) (.bp (l5 c ls sum gv f)):=fun e=>by rw[e];exact iA false
 by_cases h1:(f.length:Int)=c
 case neg=>
  have e:l5 c ls sum gv f=false:=by unfold l5;rw[decide_eq_false h1];rfl
  refine av (md:=1) (rf:=[]) mixed ak rT Tryz.func48 (by rfl) (by rfl) (by rfl) ?_
  repeat'((conv=>whnf);first|(intro hq;(try simp only[vw]at hq);try first|exact absurd hq (by decide)|exfalso;omega)|apply aI|with_reducible exact vM rfl|exact⟨⟩|apply nM|apply fM)
  all_goals((try apply vM);(try simp only[vq]at*);try omega)
  all_goals(try first|omega|exact no e)
 cases hn:wo f with
 |false=>
  have e:l5 c ls sum gv f=false:=by unfold l5;rw[hn,aho,ahi]
  refine av (md:=1) (rf:=[]) mixed ak rT Tryz.func48 (by rfl) (by rfl) (by rfl) ?_
  repeat'((conv=>whnf);first|(intro hq;(try simp only[vw]at hq);try first|exact absurd hq (by decide)|exfalso;omega)|apply aI|with_reducible exact vM rfl|exact⟨⟩|apply nM|apply fM)
  all_goals((try apply vM);(try simp only[vq]at*);try omega)
  all_goals(try first|omega|exact no e|(exfalso;exact clD hn hq)|exact absurd (hn.symm.trans hq) (by decide))
  all_goals skip
 |true=>
  have hfr:∀x∈f,0≤x∧x≤16:=fun x hx=>by have:=mX (wY.1 hn) x hx;omega
  have eG:l5 c ls sum gv f=((afc f.length).all (fun i=>!(decide (0<gv.getD i 0)&&decide (gv.getD i 0≠f.getD i 0)))&&ls.all fun l=>decide (eB f l=sum)):=by
   unfold l5;rw[decide_eq_true h1,hn,ahN,ahN]
  refine av (md:=1) (rf:=[]) mixed ak rT Tryz.func48 (by rfl) (by rfl) (by rfl) ?_
  repeat'((conv=>whnf);first|(intro hq;(try simp only[vw]at hq);try first|exact absurd hq (by decide)|exfalso;omega)|apply aI|with_reducible exact vM rfl|exact⟨⟩|apply nM|apply fM)
  all_goals((try apply vM);(try simp only[vq]at*);try omega)
  all_goals(try first|omega|exact absurd (hn.symm.trans hq) (by decide)|exact absurd (hq.symm.trans hn) (by decide))
  conv=>whnf
  refine aL (X:=Nat) (fun i=>i≤f.length∧∀j,j<i→¬(0<gv.getD j 0∧gv.getD j 0≠f.getD j 0)) (fun i=>[(5,.int .i64 i)]) (fun i=>[]) (fun i=>f.length-i) 0 ⟨aJ,mixed,ak,rT,aP⟩ (by rfl) ⟨by omega,fun j hj=>by omega⟩ ?_ ?_
  ·repeat'((conv=>whnf);first|intro _|apply aI|with_reducible exact vM rfl|exact⟨⟩|apply nM|apply fM)
   all_goals((try apply vM);(try simp only[vq]at*);try omega)
  intro i ⟨hi,hok⟩;by_cases hlt:i<f.length
  ·have nxt:¬(0<gv.getD i 0∧gv.getD i 0≠f.getD i 0)→∀j,j<i+1→¬(0<gv.getD j 0∧gv.getD j 0≠f.getD j 0):=fun a j hj=>by
    by_cases e:j=i
    ·subst e;exact a
    ·exact hok j (by omega)
   repeat'((conv=>whnf);first|(intro hq;(try simp only[vw]at hq);try first|exact absurd hq (by decide)|exfalso;omega)|apply aI|with_reducible exact vM rfl|exact⟨⟩|apply nM|apply fM)
   all_goals((try apply vM);(try simp only[vq]at*);try omega)
   all_goals(try omega)
   ·refine no ?_
    rename_i hq2;rw[eG,aiq.2 ⟨i,agU.2 hlt,by rw[decide_eq_true hq2,decide_eq_true hq];simp⟩,aho]
   ·refine⟨i+1,[],⟨⟨by omega,nxt (fun a=>hq a.2)⟩,by omega⟩,?_⟩
    repeat'((conv=>whnf);first|intro _|apply aI|with_reducible exact vM rfl|exact⟨⟩|apply nM|apply fM)
    all_goals((try apply vM);(try simp only[vq]at*);try omega)
   ·refine⟨i+1,[],⟨⟨by omega,nxt (fun a=>hq a.1)⟩,by omega⟩,?_⟩
    repeat'((conv=>whnf);first|intro _|apply aI|with_reducible exact vM rfl|exact⟨⟩|apply nM|apply fM)
    all_goals((try apply vM);(try simp only[vq]at*);try omega)
  have e:i=f.length:=by omega
  subst e;have hA:(afc f.length).all (fun i=>!(decide (0<gv.getD i 0)&&decide (gv.getD i 0≠f.getD i 0)))=true:=agE.2 fun j hj=>by
   have h2:=hok j (agU.1 hj);rw[ah9,aiD,decide_eq_false_iff_not,decide_eq_false_iff_not];by_cases a:0<gv.getD j 0
   ·exact .inr fun b=>h2 ⟨a,b⟩
   ·exact .inl a
  rw[hA,ahN]at eG
  repeat'((conv=>whnf);first|(intro hq;(try simp only[vw]at hq);try first|exact absurd hq (by decide)|exfalso;omega)|apply aI|with_reducible exact vM rfl|exact⟨⟩|apply nM|apply fM)
  all_goals((try apply vM);(try simp only[vq]at*);try omega)
  all_goals(try omega)
  conv=>whnf
  refine aL (X:=Nat) (fun i=>i≤ls.length∧∀j,j<i→eB f (ls.getD j [])=sum) (fun i=>[(6,.int .i64 i)]) (fun i=>[]) (fun i=>ls.length-i) 0 ⟨aJ,mixed,ak,rT,aP⟩ (by rfl) ⟨by omega,fun j hj=>by omega⟩ ?_ ?_
  ·repeat'((conv=>whnf);first|intro _|apply aI|with_reducible exact vM rfl|exact⟨⟩|apply nM|apply fM)
   all_goals((try apply vM);(try simp only[vq]at*);try omega)
  intro i ⟨hi,hok2⟩;have hll:=h.ll;by_cases hlt:i<ls.length
  ·have hL:=h.ln i hlt
   have hlen:=hL.len;have hbd:=mV hfr (ls.getD i []);have hso:(ls.getD i []).length≤1000∧(∀x∈ls.getD i [],0≤x∧x<(f.length:Int))∧∀x∈f,0≤x∧x≤16:=⟨by omega,fun x hx=>by have:=hL.rng x hx;omega,hfr⟩
   repeat'((conv=>whnf);first|(intro hq;(try simp only[vw]at hq);try first|exact absurd hq (by decide)|exfalso;omega)|apply aI|with_reducible exact vM rfl|exact⟨⟩|apply nM|apply fM)
   all_goals((try apply vM);(try simp only[vq]at*);try omega)
   all_goals(try first|omega|exact hso)
   ·refine no ?_
    rw[eG];exact aiq.2 ⟨_,dZ (d:=([]:List Int)) hlt,by rw[decide_eq_false hq];simp⟩
   ·refine⟨i+1,[],⟨⟨by omega,fun j hj=>?_⟩,by omega⟩,?_⟩
    ·by_cases e:j=i
     ·subst e;omega
     ·exact hok2 j (by omega)
    repeat'((conv=>whnf);first|intro _|apply aI|with_reducible exact vM rfl|exact⟨⟩|apply nM|apply fM)
    all_goals((try apply vM);(try simp only[vq]at*);try omega)
  have e:i=ls.length:=by omega
  subst e;have hT:l5 c ls sum gv f=true:=by
   rw[eG];refine agE.2 fun l hl=>decide_eq_true ?_;obtain⟨j,hj,rfl⟩:=afi hl;have:=hok2 j hj;rw[afe,afj hj]at this;exact this
  rw[hT]
  repeat'((conv=>whnf);first|(intro hq;(try simp only[vw]at hq);try first|exact absurd hq (by decide)|exfalso;omega)|apply aI|with_reducible exact vM rfl|exact⟨⟩|apply nM|apply fM)
  all_goals((try apply vM);(try simp only[vq]at*);try omega)
  all_goals(try first|omega|exact iA true)
theorem ZY {c:Int} {ls:List (List Int)} {sum:Int} {gv f:List Int} (h:cK c ls sum gv):l5 c ls sum gv f=true↔aeN c ls sum gv f:=by
 have hgl:=h.gl;unfold l5;simp only[afp,decide_eq_true_eq,agE,agU];constructor
 ·rintro⟨h1,h2,h3,h4⟩
  refine⟨⟨h1,wY.1 h2,fun i hi=>h4 _ (dZ hi)⟩,fun i hi hp=>?_⟩;have:=h3 i (by omega)
  rw[ah9,aiD,decide_eq_false_iff_not,decide_eq_false_iff_not]at this;rcases this with a|a
  ·exact absurd hp a
  ·exact afV.1 a
 ·rintro⟨⟨h1,h2,h3⟩,h4⟩
  refine⟨h1,wY.2 h2,fun i hi=>?_,fun l hl=>?_⟩
  ·rw[ah9,aiD,decide_eq_false_iff_not,decide_eq_false_iff_not]
   by_cases a:0<gv.getD i 0
   ·exact .inr fun b=>b (h4 i (by omega) a)
   ·exact .inl a
  ·obtain⟨j,hj,rfl⟩:=afi hl
   have:=h3 j hj;rw[afe,afj hj]at this;exact this
def OO:PSp:=fun xs K=>match xs with
 | [.agg [.int .i64 c,.isl (.rows .i64 ls) .none,.int .i64 sum,.isl (.ints .i64 gv) .none],.isl (.ints .i64 f) .none]=>VC (cK c ls sum gv)∧K (.bp (l5 c ls sum gv f))
 |_=>False
theorem Z0:POK Tryz.prog 48 OO:=by
 intro xs K h;unfold OO at h;split at h
 ·exact⟨_,h.2,Jy _ _ _ _ _ h.1.get⟩
 ·exact h.elim
theorem U3 (l:List Int) (k i:Nat) (x:Int):(l.set k x).getD i 0=if k=i∧i<l.length then x else l.getD i 0:=by
 rw[afe,afC,afe];by_cases e:k=i
 ·subst e
  by_cases e2:k<l.length
  ·simp[e2]
  ·simp[e2]
 ·simp[e]
theorem KY {c:Int} {ls:List (List Int)} {sum:Int} {gv:List Int} (hb:eO c ls=0) (h:cK c ls sum gv):pzE c ls sum gv=0:=by
 have hs:=h.sm;have hl:=h.gl;have h0:pV c ls sum gv=0:=by
  unfold pV;rw[hb,if_neg (by omega),if_neg (by omega)];rfl
 unfold pzE;rw[if_neg (by rw[h0];simp)]
 refine dU fun i hi=>?_;unfold gvE;have hr:=h.gr (gv.getD i 0) (dZ hi);rw[if_neg (by omega),if_neg]
 rintro⟨hp,hm⟩
 obtain⟨j,hj,e⟩:=(bO (gv.take i) (gv.getD i 0)).1 hm;rw[afR]at hj;have e2:(gv.take i).getD j 0=gv.getD j 0:=by
  rw[afe,afe,List.getElem?_take,if_pos (by omega)]
 exact h.gd j i (by omega) hi hp (e2.symm.trans e)
theorem OP (f:List Int) (ls:List (List Int)):gL f ls ls.length=eP f ls:=by
 unfold gL eP;rw[ag7];refine List.map_congr_left fun l _=>?_;show eB f (l.take l.length)=eB f l;rw[ag7]
theorem U4 (ls:List (List Int)) (nv:List Int):GZ ls nv=nA (eP nv ls):=by
 unfold GZ;rw[OP];have h:=gD (p:=fun i=>wR (eP nv ls) ((eP nv ls).getD i 0)) (n:=(eP nv ls).length);have e:decide (kC (eP nv ls)<0)=!decide (0≤kC (eP nv ls)):=by
  by_cases e:kC (eP nv ls)<0
  ·rw[decide_eq_true e,decide_eq_false (by omega)];rfl
  ·rw[decide_eq_false e,decide_eq_true (by omega)];rfl
 rw[e];unfold kC;rw[h];generalize eP nv ls=l
 unfold nA wR;cases ha:l.all (fun x=>decide (x=l.getD 0 0))with
 |true=>
  rw[ah9,ahD];intro i hi;have:=agE.1 ha (l.getD i 0) (dZ (agU.1 hi));rw[decide_eq_true_eq]at this;rw[this];simp
 |false=>
  rw[aiq]at ha;obtain⟨x,hx,hne⟩:=ha;obtain⟨i,hi,rfl⟩:=(bO l x).1 hx;rw[aiv,ahC];exact⟨i,agU.2 hi,by simpa using hne⟩
theorem U5 {nv:List Int} (hl:1≤nv.length∧nv.length≤256) (h:kM nv=true):cfE nv=0:=by
 have e2:oG nv=0:=by
  unfold oG;rw[if_neg];intro e;rw[ahC]at e;obtain⟨x,hx,e⟩:=e;have:=mX h x hx;unfold jQ at e;simp at e;omega
 unfold cfE;rw[e2,if_neg (by omega),if_neg (by omega)];rfl
structure aeS (c:Int) (ls:List (List Int)) (sum:Int) (s:St) (o:List Int) (x:Int):Prop where
 bd:bg c ls sum s
 rng:∀y∈o,0≤y∧y<c
 len:o.length≤16
 x: -2000000000≤x∧x≤2000000000
structure aeT (c:Int) (ls:List (List Int)) (sum:Int) (s:St) (o used:List Int) (x:Int):Prop where
 bd:bg c ls sum s
 rng:∀y∈o,0≤y∧y<c
 len:o.length+used.length≤30
 x: -2000000000+16*(o.length:Int)≤x∧x≤2000000000
structure aeU (c:Int) (ls:List (List Int)) (sum:Int) (s:St) (k:Int):Prop where
 bd:bg c ls sum s
 k:0≤k∧k<ls.length
end Go.Eng.YtcechbdgokjmgaaGreatDoor
namespace Go.Eng
open Go.RowKit
set_option linter.unusedSimpArgs false
set_option linter.unusedVariables false
def H7 (c d:CL):Bool:=
 match c with
 |.rows _ _=>(match d with|.ints _ _=>true|_=>false)
 |.bools _=>(match d with|.ints _ _=>true|_=>false)
 |_=>false
theorem KZ {c d:CL} (h:∀off,zU (c.get 0) (d.get off)=true):pK c d=true:=by
 unfold pK;cases hn:c.ncell with
 |zero=>rfl
 |succ m=>exact agE.2 fun off _=>ahC.2 ⟨0,agU.2 (Nat.succ_pos m),h _⟩
theorem Jz {c d:CL} (h:H7 c d=true):pK c d=true:=by
 unfold H7 at h;split at h
 ·split at h
  ·exact KZ fun _=>rfl
  ·cases h
 ·split at h
  ·exact KZ fun _=>rfl
  ·cases h
 ·cases h
def okB (H:Hp):List Nat→CL→Bool
 | [],_=>true
 |k::r,c=>match ay H k with
  |some (.cells d _)=>(match H7 c d with|true=>okB H r c|false=>false)
  |_=>okB H r c
theorem K4 {H:Hp} {c:CL}:∀{a:List Nat},okB H a c=true→okA H a c=true:=by
 intro a;induction a with
 |nil=>intro _;rfl
 |cons x a ih=>
  intro h;unfold okB at h;unfold okA;split at h
  ·rename_i d fz hd
   rw[hd];simp only;split at h
   ·rename_i hk
    rw[Jz hk];exact ih h
   ·cases h
  ·rename_i hd
   split
   ·rename_i d fz hd'
    exact absurd hd' (hd d fz)
   ·exact ih h
def kq1 (H:Hp) (a:List Nat) (p:PV):PV:=
 match p with
 |.isl c t=>match t with
  |.none=>match c with
   |.bools l=>match okB H a (.bools l)with|true=>.isl (.bools l) .none|false=>.any
   |.rows k xs=>match okB H a (.rows k xs)with|true=>.isl (.gen xs.length fun _=>.any) .none|false=>.any
   |_=>.any
  |_=>.any
 |p=>wkE p
theorem Di {S S':Imm} {w w':World} {ι ι':Ix} {H H':Hp} {a:List Nat} (L:Lk S w ι H H' a S' w') {p:PV} {v:Value} (hr:Rep S' w' noI p v):Rep (newS S S' w) w' ι' (kq1 H a p) v:=by
 cases p with
 |isl c t=>
  unfold kq1;simp only;cases t with
  |none=>
   cases c with
   |bools l=>
    simp only;split
    ·exact mQ L (K4 (by assumption)) rfl rfl (fun j hj v hv=>tF rfl hv) hr
    ·exact .any _ _
   |rows k xs=>
    simp only;split
    ·exact mQ L (c:=.rows k xs) (K4 (by assumption)) (d:=.gen xs.length fun _=>.any) rfl rfl (fun j hj v hv=>.any _ _) hr
    ·exact .any _ _
   |_=>exact .any _ _
  |_=>exact .any _ _
 |_=>exact qE hr
def H8 (H:Hp) (a:List Nat):List PV→List PV
 | []=>[]
 |x::r=>kq1 H a x::H8 H a r
theorem yY {H:Hp} {a:List Nat} (l:List PV):(H8 H a l).length=l.length∧∀i,i<l.length→aC (H8 H a l) i=kq1 H a (aC l i):=by
 induction l with
 |nil=>exact⟨rfl,fun i hi=>by simp at hi⟩
 |cons x xs ih=>exact⟨by simp[H8,ih.1],fun i hi=>by cases i with|zero=>rfl|succ i=>exact ih.2 i (by simpa using hi)⟩
def kqA (H:Hp) (a:List Nat) (p:PV):PV:=
 match p with
 |.agg cs=>.agg (H8 H a cs)
 |p=>kq1 H a p
theorem Dj {S S':Imm} {w w':World} {ι ι':Ix} {H H':Hp} {a:List Nat} (L:Lk S w ι H H' a S' w') {p:PV} {v:Value} (hr:Rep S' w' noI p v):Rep (newS S S' w) w' ι' (kqA H a p) v:=by
 cases p with
 |agg cs=>
  cases hr with
  |agg _ _ vs hl hh=>
   refine .agg _ _ _ ((yY cs).1.trans hl) fun i hi=>?_;rw[(yY cs).1]at hi;rw[(yY cs).2 i hi];exact Di L (hh i hi)
 |_=>exact Di L hr
def H9 (H:Hp) (a:List Nat):List PV→List PV
 | []=>[]
 |x::r=>kqA H a x::H9 H a r
theorem yZ {H:Hp} {a:List Nat} (l:List PV):(H9 H a l).length=l.length∧∀i,i<l.length→aC (H9 H a l) i=kqA H a (aC l i):=by
 induction l with
 |nil=>exact⟨rfl,fun i hi=>by simp at hi⟩
 |cons x xs ih=>exact⟨by simp[H9,ih.1],fun i hi=>by cases i with|zero=>rfl|succ i=>exact ih.2 i (by simpa using hi)⟩
def kqK (H:Hp) (a:List Nat) (v:PV) (K:PV→Prop):Prop:=
 match v with
 |.tup vs=>bI (H9 H a vs) fun us=>K (.tup us)
 |p=>bH (kqA H a p) K
theorem Rv {H:Hp} {a:List Nat} {v:PV} {K:PV→Prop} (h:kqK H a v K):∃u,K u∧∀{S S':Imm} {w w':World} {ι ι':Ix} {H':Hp} {val:Value},Lk S w ι H H' a S' w'→Rep S' w' noI v val→Rep (newS S S' w) w' ι' u val:=by
 cases v with
 |tup vs=>
  unfold kqK at h;simp only at h;rw[bq]at h;refine⟨_,h,fun L hr=>?_⟩;cases hr with
  |tup _ _ us hl hh=>
   refine .tup _ _ _ ((yZ vs).1.trans hl) fun i hi=>?_;rw[(yZ vs).1]at hi;rw[(yZ vs).2 i hi];exact Dj L (hh i hi)
 |_=>
  unfold kqK at h;simp only at h;rw[bE]at h;exact⟨_,h,fun L hr=>Dj L hr⟩
def Ia (C:PSp):CT:=fun args n H K=>zT H args fun xs a=>bI (dx xs) fun xs=>C xs fun v=>kqK H a v fun u=>K u [] a []
theorem Rx {P:Program} {g:FuncId} {C:PSp} (h:POK P g C):COK P g (Ia C):=by
 intro args n H K hk;unfold Ia at hk;obtain⟨xs,a,hk,hl,hs⟩:=vv hk;rw[bq]at hk;obtain⟨v,hk,hent,hv⟩:=h _ _ hk;obtain⟨u,hk,hp⟩:=Rv hk;refine⟨u,[],a,[],hk,hent,fun S w ι H' vs hgb M hr ha _=>?_⟩;have hN:∀k∈a,∀c fz b,ay H' k=some (.cells c fz)→ι.o k=some b→∀j,j<c.ncell→qP S ι H' a b j:=fun k hk c fz b h1 h2 j h3=>.inr ⟨k,c,fz,hk,h1,h2,h3⟩;have hA:bB (qP S ι H' a) w noI (dx xs) vs:=⟨(aV xs).1.trans (hl.trans hr.1),fun i hi=>(aV xs).2 i (hs oD hN M ha i (by rw[(aV xs).1]at hi;omega) _ (hr.2 i (by rw[(aV xs).1]at hi;omega)))⟩
 refine(hv (qP S ι H' a) w vs (lD oD (.refl _) hgb) (FQ M) hA).mono ?_
 rintro e w' ⟨val,S',rfl,o⟩
 have hno:∀k ob b,ay H' k=some ob→ob.has ι k b→b<w.heap.size:=fun k ob b ho hb=>(M.obj k ob ho).lt hb;have L:Lk S w ι H H' a S' w':=⟨ha,M,fun b j hb hs=>o.immN b j hb hs,fun b j hn=>(o.keeps.imm b j hn).2⟩;have hk0:Keeps S w (newS S S' w) w':=⟨fun b j hs=>⟨.inl hs,(o.keeps.imm b j (.inl hs)).2⟩,o.keeps.cells⟩;refine⟨val,newS S S' w,ι,rfl,⟨fun k ob ho=>(M.obj k ob ho).mono hk0 (.refl _) o.below (fun b hb=>o.same b (hno k ob b ho hb)) (fun _=>rfl) rfl (fun b j hb hs=>?_),M.liveO,M.liveT,M.dist,fun b j hs=>?_⟩,
  .refl _,hk0,hp L o.rep,fun p=>⟨o.below,fun b hb _=>o.same b hb,hk0,fun b j hb hs=>?_,fun b h=>.inl h,fun _ _ _ h=>h,fun _ _ b n h=>⟨b,n,h,.inl ⟨rfl,ae3 _⟩⟩⟩⟩
 ·rcases hs with hs|⟨_,hs⟩
  ·exact hs
  ·have:=hno k ob b ho hb;omega
 ·rcases hs with hs|⟨hs,_⟩
  ·rw[(hk0.imm b j hs).2];exact M.imm b j hs
  ·exact o.imm b j hs
 ·rcases hs with hs|⟨_,hs⟩
  ·exact .inl hs
  ·omega
end Go.Eng
namespace Go.Eng.YtcechbdgokjmgaaGreatDoor
open Go.Proofs
set_option linter.unusedSimpArgs false
set_option linter.unusedVariables false
set_option maxHeartbeats 0
set_option maxRecDepth 100000
end Go.Eng.YtcechbdgokjmgaaGreatDoor
namespace Go.Eng.YtcechbdgokjmgaaGreatDoor
open Go.Proofs Go.RowKit
set_option linter.unusedSimpArgs false
set_option linter.unusedVariables false
set_option maxHeartbeats 0
set_option maxRecDepth 100000
def U6:PSp:=fun xs K=>match xs with
 | [.agg [.int .i64 c,.isl (.rows .i64 ls) .none],.isl (.ints .i64 nv) .none,.isl (.ints .i64 ov) .none,.int .i64 g]=>VC (bN ls∧nv.length≤5000∧ov.length≤5000)∧K (.tup [pzT (tX c ls nv ov g).1,.int .i64 (tX c ls nv ov g).2])
 |_=>False
theorem acY:POK Tryz.prog 53 U6:=by
 intro xs K h;unfold U6 at h;split at h
 ·exact⟨_,h.2,Df _ _ _ _ _ h.1.get.1 h.1.get.2.1 h.1.get.2.2⟩
 ·exact h.elim
def U7:PSp:=fun xs K=>match xs with
 | [.agg [.int .i64 c,.isl (.rows .i64 ls) .none,.int .i64 sum,.isl (.ints .i64 gv) .none],.int .i64 g]=>VC (bN ls∧gv.length≤5000)∧K (vR (iL c ls sum gv g))
 |_=>False
theorem acZ:POK Tryz.prog 30 U7:=by
 intro xs K h;unfold U7 at h;split at h
 ·exact⟨_,h.2,oH _ _ _ _ _ h.1.get.1 h.1.get.2⟩
 ·exact h.elim
def U8:PSp:=fun xs K=>match xs with
 | [.agg [.int .i64 c,.isl (.rows .i64 ls) .none,.int .i64 sum,.isl (.ints .i64 gv) .none]]=>VC (bN ls∧gv.length≤5000)∧K (.tup [.int .i64 (iM c ls sum gv).1,.int .i64 (iM c ls sum gv).2.2])
 |_=>False
theorem ac0:POK Tryz.prog 31 U8:=by
 intro xs K h;unfold U8 at h;split at h
 ·exact⟨_,h.2,Ap _ _ _ _ h.1.get.1 h.1.get.2⟩
 ·exact h.elim
end Go.Eng.YtcechbdgokjmgaaGreatDoor
namespace Go.Eng.YtcechbdgokjmgaaGreatDoor
set_option linter.unusedSimpArgs false
set_option linter.unusedVariables false
theorem U9 {e1:Int} {p:List Int} (h:lu e1 p=0) (he:e1≠0):(∀y∈p,0≤y∧y<p.length)∧p.Nodup∧∀y:Int,0≤y∧y<p.length→y∈p:=by
 unfold lu at h;have hl:¬256<p.length:=fun hh=>by rw[if_pos hh]at h;exact he h
 rw[if_neg hl]at h;have hz:=gZ h;have hk:∀i,i<p.length→(0≤p.getD i 0∧p.getD i 0<p.length)∧p.getD i 0∉p.take i:=fun i hi=>by
  have:=hz i hi;unfold qg at this;by_cases e:p.getD i 0<0∨(p.length:Int)≤p.getD i 0∨p.getD i 0∈p.take i
  ·rw[if_pos e]at this;cases this
  ·exact⟨by omega,fun hm=>e (.inr (.inr hm))⟩
 have hr:∀y∈p,0≤y∧y<p.length:=fun y hy=>by
  obtain⟨i,hi,rfl⟩:=(bO _ _).1 hy;exact(hk i hi).1
 have hn:p.Nodup:=by
  rw[List.Nodup,aik];intro i j hi hj hij e;refine(hk j hj).2 ((HZ (by omega)).2 ⟨i,hij,?_⟩)
  rw[eT hi,eT hj];exact e
 refine⟨hr,hn,fun y hy=>?_⟩;by_cases hm:y∈p
 ·exact hm
 ·exfalso
  have:=KV (y::p) ((afc p.length).map fun i:Nat=>(i:Int)) (aiE.2 ⟨hm,hn⟩) fun x hx=>by
   have hx':0≤x∧x<p.length:=by
    rcases agv.1 hx with rfl|hx
    ·exact hy
    ·exact hr x hx
   exact ahQ.2 ⟨x.toNat,agU.2 (by omega),by omega⟩
  simp at this;omega
section
variable {c:Int} {ls:List (List Int)} {sum:Int} {nv:List Int} {g:Nat}
theorem K5 (hp:cK c ls sum nv) (hf:gK c ls sum nv) (hg:g≤5):(sol c ls sum nv g).2.2=0:=by
 have hB:=lX hp;have hA:=Ck hp hf fun i hi h0=>rfl;have hd:don (bgn c nv)=true:=by
  refine(Cj (by rw[eU.1,eU.2])).2 fun i hi=>?_
  rw[eU.1]at hi;rw[Ao hi,decide_eq_true_eq];have:=hf.rng hi;omega
 unfold sol iK;rw[KO hB hA hf,hd];simp
theorem Ry {gv:List Int} {y:Int} {j:Nat} (h:j≠y.toNat):(mkS c ls sum nv g gv y).getD j 0=gv.getD j 0:=by
 unfold mkS;split<;>simp[afe,afF (Ne.symm h)]
theorem fold_at:∀(B:List Int) (gv:List Int) (j:Nat),(∀y∈B,y.toNat≠j)→(B.foldl (mkS c ls sum nv g) gv).getD j 0=gv.getD j 0:=by
 intro B;induction B with
 |nil=>intro gv j _;rfl
 |cons y B ih=>
  intro gv j h;rw[air,ih _ j fun z hz=>h z (by simp[hz]),Ry (Ne.symm (h y (by simp)))]
structure MkI (c:Int) (ls:List (List Int)) (sum:Int) (nv:List Int) (g:Nat) (gv:List Int):Prop where
 sub:jT gv nv
 ok:(sol c ls sum gv g).2.2=0
theorem wZ {gv:List Int} (h:jT gv nv) (i:Nat) (hi:i<gv.length) (h0:0<gv.getD i 0):gv.getD i 0=nv.getD i 0:=by
 rcases h.2 i (by rw[←h.1];exact hi)with e|e
 ·omega
 ·exact e
theorem Z4 (hb:eO c ls=0) (hs: -999999999≤sum∧sum≤999999999) (hf:gK c ls sum nv) (hg:g≤5) {gv:List Int} (hI:MkI c ls sum nv g gv) (y:Int):MkI c ls sum nv g (mkS c ls sum nv g gv y):=by
 have pz:=fun{gv:List Int} (h:jT gv nv)=>rM (sum:=sum) hb hf.len hf.nrm hs h;unfold mkS;split
 ·have h1:=(hI.sub.set0 y.toNat).set1 y.toNat
  refine⟨h1,tY (pz hI.sub) (pz h1) hf (fun i hi h0=>?_) (fun i hi h0=>wZ h1 i hi h0) (ae3 _) hg hI.ok⟩;have h2:=wZ hI.sub i hi h0;by_cases e:i=y.toNat
  ·subst e
   simp only[afe]at h2⊢;rw[List.getElem?_set_self (by simpa using hi),h2];rfl
  ·simp[afe,afF (Ne.symm e)]
 ·rename_i h
  exact⟨hI.sub.set0 _,by simpa using h⟩
theorem K6 (hb:eO c ls=0) (hs: -999999999≤sum∧sum≤999999999) (hf:gK c ls sum nv) (hg:g≤5):∀(B:List Int) (gv:List Int),MkI c ls sum nv g gv→MkI c ls sum nv g (B.foldl (mkS c ls sum nv g) gv):=by
 intro B;induction B with
 |nil=>exact fun gv h=>h
 |cons y B ih=>exact fun gv h=>ih _ (Z4 hb hs hf hg h y)
theorem K7 (hb:eO c ls=0) (hs: -999999999≤sum∧sum≤999999999) (hf:gK c ls sum nv) (hg:g≤5) (ov:List Int):MkI c ls sum nv g (ov.foldl (mkS c ls sum nv g) nv):=
 K6 hb hs hf hg ov nv ⟨.refl nv,K5 (rM hb hf.len hf.nrm hs (.refl nv)) hf hg⟩
theorem Va (hb:eO c ls=0) (hs: -999999999≤sum∧sum≤999999999) (hf:gK c ls sum nv) (hg:g≤5) {ov:List Int} (hr:∀y∈ov,0≤y∧y<c) (hn:ov.Nodup) (hall:∀y:Int,0≤y∧y<c→y∈ov)
 {i:Nat} (hi:i<nv.length) (h0:(ov.foldl (mkS c ls sum nv g) nv).getD i 0≠0):(sol c ls sum ((ov.foldl (mkS c ls sum nv g) nv).set i 0) g).2.2≠0:=by
 have hfl:=hf.len;have pz:=fun{gv:List Int} (h:jT gv nv)=>rM (sum:=sum) hb hf.len hf.nrm hs h;obtain⟨A,B,hAB⟩:=List.append_of_mem (hall (i:Int) (by omega))
 subst hAB;have hA:=K6 hb hs hf hg A nv ⟨.refl nv,K5 (pz (.refl nv)) hf hg⟩;have hF:=K7 hb hs hf hg (A++(i:Int)::B);obtain⟨gA,hgA⟩:∃gA,A.foldl (mkS c ls sum nv g) nv=gA:=⟨_,rfl⟩;have hfold:(A++(i:Int)::B).foldl (mkS c ls sum nv g) nv=B.foldl (mkS c ls sum nv g) (mkS c ls sum nv g gA i):=by rw[ahq,hgA,air]
 rw[hgA]at hA;have hnd:=List.nodup_append.1 hn;have hnB:∀y∈B,y.toNat≠i:=fun y hy e=>by
  have:=hr y (by simp[hy])
  have h1:=(aiE.1 hnd.2.1).1;have:y=(i:Int):=by omega
  exact h1 (this▸hy)
 have hit:((i:Int)).toNat=i:=by omega
 have hgl:=hA.sub.1;have hback:(sol c ls sum (gA.set i 0) g).2.2≠0:=fun e=>by
  apply h0;rw[hfold,fold_at B _ i hnB];unfold mkS;rw[hit,if_neg (by rw[e];simp)]
  simp[afe,show i<gA.length by omega]
 intro hz;apply hback;obtain⟨gF,hgF⟩:∃gF,(A++(i:Int)::B).foldl (mkS c ls sum nv g) nv=gF:=⟨_,rfl⟩;rw[hgF]at hz hF hfold;have hFl:=hF.sub.1;refine tY (pz (hF.sub.set0 i)) (pz (hA.sub.set0 i)) hf (fun j hj hp=>?_) (fun j hj hp=>wZ (hA.sub.set0 i) j hj hp) (ae3 _) hg hz;rw[afE]at hj;by_cases e:j=i
 ·subst e
  simp[afe,hj]at hp
 ·have e1:(gF.set i 0).getD j 0=gF.getD j 0:=by simp[afe,afF (Ne.symm e)]
  have e2:(gA.set i 0).getD j 0=gA.getD j 0:=by simp[afe,afF (Ne.symm e)]
  rw[e1]at hp⊢;rw[e2];by_cases hjB:∃y∈B,y.toNat=j
  ·obtain⟨y,hy,hyj⟩:=hjB
   have hyr:=hr y (by simp[hy])
   have hjA:∀z∈A,z.toNat≠j:=fun z hz' e3=>by
    have:=hr z (by simp[hz'])
    have:z=y:=by omega
    exact hnd.2.2 z hz' y (by simp[hy]) this
   rw[←hgA,fold_at A nv j hjA,wZ hF.sub j hj hp]
  ·rw[hfold,fold_at B _ j fun y hy e3=>hjB ⟨y,hy,e3⟩,Ry (by rw[hit];exact e)]
theorem ac1 {gv:List Int} {k:Nat} (hk:1≤k∧k≤5) (h5:(sol c ls sum gv 5).2.2=0) (h0:(sol c ls sum gv k).2.2=0):1≤(fE c ls sum gv).1∧(fE c ls sum gv).1≤k∧(fE c ls sum gv).2.2=0:=by
 have key:∀f q,q≤k→q≤nX c ls sum gv f q∧(k≤q+f→nX c ls sum gv f q≤k):=by
  intro f;induction f with
  |zero=>exact fun q hq=>⟨ae3 _,fun _=>hq⟩
  |succ f ih=>
   intro q hq;unfold nX;split
   ·exact⟨ae3 _,fun _=>hq⟩
   ·rename_i hne
    have:q≠k:=fun e=>hne (e▸h0);have:=ih (q+1) (by omega)
    exact⟨by omega,fun h=>this.2 (by omega)⟩
 have:=key 4 1 hk.1;unfold fE;rw[if_neg (by rw[h5];simp)]
 have h2:=this.2 (by omega)
 refine⟨?_,?_,rfl⟩<;>simp only<;>omega
end
end Go.Eng.YtcechbdgokjmgaaGreatDoor
namespace Go.Eng.YtcechbdgokjmgaaGreatDoor
open Go.Proofs
set_option linter.unusedSimpArgs false
set_option linter.unusedVariables false
set_option maxHeartbeats 0
set_option maxRecDepth 100000
def Jd (c:Int) (ls:List (List Int)) (sum:Int):St→List Dd→Prop
 |_,[]=>True
 |s,d::r=>((1≤d.g∧d.g≤5)∧fJ c ls (nmG d.g) d.y d.x d.k=0∧okJ d.g s sum (ls.getD d.k.toNat []) d.y d.x=true∧nZ c ls d.g d.y d.x d.k)∧Jd c ls sum (apl d.g s d.y d.x) r
def trS (s:St) (l:List Dd):St:=l.foldl (fun s d=>apl d.g s d.y d.x) s
theorem Jd.take {c:Int} {ls:List (List Int)} {sum:Int}:∀(l:List Dd) (s:St) (k:Nat),Jd c ls sum s l→Jd c ls sum s (l.take k):=by
 intro l;induction l with
 |nil=>intro s k h;simp;exact h
 |cons d r ih=>
  intro s k h;cases k with
  |zero=>simp;exact trivial
  |succ k=>exact⟨h.1,ih _ k h.2⟩
theorem Jd.ok {c:Int} {ls:List (List Int)} {sum:Int}:∀(l:List Dd) (s:St),bg c ls sum s→StI s→Jd c ls sum s l→bg c ls sum (trS s l)∧StI (trS s l):=by
 intro l;induction l with
 |nil=>intro s h1 h2 _;exact⟨h1,h2⟩
 |cons d r ih=>
  intro s h1 h2 h;obtain⟨⟨_,_,h3,hL⟩,h4⟩:=h;obtain⟨q1,q2,q3⟩:=iP.1 h3;obtain⟨h7,h8⟩:=nQ h1 h2 (g:=d.g) hL.yy hL.xx q1 q2;exact ih _ h7 h8 h4
theorem adH {c:Int} {ls:List (List Int)} {sum:Int} {s:St} (h:bg c ls sum s):csE c s=0:=by
 have hcl:=h.cl;have hdl:=h.dl;unfold csE;rw[if_neg (by omega)]
 refine dU fun i hi=>?_;obtain⟨h1,h2⟩:=h.asc i hi;have hany:(s.cd i).any (jQ 1 c)=false:=by
  rw[ahD];intro x hx;have:=h1.rng x hx;have:=h2 x hx;unfold jQ;rw[decide_eq_false (by omega),decide_eq_false (by omega)];simp
 have hup:upB (s.cd i) (s.cd i).length=true:=agE.2 fun k hk=>by
  have hk:=agU.1 hk;rw[decide_eq_true_eq];by_cases e:k=0
  ·exact .inl e
  ·right
   have:=aik.1 h1.pw (k-1) k (by omega) hk (by omega)
   rw[eT (by omega),eT hk];exact this
 unfold lC;rw[hany,hup];cases hd:s.dc i with
 |false=>rfl
 |true=>rw[decide_eq_false (fun e=>e (h.dec i hi hd))];rfl
noncomputable def aeR:CPT:=aA 19 (aB OH) (aA 24 (aB UK) (aA 49 (aB (kD U0 (.int .i64 0))) (aA 95 (aB NK) noC)))
theorem K8:aZ Tryz.prog aeR:=aj (au Rp) (aj (au acI) (aj (au (gT acX (.int .i64 0))) (aj (au Ze) aD)))
theorem ac2 {c:Int} {ls:List (List Int)} {sum:Int} {s:St} (h:bg c ls sum s):(s.cs.length≤16∧s.ds.length≤16)∧∀i,(s.cs.getD i []).length≤16:=by
 have:=h.c1;have:=h.cl;have:=h.dl;refine⟨⟨by omega,by omega⟩,fun i=>?_⟩
 by_cases hi:i<s.cs.length
 ·exact Bl (h.asc i hi).1
 ·rw[afe,List.getElem?_eq_none (by omega)];simp
theorem OQ (c:Int) (ls:List (List Int)) (sum:Int) (gv:List Int) (s:St) (f:List Int) (hB:bg c ls sum s) (hA:Alw s f):aF Tryz.prog 60 [pzV c ls sum gv,stV s,.isl (.ints .i64 f) .none] (.bp true):=by
 have hcs:=adH hB;obtain⟨hl1,hl2⟩:=ac2 hB;have hAl:=hA.len;refine av (md:=1) (rf:=[]) mixed ak K8 Tryz.func60 (by rfl) (by rfl) (by rfl) ?_
 repeat'((conv=>whnf);first|(intro hq;(try simp only[vw]at hq);try first|exact absurd hq (by decide)|exfalso;omega)|apply aI|with_reducible exact vM rfl|exact⟨⟩|apply nM|apply fM)
 all_goals((try apply vM);(try simp only[vq]at*);try omega)
 all_goals(try first|exact jU hcs|exact⟨⟨by omega,by omega⟩,fun i _=>by have:=hl2 i;omega⟩|omega)
 conv=>whnf
 refine aL (X:=Nat) (fun i=>i≤f.length) (fun i=>[(7,.int .i64 i)]) (fun i=>[]) (fun i=>f.length-i) 0 ⟨aJ,mixed,ak,K8,aP⟩ (by rfl) (by omega) ?_ ?_
 ·repeat'((conv=>whnf);first|intro _|apply aI|with_reducible exact vM rfl|exact⟨⟩|apply nM|apply fM)
  all_goals((try apply vM);(try simp only[vq]at*);try omega)
 intro i hi;by_cases hlt:i<f.length
 ·have hm:f.getD i 0∈s.cs.getD i []:=hA.mem i hlt
  have hl3:=hl2 i
  repeat'((conv=>whnf);first|(intro hq;(try simp only[vw]at hq);try first|exact absurd hq (by decide)|exfalso;omega)|apply aI|with_reducible exact vM rfl|exact⟨⟩|apply nM|apply fM)
  all_goals((try apply vM);(try simp only[vq]at*);try omega)
  all_goals(try omega)
  ·exact absurd hm hq
  ·refine⟨i+1,[],⟨by omega,by omega⟩,?_⟩
   repeat'((conv=>whnf);first|intro _|apply aI|with_reducible exact vM rfl|exact⟨⟩|apply nM|apply fM)
   all_goals((try apply vM);(try simp only[vq]at*);try omega)
 ·have:i=f.length:=by omega
  subst this
  repeat'((conv=>whnf);first|(intro hq;(try simp only[vw]at hq);try first|exact absurd hq (by decide)|exfalso;omega)|apply aI|with_reducible exact vM rfl|exact⟨⟩|apply nM|apply fM)
  all_goals((try apply vM);(try simp only[vq]at*);try omega)
  all_goals(try first|omega|exact iA true)
end Go.Eng.YtcechbdgokjmgaaGreatDoor
namespace Go.Eng.YtcechbdgokjmgaaGreatDoor
open Go.Proofs Go.RowKit
set_option linter.unusedSimpArgs false
set_option linter.unusedVariables false
set_option maxHeartbeats 0
set_option maxRecDepth 100000
def OT:PSp:=fun xs K=>match xs with
 | [.agg [.int .i64 c,.isl (.rows .i64 ls) .none,.int .i64 sum,.isl (.ints .i64 gv) .none],.int .i64 g]=>VC (bN ls∧gv.length≤5000)∧K (.tup [.bp (wm c ls sum gv g).1,.int .i64 (wm c ls sum gv g).2])
 |_=>False
theorem Z5:POK Tryz.prog 58 OT:=by
 intro xs K h;unfold OT at h;split at h
 ·exact⟨_,h.2,Cm _ _ _ _ _ h.1.get.1 h.1.get.2⟩
 ·exact h.elim
def Vb:PSp:=fun xs K=>match xs with
 | [.agg [.int .i64 c,.isl (.rows .i64 ls) .none,.int .i64 sum,.isl (.ints .i64 gv) .none],.agg [.isl (.rows .i64 CS) .none,.isl (.bools DS) .none],.isl (.ints .i64 f) .none]=>VC (bg c ls sum ⟨CS,DS⟩∧Alw ⟨CS,DS⟩ f)∧K (.bp true)
 |_=>False
theorem ac3:POK Tryz.prog 60 Vb:=by
 intro xs K h;unfold Vb at h;split at h
 ·exact⟨_,h.2,OQ _ _ _ _ ⟨_,_⟩ _ h.1.get.1 h.1.get.2⟩
 ·exact h.elim
def OU:PSp:=fun xs K=>match xs with
 | [.agg [.int .i64 c,.isl (.rows .i64 ls) .none,.int .i64 sum,.isl (.ints .i64 gv) .none],.int .i64 g]=>VC ((bN ls∧gv.length≤5000)∧(iL c ls sum gv g).2.2=0)∧K (vR ((iL c ls sum gv g).1,(iL c ls sum gv g).2.1,0))
 |_=>False
theorem Z6:POK Tryz.prog 30 OU:=by
 intro xs K hk;unfold OU at hk;split at hk
 ·rename_i c ls sum gv g
  obtain⟨⟨⟨h1,h2⟩,h3⟩,hk⟩:=hk;have h:=oH c ls sum gv g h1 h2;refine⟨_,hk,?_⟩;rw[←h3];exact h
 ·exact hk.elim
noncomputable def qX (b2:Bool) (R:Int × List (List Int) × Int × List Int) (b3 b4:Bool) (pe:Int) (r:List Dd × St × Int) (gn:Int):CPT:=aA 17 (aB Hu) (aA 18 (aB (kD TQ (.int .i64 0))) (aA 19 (aB OH) (aA 30 (Uj (aB (kD U7 (vR r))) (Ia OU)) (aA 31 (aB (kD U8 (.tup [.int .i64 gn,.int .i64 0]))) (aA 48 (aB (kD OO (.bool true))) (aA 52 (aB (kD UN (.bool b2))) (aA 53 (aB (kD U6 (.tup [pzT R,.int .i64 0]))) (aA 54 (aB (kD Ez (.bool b3))) (aA 55 (aB (kD Cn (.bool b4))) (aA 56 (aB (kD Gy (.int .i64 pe))) (aA 58 (aB (kD OT (.tup [.bool true,.int .i64 0]))) (aA 60 (aB (kD Vb (.bool true))) noC))))))))))))
theorem kE (b2:Bool) (R:Int × List (List Int) × Int × List Int) (b3 b4:Bool) (pe:Int) (r:List Dd × St × Int) (gn:Int):aZ Tryz.prog (qX b2 R b3 b4 pe r gn):=aj (au UG) (aj (au (gT acf (.int .i64 0))) (aj (au Rp) (aj (KC (au (gT acZ (vR r))) (Rx Z6)) (aj (au (gT ac0 (.tup [.int .i64 gn,.int .i64 0]))) (aj (au (gT Z0 (.bool true))) (aj (au (gT acK (.bool b2))) (aj (au (gT acY (.tup [pzT R,.int .i64 0]))) (aj (au (gT KW (.bool b3))) (aj (au (gT Rt (.bool b4))) (aj (au (gT TR (.int .i64 pe))) (aj (au (gT Z5 (.tup [.bool true,.int .i64 0]))) (aj (au (gT ac3 (.bool true))) aD))))))))))))
theorem Z7 {a b:Bool} {p:PV} (h:a=b):Sup (.tup [.bp a,p]) (.tup [.bool b,p]):=wU rfl fun i hi=>by
 obtain rfl|rfl:i=0∨i=1:=by simp at hi;omega
 ·exact cZ h
 ·exact dG _
theorem Vd (c:Int) (ls:List (List Int)) (nv ov:List Int) (g:Int) (hn:nv.length≤9223372036854775807) (ho:ov.length≤9223372036854775807):aF Tryz.prog 9 [.agg [.int .i64 c,.isl (.rows .i64 ls) .none],.agg [.isl (.ints .i64 nv) .none,.isl (.ints .i64 ov) .none,.int .i64 g]] (.bp true):=by
 cases hb2:yU c ls 9 9 with
 |false=>
  have hC:=kE false (0,[],0,[]) true true 0 ([],noS,0) 0;refine bZ (md:=1) (rf:=[166]) mixed ak hC Tryz.func9 (by rfl) (by rfl) (by rfl) ?_
  unfold qX
  repeat'((conv=>whnf);first|refine Exists.intro (true) ?_|(intro hq;(try simp only[vw]at hq);try first|exact absurd hq (by decide)|exfalso;omega)|apply aI|with_reducible exact vM rfl|exact⟨⟩|apply nM|apply fM)
  all_goals((try apply vM);(try simp only[vq]at*);try omega)
  all_goals(try first|exact cZ hb2|exact cZ hb3|exact cZ hb4|exact dG _|exact jU hpe|exact hL|exact hn6|exact ho5|exact hMg|omega)
 |true=>
 have hL:=UO hb2 (by decide) (by decide)
 by_cases hll0:ls.length=0
 ·have hC:=kE true (0,[],0,[]) true true 0 ([],noS,0) 0
  refine bZ (md:=1) (rf:=[166]) mixed ak hC Tryz.func9 (by rfl) (by rfl) (by rfl) ?_
  unfold qX
  repeat'((conv=>whnf);first|refine Exists.intro (true) ?_|(intro hq;(try simp only[vw]at hq);try first|exact absurd hq (by decide)|exfalso;omega)|apply aI|with_reducible exact vM rfl|exact⟨⟩|apply nM|apply fM)
  all_goals((try apply vM);(try simp only[vq]at*);try omega)
  all_goals(try first|exact cZ hb2|exact cZ hb3|exact cZ hb4|exact dG _|exact jU hpe|exact hL|exact hn6|exact ho5|exact hMg|omega)
 have hc9:iJ c ls=0∧c≤9:=by
  unfold yU at hb2;rw[afp,afp,decide_eq_true_eq,decide_eq_true_eq]at hb2;exact⟨hb2.2.1,by have:=hb2.2.2;omega⟩
 have he:eO c ls=0:=by unfold eO;rw[hc9.1,if_neg (by omega),if_neg hll0];rfl
 have hp:=GX he;have hc:=hp.c1;have hll:=hp.ll;by_cases hlc:(nv.length:Int)=c
 case neg=>
  have hC:=kE true (0,[],0,[]) true true 0 ([],noS,0) 0;refine bZ (md:=1) (rf:=[166]) mixed ak hC Tryz.func9 (by rfl) (by rfl) (by rfl) ?_
  unfold qX
  repeat'((conv=>whnf);first|refine Exists.intro (true) ?_|(intro hq;(try simp only[vw]at hq);try first|exact absurd hq (by decide)|exfalso;omega)|apply aI|with_reducible exact vM rfl|exact⟨⟩|apply nM|apply fM)
  all_goals((try apply vM);(try simp only[vq]at*);try omega)
  all_goals(try first|exact cZ hb2|exact cZ hb3|exact cZ hb4|exact dG _|exact jU hpe|exact hL|exact hn6|exact ho5|exact hMg|omega)
 have hn5:nv.length≤5000:=by omega
 have hn6:nv.length≤1000000:=by omega
 cases hb3:wo nv with
 |false=>
  have hC:=kE true (0,[],0,[]) false true 0 ([],noS,0) 0;refine bZ (md:=1) (rf:=[166]) mixed ak hC Tryz.func9 (by rfl) (by rfl) (by rfl) ?_
  unfold qX
  repeat'((conv=>whnf);first|refine Exists.intro (true) ?_|(intro hq;(try simp only[vw]at hq);try first|exact absurd hq (by decide)|exfalso;omega)|apply aI|with_reducible exact vM rfl|exact⟨⟩|apply nM|apply fM)
  all_goals((try apply vM);(try simp only[vq]at*);try omega)
  all_goals(try first|exact cZ hb2|exact cZ hb3|exact cZ hb4|exact dG _|exact jU hpe|exact hL|exact hn6|exact ho5|exact hMg|omega)
 |true=>
 have hnr:=wY.1 hb3;have hcf:cfE nv=0:=U5 (by omega) hnr
 have hi:iw nv=(true,0):=by unfold iw;rw[if_neg (by rw[hcf];simp),hnr]
 have hN:∀x∈nv,0≤x∧x≤16:=fun x hx=>by have:=mX hnr x hx;omega
 have hMg:ls.length≤1000∧(∀i,i<ls.length→(ls.getD i []).length≤1000∧∀x∈ls.getD i [],0≤x∧x<nv.length)∧∀x∈nv,0≤x∧x≤16:=⟨by omega,fun i hi=>by have:=hp.ln i hi;exact⟨by have:=this.len;omega,fun x hx=>by have:=this.rng x hx;omega⟩,hN⟩
 cases hb4:nA (eP nv ls)with
 |false=>
  have hC:=kE true (0,[],0,[]) true false 0 ([],noS,0) 0;refine bZ (md:=1) (rf:=[166]) mixed ak hC Tryz.func9 (by rfl) (by rfl) (by rfl) ?_
  unfold qX
  repeat'((conv=>whnf);first|refine Exists.intro (true) ?_|(intro hq;(try simp only[vw]at hq);try first|exact absurd hq (by decide)|exfalso;omega)|apply aI|with_reducible exact vM rfl|exact⟨⟩|apply nM|apply fM)
  all_goals((try apply vM);(try simp only[vq]at*);try omega)
  all_goals(try first|exact cZ hb2|exact cZ hb3|exact cZ hb4|exact dG _|exact jU hpe|exact hL|exact hn6|exact ho5|exact hMg|omega)
 |true=>
 by_cases h5:(ov.length:Int)=c
 case neg=>
  have hC:=kE true (0,[],0,[]) true true 0 ([],noS,0) 0;refine bZ (md:=1) (rf:=[166]) mixed ak hC Tryz.func9 (by rfl) (by rfl) (by rfl) ?_
  unfold qX
  repeat'((conv=>whnf);first|refine Exists.intro (true) ?_|(intro hq;(try simp only[vw]at hq);try first|exact absurd hq (by decide)|exfalso;omega)|apply aI|with_reducible exact vM rfl|exact⟨⟩|apply nM|apply fM)
  all_goals((try apply vM);(try simp only[vq]at*);try omega)
  all_goals(try first|exact cZ hb2|exact cZ hb3|exact cZ hb4|exact dG _|exact jU hpe|exact hL|exact hn6|exact ho5|exact hMg|omega)
 have ho5:ov.length≤5000:=by omega
 obtain⟨pe,hpe⟩:∃pe,lu 5 ov=pe:=⟨_,rfl⟩;by_cases h6:pe=0
 case neg=>
  have hC:=kE true (0,[],0,[]) true true pe ([],noS,0) 0;refine bZ (md:=1) (rf:=[166]) mixed ak hC Tryz.func9 (by rfl) (by rfl) (by rfl) ?_
  unfold qX
  repeat'((conv=>whnf);first|refine Exists.intro (true) ?_|(intro hq;(try simp only[vw]at hq);try first|exact absurd hq (by decide)|exfalso;omega)|apply aI|with_reducible exact vM rfl|exact⟨⟩|apply nM|apply fM)
  all_goals((try apply vM);(try simp only[vq]at*);try omega)
  all_goals(try first|exact cZ hb2|exact cZ hb3|exact cZ hb4|exact dG _|exact jU hpe|exact hL|exact hn6|exact ho5|exact hMg|omega)
 subst h6;by_cases hg:g<1∨5<g
 ·have hC:=kE true (0,[],0,[]) true true 0 ([],noS,0) 0
  refine bZ (md:=1) (rf:=[166]) mixed ak hC Tryz.func9 (by rfl) (by rfl) (by rfl) ?_
  unfold qX
  repeat'((conv=>whnf);first|refine Exists.intro (true) ?_|(intro hq;(try simp only[vw]at hq);try first|exact absurd hq (by decide)|exfalso;omega)|apply aI|with_reducible exact vM rfl|exact⟨⟩|apply nM|apply fM)
  all_goals((try apply vM);(try simp only[vq]at*);try omega)
  all_goals(try first|exact cZ hb2|exact cZ hb3|exact cZ hb4|exact dG _|exact jU hpe|exact hL|exact hn6|exact ho5|exact hMg|omega)
  all_goals skip
 have hg0:fI g=0:=by unfold fI;rw[if_neg hg]
 have hE1:vU c ls nv g=0:=by unfold vU;rw[he,hg0,if_neg (by simp[hlc])];rfl
 obtain⟨sm,hsm⟩:∃sm,eB nv (ls.getD 0 [])=sm:=⟨_,rfl⟩;obtain⟨gw,hgw⟩:∃gw,ov.foldl (mkS c ls sm nv g.toNat) nv=gw:=⟨_,rfl⟩;have hsa:fP nv (ls.getD 0 []) (ls.getD 0 []).length=sm:=by
  show eB nv ((ls.getD 0 []).take (ls.getD 0 []).length)=sm;rw[ag7];exact hsm
 have h1:tX c ls nv ov g=((c,ls,sm,gw),0):=by
  unfold tX;rw[hE1,if_neg (by simp),hi,if_neg (by simp),U4,hb4,if_neg (by simp),hpe,if_neg (by simp[h5]),hsa,hgw]
 have hsmb: -999999999≤sm∧sm≤999999999:=by
  have:=mV hN (ls.getD 0 []);have:=(hp.ln 0 (by omega)).len
  omega
 have hsf:gK c ls sm nv:=⟨hlc,hnr,fun i hi=>by
  have:=agE.1 hb4 (eB nv (ls.getD i [])) (ahQ.2 ⟨_,dZ hi,rfl⟩);rw[decide_eq_true_eq]at this;rw[this,←hsm];unfold eP;cases ls with
  |nil=>simp at hi
  |cons l r=>rfl⟩
 have hgn:g.toNat≤5:=by omega
 have hI:=K7 he hsmb hsf hgn ov;rw[hgw]at hI;have hsub:=hI.sub;have hsw:=hI.ok;have hpw:cK c ls sm gw:=rM he hlc hnr hsmb hsub;have hgl:=hpw.gl;obtain⟨pr,pn,pa⟩:=U9 hpe (by decide)
 have hmin:yX c ls sm gw g.toNat=true:=by
  unfold yX;rw[agE];intro i hi;rw[agU]at hi;by_cases h0:gw.getD i 0=0
  ·rw[decide_eq_true h0];rfl
  ·have:=Va he hsmb hsf hgn (ov:=ov) (fun y hy=>by have:=pr y hy;omega) pn (fun y hy=>pa y (by omega)) (i:=i) (by omega) (by rw[hgw];exact h0)
   rw[hgw]at this;rw[decide_eq_true (p:=(sol c ls sm (gw.set i 0) g.toNat).2.2≠0) this,aiz]
 have hwn:∀i,i<gw.length→0<gw.getD i 0→gw.getD i 0=nv.getD i 0:=fun i hi h0=>wZ hsub i hi h0;have hs5:(sol c ls sm gw 5).2.2=0:=tY hpw hpw hsf (fun _ _ _=>rfl) hwn hgn (by omega) hsw
 have hpz:=KY he hpw;have hslv:∀v (n:Int),1≤n∧n≤5→cK c ls sm v→(sol c ls sm v n.toNat).2.2=0→iL c ls sm v n=sol c ls sm v n.toNat:=fun v n h1 hv h0=>by
  have e:fI n=0:=by unfold fI;rw[if_neg (by omega)]
  unfold iL;rw[KY he hv,e,if_neg (by decide),if_neg (by rw[h0];decide)]
 obtain⟨a1,a2,a3⟩:=HV hsf hgn 273 (bgn c gw) [] (lX hpw) (oV hpw) (Ck hpw hsf hwn);have hsol:iK c ls sm g.toNat 273 (bgn c gw) []=sol c ls sm gw g.toNat:=rfl;rw[hsol]at a2 a3;obtain⟨r,hr⟩:∃r,sol c ls sm gw g.toNat=r:=⟨_,rfl⟩;have hsl1:=hslv gw g (by omega) hpw hsw
 rw[hr]at hsl1 hsw a2 a3;obtain⟨dl,t,er⟩:=r;simp only at hsw a2 a3;subst hsw;obtain⟨g1,g2,g3⟩:=ac1 (k:=g.toNat) (by omega) hs5 (by rw[hr])
 obtain⟨gn,hgn2⟩:∃gn,(fE c ls sm gw).1=gn:=⟨_,rfl⟩;rw[hgn2]at g1 g2;have q31:PV.tup [.int .i64 (iM c ls sm gw).1,.int .i64 (iM c ls sm gw).2.2]=.tup [.int .i64 gn,.int .i64 0]:=by
  unfold iM;rw[hpz,if_neg (by simp),hgn2,g3]
 have q58:PV.tup [.bp (wm c ls sm gw g).1,.int .i64 (wm c ls sm gw g).2]=.tup [.bp true,.int .i64 0]:=by
  unfold wm;rw[hpz,hg0,if_neg (by decide),if_neg (by rw[hr];simp),hmin]
 have q48:l5 c ls sm gw nv=true:=(ZY hpw).2 ⟨hsf,fun i hi h0=>hwn i hi h0⟩;have q30:vR (iL c ls sm gw g)=vR (dl,t,0):=by rw[hsl1]
 have qLG:bN ls∧gw.length≤5000:=⟨hL,by omega⟩
 have q5:(iL c ls sm gw 5).2.2=0:=by rw[hslv gw 5 (by omega) hpw hs5];exact hs5
 have hmore:∀i,i<gw.length→(iL c ls sm (gw.set i (nv.getD i 0)) g).2.2=0:=fun i hi=>by
  have h2:=hsub.set1 i;have hv:=rM he hlc hnr hsmb h2;have:(sol c ls sm (gw.set i (nv.getD i 0)) g.toNat).2.2=0:=tY hpw hv hsf (fun j hj h0=>by
   rw[U3];by_cases e:i=j
   ·subst e;rw[if_pos ⟨rfl,hj⟩];exact(hwn i hj h0).symm
   ·rw[if_neg (fun a=>e a.1)]) (fun j hj h0=>wZ h2 j hj h0) (ae3 _) hgn (by rw[hr])
  rw[hslv _ g (by omega) hv this];exact this
 have hC:=kE true (c,ls,sm,gw) true true 0 (dl,t,0) gn;refine bZ (md:=1) (rf:=[166]) mixed ak hC Tryz.func9 (by rfl) (by rfl) (by rfl) ?_
 unfold qX
 repeat'((conv=>whnf);first|refine Exists.intro (true) ?_|(intro hq;(try simp only[vw]at hq);try first|exact absurd hq (by decide)|exfalso;omega)|apply aI|with_reducible exact vM rfl|exact⟨⟩|apply nM|apply fM)
 all_goals((try apply vM);(try simp only[vq]at*);try omega)
 all_goals(try first|exact cZ hb2|exact cZ hb3|exact cZ hb4|exact dG _|exact jU hpe|exact hL|exact hn6|exact ho5|exact hMg|omega)
 all_goals(try first|(rw[h1];exact dG _)|exact jU hpz|exact hpw|exact cZ q48|exact qLG|(rw[q30];exact dG _)|(rw[q31];exact dG _)|(rw[q58];exact Z7 rfl)|exact⟨hL,hn5,ho5⟩|exact⟨a3,a2⟩|exact cZ rfl)
 conv=>whnf
 refine aL (X:=Nat) (fun i=>i≤gw.length) (fun i=>[(14,.int .i64 i),(77,.any),(85,.any),(103,.any),(107,.any),(111,.any),(115,.any),(118,.any),(120,.any),(180,.any),(188,.any),(16,.any),(19,.any)]) (fun i=>[]) (fun i=>gw.length-i) 0 ⟨aJ,mixed,ak,hC,aP⟩ (by rfl) (by omega) ?_ ?_
 ·repeat'((conv=>whnf);first|intro _|apply aI|with_reducible exact vM rfl|exact⟨⟩|apply nM|apply fM)
  all_goals((try apply vM);(try simp only[vq]at*);try omega)
 intro i hi;by_cases hlt:i<gw.length
 ·by_cases h0:0<gw.getD i 0
  ·repeat'((conv=>whnf);first|refine Exists.intro (false) ?_|(intro hq;(try simp only[vw]at hq);try first|exact absurd hq (by decide)|exfalso;omega)|apply aI|with_reducible exact vM rfl|exact⟨⟩|apply nM|apply fM)
   all_goals((try apply vM);(try simp only[vq]at*);try omega)
   all_goals(try omega)
   refine⟨i+1,[],⟨by omega,by omega⟩,?_⟩
   repeat'((conv=>whnf);first|intro _|apply aI|with_reducible exact vM rfl|exact⟨⟩|apply nM|apply fM)
   all_goals((try apply vM);(try simp only[vq]at*);try omega)
  have hm:=hmore i hlt;have hl2:(gw.set i (nv.getD i 0)).length=gw.length:=afE ..;have tk:ahH (gw.length-0) (ahI 0 (gw.set i (nv.getD i 0)))=gw.set i (nv.getD i 0):=dh hl2;have hlt':i<(ahH (0-0) (ahI 0 ([]:List Int))++gw).length:=hlt;have hlt2:gw.length≤(ahH (0-0) (ahI 0 ([]:List Int))++gw).length:=ae3 _;have hlt3:gw.length≤((ahH (0-0) (ahI 0 ([]:List Int))++gw).set i (nv.getD i 0)).length:=aio hl2.symm;have hlt4:(ahH (gw.length-0) (ahI 0 ((ahH (0-0) (ahI 0 ([]:List Int))++gw).set i (nv.getD i 0)))).length≤5000:=(congrArg List.length tk).symm▸(by rw[hl2];omega)
  have hm':(iL c ls sm (ahH (gw.length-0) (ahI 0 ((ahH (0-0) (ahI 0 ([]:List Int))++gw).set i (nv.getD i 0)))) g).2.2=0:=(congrArg (fun x=>(iL c ls sm x g).2.2) tk).trans hm
  repeat'((conv=>whnf);first|refine Exists.intro (false) ?_|(intro hq;(try simp only[vw]at hq);try first|exact absurd hq (by decide)|exfalso;omega)|apply aI|with_reducible exact vM rfl|exact⟨⟩|apply nM|apply fM)
  all_goals((try apply vM);(try simp only[vq]at*);try omega)
  all_goals(try first|exact⟨⟨hL,hlt4⟩,hm'⟩|exact⟨qLG,q5⟩|exact hlt'|exact hlt2|exact hlt3|omega)
  refine⟨i+1,[],⟨by omega,by omega⟩,?_⟩
  repeat'((conv=>whnf);first|intro _|apply aI|with_reducible exact vM rfl|exact⟨⟩|apply nM|apply fM)
  all_goals((try apply vM);(try simp only[vq]at*);try omega)
  all_goals skip
 have e:i=gw.length:=by omega
 subst e
 repeat'((conv=>whnf);first|refine Exists.intro (false) ?_|(intro hq;(try simp only[vw]at hq);try first|exact absurd hq (by decide)|exfalso;omega)|apply aI|with_reducible exact vM rfl|exact⟨⟩|apply nM|apply fM)
 all_goals((try apply vM);(try simp only[vq]at*);try omega)
 all_goals first|omega|exact dG _|skip
end Go.Eng.YtcechbdgokjmgaaGreatDoor
