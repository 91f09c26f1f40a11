/- Contracts of functions that the law calls, and what the law says of them. Conditions stand in them. -/
import Derived.Test.YtcechbdgokjmgaaGreatDoorBg
open Bool renaming not_eq_true'→ag8,and_eq_true→aeA,or_eq_true→afs,or_eq_false_iff→ajk,not_eq_false'→ajl,false_eq_true→ad7,and_eq_false_iff→ajo,eq_iff_iff→af7,true_and→agO,false_and→agn
open Classical renaming byContradiction→ajt,not_not→ae2
open Int renaming le_refl→ajh,tmod_nonneg→ajv
open List renaming length_append→afu,filter_cons→ag3,length_take→ae0,take_length→af5,foldl_cons→ajg,pairwise_cons→afE,mem_cons→afD,mem_filter→agh,any_eq_true→agC,mem_append→aep,mem_singleton→agL,mem_map→agQ,mem_range→afY,mergeSort_perm→ahi,length_eq_one_iff→aji,eq_nil_of_length_eq_zero→ajj,all_eq_true→afI,any_eq_false→agD,getElem_of_mem→aeu,getD_eq_getElem?_getD→aeo,getElem?_eq_getElem→aev,range→ael,length_singleton→ajm,take_of_length_le→ajn,mem_flatMap→ag7,pairwise_iff_getElem→ajp,getElem?_take_of_lt→ahm,getElem?_eq_none→ajq,take_zero→ajr,range_succ→ag0,flatMap_append→ag1,flatMap_singleton→ajs,append_nil→agN,mem_append_left→aer,all_eq_false→ahh,eq_nil_iff_forall_not_mem→aju
open Nat renaming min_eq_left→aeU,le_refl→aea
namespace Go.Eng.YtcechbdgokjmgaaGreatDoor
open Go.Proofs
set_option linter.unusedSimpArgs false
set_option linter.unusedVariables false
set_option maxHeartbeats 0
set_option maxRecDepth 100000
structure ajd (c:Int) (ls:List (List Int)) (sum:Int) (s:St) (o:List Int) (x:Int):Prop where
 bd:bO c ls sum s
 rng:∀y∈o,0≤y∧y<c
 len:o.length≤16
 x: -2000000000≤x∧x≤2000000000
structure aje (c:Int) (ls:List (List Int)) (sum:Int) (s:St) (o used:List Int) (x:Int):Prop where
 bd:bO c ls sum s
 rng:∀y∈o,0≤y∧y<c
 len:o.length+used.length≤30
 x: -2000000000+16*(o.length:Int)≤x∧x≤2000000000
structure ajf (c:Int) (ls:List (List Int)) (sum:Int) (s:St) (k:Int):Prop where
 bd:bO c ls sum s
 k:0≤k∧k<ls.length
theorem ah8 (c:Int) (ls:List (List Int)) (sum:Int) (gv:List Int) (h:gv.length≤9223372036854775807):aF Tryz.prog 38 [pzV c ls sum gv] (.int .i64 ((gv.filter fun x=>decide (x=0)).length:Nat)):=by
 have ha:∀i,i<gv.length→((gv.take (i+1)).filter fun x=>decide (x=0)).length=((gv.take i).filter fun x=>decide (x=0)).length+if gv.getD i 0=0 then 1 else 0:=fun i hi=>by
  rw[dF hi,List.filter_append,afu];congr 1;by_cases e:gv.getD i 0=0
  ·rw[if_pos e];simp only[ag3,decide_eq_true e];rfl
  ·rw[if_neg e];simp only[ag3,decide_eq_false e];rfl
 have hb:∀i,i≤gv.length→((gv.take i).filter fun x=>decide (x=0)).length≤i:=fun i hi=>Nat.le_trans (List.length_filter_le _ _) (by rw[ae0];omega)
 refine av (md:=1) (rf:=[]) mixed ak aD Tryz.func38 (by rfl) (by rfl) (by rfl) ?_
 repeat'((conv=>whnf);first|intro _|apply aI|with_reducible exact vM rfl|exact⟨⟩|apply nM|apply fM)
 all_goals((try apply vM);(try simp only[vq]at*);try omega)
 conv=>whnf
 refine aM (X:=Nat) (fun i=>i≤gv.length) (fun i=>[(4,.int .i64 i),(3,.int .i64 (((gv.take i).filter fun x=>decide (x=0)).length:Nat))]) (fun i=>[]) (fun i=>gv.length-i) 0 ⟨aK,mixed,ak,aD,aQ⟩ (by rfl) (by omega) ?_ ?_
 ·repeat'((conv=>whnf);first|intro _|apply aI|with_reducible exact vM rfl|exact⟨⟩|apply nM|apply fM)
  all_goals((try apply vM);(try simp only[vq]at*);try omega)
 intro i hi;by_cases hlt:i<gv.length
 ·have hx:=ha i hlt
  have hbi:=hb i (by omega)
  repeat'((conv=>whnf);first|(intro hq;(try simp only[vw]at hq);try first|exact absurd hq (by decide)|exfalso;omega)|apply aI|with_reducible exact vM rfl|exact⟨⟩|apply nM|apply fM)
  all_goals((try apply vM);(try simp only[vq]at*);try omega)
  all_goals(try omega)
  ·rw[if_pos hq]at hx
   refine⟨i+1,[],⟨by omega,by omega⟩,?_⟩
   rw[hx]
   repeat'((conv=>whnf);first|intro _|apply aI|with_reducible exact vM rfl|exact⟨⟩|apply nM|apply fM)
   all_goals((try apply vM);(try simp only[vq]at*);try omega)
  ·rw[if_neg hq,Nat.add_zero]at hx
   refine⟨i+1,[],⟨by omega,by omega⟩,?_⟩
   rw[hx]
   repeat'((conv=>whnf);first|intro _|apply aI|with_reducible exact vM rfl|exact⟨⟩|apply nM|apply fM)
   all_goals((try apply vM);(try simp only[vq]at*);try omega)
 ·have:i=gv.length:=by omega
  subst this;rw[af5]
  repeat'((conv=>whnf);first|(intro hq;(try simp only[vw]at hq);try first|exact absurd hq (by decide)|exfalso;omega)|apply aI|with_reducible exact vM rfl|exact⟨⟩|apply nM|apply fM)
  all_goals((try apply vM);(try simp only[vq]at*);try omega)
  all_goals first|omega|exact Sup.of rfl
def ah0 (r:List Dd × St × Int):List Dd × St × Int:=if r.2.2=21 then([],noS,21)else r
end Go.Eng.YtcechbdgokjmgaaGreatDoor
namespace Go.Eng.YtcechbdgokjmgaaGreatDoor
set_option linter.unusedSimpArgs false
set_option linter.unusedVariables false
def sF (g:Int→Int):List Int→Int
 | []=>0
 |x::r=>g x+sF g r
theorem ahL (g:Int→Int):∀(l:List Int) (a:Int),l.foldl (fun a x=>a+g x) a=a+sF g l:=by
 intro l;induction l with
 |nil=>intro a;simp[sF]
 |cons x r ih=>intro a;rw[ajg,ih];simp only[sF];omega
theorem ahZ {g h:Int→Int}:∀{l:List Int},(∀x∈l,g x≤h x)→sF g l≤sF h l:=by
 intro l;induction l with
 |nil=>intro _;exact ajh _
 |cons x r ih=>
  intro hh;have h1:=hh x (by simp)
  have h2:=ih fun y hy=>hh y (by simp[hy])
  simp only[sF];omega
theorem ahp {g h:Int→Int} {l:List Int} (hh:∀x∈l,g x=h x):sF g l=sF h l:=by
 have h1:=ahZ (g:=g) (h:=h) fun x hx=>by rw[hh x hx];exact ajh _
 have h2:=ahZ (g:=h) (h:=g) fun x hx=>by rw[hh x hx];exact ajh _
 omega
theorem ain (g h:Int→Int):∀(l:List Int),sF (fun x=>g x+h x) l=sF g l+sF h l:=by
 intro l;induction l with
 |nil=>rfl
 |cons x r ih=>simp only[sF,ih];omega
theorem aio (g:Int→Int) (p:Int→Bool):∀(l:List Int),sF g (l.filter p)=sF (fun x=>if p x then g x else 0) l:=by
 intro l;induction l with
 |nil=>rfl
 |cons x r ih=>
  rw[ag3];cases hp:p x with
  |true=>rw[if_pos rfl];simp only[sF,ih,hp];rfl
  |false=>rw[if_neg (by simp)];simp only[sF,ih,hp];simp
theorem aiK:∀(l:List Int),sF (fun _=>0) l=0:=by
 intro l;induction l with
 |nil=>rfl
 |cons x r ih=>simp only[sF,ih];rfl
theorem aiX {y a:Int}:∀{l:List Int},l.Pairwise (·< ·)→y∈l→sF (fun x=>if x=y then a else 0) l=a:=by
 intro l;induction l with
 |nil=>intro _ h;simp at h
 |cons x r ih=>
  intro hp hy;have hp':=afE.1 hp;simp only[sF];by_cases e:x=y
  ·subst e
   have:sF (fun z=>if z=x then a else 0) r=sF (fun _=>0) r:=ahp fun z hz=>by
    have:=hp'.1 z hz;rw[if_neg (by omega)]
   rw[if_pos rfl,this,aiK];omega
  ·rw[if_neg e,ih hp'.2 (by rcases afD.1 hy with h|h;exact absurd h.symm e;exact h)];omega
theorem aiA (s:St):∀(l:List Int) (a:Int),l.foldl (fun a x=>if s.dc x.toNat then a-hd0 (s.cd x.toNat)else a) a=a-sF (fun x=>if s.dc x.toNat then hd0 (s.cd x.toNat)else 0) l:=by
 intro l;induction l with
 |nil=>intro a;simp[sF]
 |cons x r ih=>
  intro a;rw[ajg,ih];simp only[sF];split<;>omega
theorem aip (s:St) (sum:Int) (l:List Int):rst s sum l=sum-sF (fun x=>if s.dc x.toNat then hd0 (s.cd x.toNat)else 0) l:=aiA s l sum
theorem aiL (s:St) (o:List Int):xQ s o=sF (fun y=>hd0 (s.cd y.toNat)) o:=by
 unfold xQ;rw[ahL (fun y=>hd0 (s.cd y.toNat))];omega
theorem aiM (s:St) (o:List Int):xR s o=sF (fun y=>ls0 (s.cd y.toNat)) o:=by
 unfold xR;rw[ahL (fun y=>ls0 (s.cd y.toNat))];omega
theorem ahC (N l:List Int):mD N l=sF (fun x=>N.getD x.toNat 0) l:=by
 unfold mD;rw[ahL (fun x=>N.getD x.toNat 0)];omega
theorem aiq (s:St) (l:List Int) (but:Int) (g:Int→Int):sF g (opn s l but)=sF (fun x=>if !(s.dc x.toNat)&&decide (x≠but)then g x else 0) l:=by
 unfold opn;exact aio g _ l
theorem dz {s:St} {l:List Int} {but z:Int}:z∈opn s l but↔z∈l∧s.dc z.toNat=false∧z≠but:=by
 unfold opn;rw[agh];simp
theorem aiY {s:St} {l:List Int} {but:Int} (h:l.Pairwise (·< ·)):(opn s l but).Pairwise (·< ·):=h.filter _
def ChF (s:St) (o used:List Int) (sum:Int) (h:Int→Int):Prop:=
 (∀y∈o,h y∈s.cd y.toNat∧h y∉used)∧(∀y∈o,∀z∈o,y≠z→h y≠h z)∧sF h o=sum
theorem aiN (s:St):∀(o used:List Int) (sum:Int),o.Pairwise (·< ·)→(chs s o used sum=true↔∃h,ChF s o used sum h):=by
 intro o;induction o with
 |nil=>
  intro used sum _;simp only[chs,decide_eq_true_eq,ChF];constructor
  ·rintro rfl
   exact⟨fun _=>0,fun y hy=>by simp at hy,fun y hy=>by simp at hy,rfl⟩
  ·rintro⟨h,_,_,h3⟩
   exact h3.symm
 |cons y r ih=>
  intro used sum hp;have hp':=afE.1 hp;simp only[chs,agC,agh,ag8,decide_eq_false_iff_not];constructor
  ·rintro⟨x,⟨hx,hu⟩,hc⟩
   obtain⟨h,h1,h2,h3⟩:=(ih _ _ hp'.2).1 hc;have hne:∀z∈r,z≠y:=fun z hz=>by have:=hp'.1 z hz;omega
   refine⟨fun z=>if z=y then x else h z,fun z hz=>?_,fun z hz w hw hzw=>?_,?_⟩
   ·rcases afD.1 hz with rfl|hz
    ·simp only[if_true];exact⟨hx,hu⟩
    ·simp only[if_neg (hne z hz)]
     exact⟨(h1 z hz).1,fun hm=>(h1 z hz).2 (by simp[hm])⟩
   ·rcases afD.1 hz with rfl|hz2<;>rcases afD.1 hw with rfl|hw2
    ·exact absurd rfl hzw
    ·simp only[if_true,if_neg (hne w hw2)]
     exact fun e=>(h1 w hw2).2 (by simp[←e])
    ·simp only[if_true,if_neg (hne z hz2)]
     exact fun e=>(h1 z hz2).2 (by simp[e])
    ·simp only[if_neg (hne z hz2),if_neg (hne w hw2)]
     exact h2 z hz2 w hw2 hzw
   ·simp only[sF,if_true]
    have:sF (fun z=>if z=y then x else h z) r=sF h r:=ahp fun z hz=>by simp only[if_neg (hne z hz)]
    rw[this,h3];omega
  ·rintro⟨h,h1,h2,h3⟩
   refine⟨h y,h1 y (by simp),(ih _ _ hp'.2).2 ⟨h,fun z hz=>⟨(h1 z (by simp[hz])).1,fun hm=>?_⟩,fun z hz w hw=>h2 z (by simp[hz]) w (by simp[hw]),?_⟩⟩
   ·rcases aep.1 hm with hm|hm
    ·exact(h1 z (by simp[hz])).2 hm
    ·have:=hp'.1 z hz
     exact h2 z (by simp[hz]) y (by simp) (by omega) (agL.1 hm)
   ·simp only[sF]at h3;omega
structure ahq (c:Int) (ls:List (List Int)) (sum:Int) (f:List Int):Prop where
 len:(f.length:Int)=c
 nrm:nO f=true
 sum:∀i,i<ls.length→mD f (ls.getD i [])=sum
structure Alw (s:St) (f:List Int):Prop where
 len:s.cs.length=f.length
 mem:∀i,i<f.length→f.getD i 0∈s.cd i
theorem ahq.rng {c:Int} {ls:List (List Int)} {sum:Int} {f:List Int} (h:ahq c ls sum f) {i:Nat} (hi:i<f.length):1≤f.getD i 0∧f.getD i 0≤c:=by
 have h1:=Bn h.nrm (f.getD i 0) (pW hi);have:=h.len;omega
theorem ahq.inj {c:Int} {ls:List (List Int)} {sum:Int} {f:List Int} (h:ahq c ls sum f) {i j:Nat} (hi:i<f.length) (hj:j<f.length) (e:f.getD i 0=f.getD j 0):i=j:=by
 have hn:=abl h.nrm;rw[JI hi,JI hj]at e;exact(List.getElem_inj hn).1 e
theorem ahq.sur {c:Int} {ls:List (List Int)} {sum:Int} {f:List Int} (h:ahq c ls sum f) {x:Int} (hx:1≤x∧x≤c):∃i,i<f.length∧f.getD i 0=x:=by
 have hl:=h.len;have h1:x∈fG f:=by
  rw[Qh h.nrm];exact agQ.2 ⟨(x-1).toNat,afY.2 (by omega),by omega⟩
 have h2:x∈f:=(ahi f _).mem_iff.1 h1;obtain⟨i,hi,rfl⟩:=(iG _ x).1 h2;exact⟨i,hi,rfl⟩
theorem Alw.dec {c:Int} {ls:List (List Int)} {sum:Int} {s:St} {f:List Int} (hB:bO c ls sum s) (hA:Alw s f) {i:Nat} (hi:i<f.length) (hd:s.dc i=true):s.cd i=[f.getD i 0]:=by
 have h1:=hB.dec i (by rw[hA.len];exact hi) hd
 obtain⟨z,hz⟩:=aji.1 h1;have:=hA.mem i hi;rw[hz,agL]at this;rw[hz,this]
theorem ah1 {c:Int} {ls:List (List Int)} {sum:Int} {s:St} {f:List Int} (hB:bO c ls sum s) (hA:Alw s f) (hf:ahq c ls sum f) {k:Nat} (hk:k<ls.length):
 rst s sum (ls.getD k [])=sF (fun x=>if !(s.dc x.toNat)then f.getD x.toNat 0 else 0) (ls.getD k []):=by
 have h1:=hf.sum k hk;rw[ahC]at h1;rw[aip];have h2:sF (fun x=>f.getD x.toNat 0) (ls.getD k [])=sF (fun x=>(if s.dc x.toNat then hd0 (s.cd x.toNat)else 0)+(if !(s.dc x.toNat)then f.getD x.toNat 0 else 0)) (ls.getD k []):=ahp fun x hx=>by
  have hr:=(hB.ln k hk).rng x hx;have hl:=hf.len;cases hd:s.dc x.toNat with
  |true=>
   rw[hA.dec hB (by omega) hd]
   simp[hd0]
  |false=>simp
 rw[ain]at h2;omega
theorem ahD {c:Int} {ls:List (List Int)} {sum:Int} {s:St} {f:List Int} (hB:bO c ls sum s) (hA:Alw s f) (hf:ahq c ls sum f) {k:Nat} (hk:k<ls.length) {y:Int} (hy:y∈ls.getD k []) (hd:s.dc y.toNat=false):
 rst s sum (ls.getD k [])=f.getD y.toNat 0+sF (fun x=>f.getD x.toNat 0) (opn s (ls.getD k []) y):=by
 rw[ah1 hB hA hf hk,aiq];have h1:sF (fun x=>if !(s.dc x.toNat)then f.getD x.toNat 0 else 0) (ls.getD k [])=sF (fun x=>(if x=y then f.getD y.toNat 0 else 0)+(if !(s.dc x.toNat)&&decide (x≠y)then f.getD x.toNat 0 else 0)) (ls.getD k []):=ahp fun x hx=>by
  by_cases e:x=y
  ·subst e;simp[hd]
  ·simp[e]
 rw[h1,ain,aiX (hB.ln k hk).pw hy]
structure ahB (c:Int) (ls:List (List Int)) (g:Nat) (y x k:Int):Prop where
 gg:1≤g∧g≤5
 yy:0≤y∧y<c
 xx:1≤x∧x≤c
 kk:lnG g=true→(0≤k∧k<ls.length)∧y∈ls.getD k.toNat []
theorem aht {g:Nat} {s:St} {sum:Int} {l:List Int} {y x:Int}:okJ g s sum l y x=true↔s.dc y.toNat=false∧x∈s.cd y.toNat∧jst g s sum l y x=true:=by
 unfold okJ;simp
theorem sound {c:Int} {ls:List (List Int)} {sum:Int} {s:St} {f:List Int} (hB:bO c ls sum s) (hA:Alw s f) (hf:ahq c ls sum f) {g:Nat} {y x k:Int} (hL:ahB c ls g y x k) (h:okJ g s sum (ls.getD k.toNat []) y x=true):
 g≤3↔f.getD y.toNat 0=x:=by
 obtain⟨hd,hx,hj⟩:=aht.1 h;have hc:=hB.c1;have hfl:=hf.len;have hsl:=hB.cl;have hyf:y.toNat<f.length:=by have:=hL.yy;omega
 have hfy:=hA.mem _ hyf;have hg:=hL.gg;obtain rfl|rfl|rfl|rfl|rfl:g=1∨g=2∨g=3∨g=4∨g=5:=by omega
 ·refine⟨fun _=>?_,fun _=>by omega⟩
  obtain⟨hk,hm⟩:=hL.kk rfl;have:=ahD hB hA hf (k:=k.toNat) (by omega) hm hd
  simp only[jst,xO,aeA,decide_eq_true_eq]at hj;rw[ajj hj.1]at this;simp only[sF]at this;omega
 ·refine⟨fun _=>?_,fun _=>by omega⟩
  simp only[jst,xP,decide_eq_true_eq]at hj;obtain⟨z,hz⟩:=aji.1 hj;rw[hz,agL]at hx hfy;rw[hx,hfy]
 ·refine⟨fun _=>?_,fun _=>by omega⟩
  simp only[jst,qd,afI,afY,afs,decide_eq_true_eq,ag8,decide_eq_false_iff_not]at hj;obtain⟨i,hi,e⟩:=hf.sur hL.xx;have h1:=hA.mem i hi;rw[e]at h1;rcases hj i (by rw[hA.len];exact hi)with h2|h2
  ·rw[←h2];simpa using e
  ·exact absurd h1 h2
 ·refine⟨fun h=>by omega,fun e=>?_⟩
  exfalso
  obtain⟨hk,hm⟩:=hL.kk rfl;have h1:=ahD hB hA hf (k:=k.toNat) (by omega) hm hd
  have hr:=fun z (hz:z∈opn s (ls.getD k.toNat []) y)=>(hB.ln k.toNat (by omega)).rng z (dz.1 hz).1
  have hz:=fun z (hz:z∈opn s (ls.getD k.toNat []) y)=>hA.mem z.toNat (by have:=hr z hz;omega)
  have hasc:=fun z (hz:z∈opn s (ls.getD k.toNat []) y)=>(hB.asc z.toNat (by have:=hr z hz;omega)).1.pw
  have h2:xQ s (opn s (ls.getD k.toNat []) y)≤sF (fun x=>f.getD x.toNat 0) (opn s (ls.getD k.toNat []) y):=by
   rw[aiL];exact ahZ fun z hzz=>adS (hasc z hzz) _ (hz z hzz)
  have h3:sF (fun x=>f.getD x.toNat 0) (opn s (ls.getD k.toNat []) y)≤xR s (opn s (ls.getD k.toNat []) y):=by
   rw[aiM];exact ahZ fun z hzz=>aaN (hasc z hzz) _ (hz z hzz)
  simp only[jst,xS,afs,agC,decide_eq_true_eq]at hj;rcases hj with⟨z,hzz,e0⟩|hj
  ·have:=hz z hzz
   rw[e0]at this;simp at this
  ·omega
 ·refine⟨fun h=>by omega,fun e=>?_⟩
  exfalso
  obtain⟨hk,hm⟩:=hL.kk rfl;have h1:=ahD hB hA hf (k:=k.toNat) (by omega) hm hd
  have hr:=fun z (hz:z∈opn s (ls.getD k.toNat []) y)=>(hB.ln k.toNat (by omega)).rng z (dz.1 hz).1
  simp only[jst,xU,aeA,decide_eq_true_eq,ag8]at hj;have:chs s (opn s (ls.getD k.toNat []) y) [x] (rst s sum (ls.getD k.toNat [])-x)=true:=by
   refine(aiN s _ _ _ (aiY (hB.ln k.toNat (by omega)).pw)).2 ⟨fun z=>f.getD z.toNat 0,fun z hz=>⟨hA.mem _ (by have:=hr z hz;omega),fun hm=>?_⟩,fun z hz w hw hne e1=>?_,by omega⟩
   ·have h2:=hr z hz
    have:=hf.inj (i:=z.toNat) (j:=y.toNat) (by omega) hyf (by rw[e];exact agL.1 hm)
    exact(dz.1 hz).2.2 (by have:=hL.yy;omega)
   ·have h2:=hr z hz
    have h3:=hr w hw;have:=hf.inj (i:=z.toNat) (j:=w.toNat) (by omega) (by omega) e1
    omega
  rw[this]at hj;exact absurd hj.2 (by simp)
theorem aiO {c:Int} {ls:List (List Int)} {sum:Int} {s:St} {f:List Int} (hB:bO c ls sum s) (hA:Alw s f) (hf:ahq c ls sum f) {g:Nat} {y x k:Int} (hL:ahB c ls g y x k) (h:okJ g s sum (ls.getD k.toNat []) y x=true):Alw (apl g s y x) f:=by
 have hs:=sound hB hA hf hL h;have hc:=hB.c1;have hfl:=hf.len;have hsl:=hB.cl;have hy:=hL.yy;refine⟨AX.1.trans hA.len,fun i hi=>?_⟩;have hm:=hA.mem i hi;rw[aa0 (by omega) i (by omega)]
 by_cases hg:g≤3
 ·have hfy:=hs.1 hg
  rw[if_pos hg];split
  ·rename_i e;rw[e,hfy];simp
  ·rename_i e
   exact pq.2 ⟨hm,fun e1=>e (hf.inj hi (by omega) (by rw[e1,hfy]))⟩
 ·have hfy:f.getD y.toNat 0≠x:=fun e=>hg (hs.2 e)
  rw[if_neg hg];split
  ·rename_i e
   rw[e]at hm⊢;exact pq.2 ⟨hm,hfy⟩
  ·exact hm
theorem aiP {c:Int} {ls:List (List Int)} {sum:Int} {s:St} {f:List Int} (hB:bO c ls sum s) (hA:Alw s f) (hf:ahq c ls sum f):brk c ls sum s=false:=by
 have hfl:=hf.len;have hcl:=hB.cl;unfold brk;simp only[ajk,ajl,afI,afY,agC,agD,decide_eq_true_eq,aeA];refine⟨⟨fun i hi=>?_,fun l hl e=>?_⟩,fun l hl=>?_⟩
 ·obtain⟨j,hj,e⟩:=hf.sur (x:=(i:Int)+1) (by omega)
  have:=hA.mem j hj;rw[e]at this;exact⟨s.cd j,pW (by omega),this⟩
 ·obtain⟨j,hj,rfl⟩:=aeu hl
  have:=hA.mem j (by rw[←hA.len];exact hj)
  unfold St.cd at this;rw[aeo,aev hj]at this;simp only[Option.getD_some]at this;rw[e]at this;simp at this
 ·rintro⟨h1,h2⟩
  obtain⟨k,hk,rfl⟩:=aeu hl;have e:ls[k]=ls.getD k []:=by rw[aeo,aev hk];rfl
  rw[e]at h1 h2;rw[ah1 hB hA hf hk]at h2;apply h2;have:sF (fun x=>f.getD x.toNat 0) (opn s (ls.getD k []) (-1))=0:=by rw[ajj h1];rfl
  rw[aiq]at this;refine Eq.trans ?_ this;refine ahp fun x hx=>?_;have:=(hB.ln k hk).rng x hx;have h3:x≠ -1:=by omega
  simp[h3]
theorem aiZ {c:Int} {ls:List (List Int)} {sum:Int} {s:St} (hB:bO c ls sum s) {g:Nat} (hg:1≤g∧g≤5) {d:Dd} (hm:d∈gH g s sum ls):ahB c ls d.g d.y d.x d.k∧okJ d.g s sum (ls.getD d.k.toNat []) d.y d.x=true:=by
 obtain⟨h1,h2,h3,h4⟩:=FV.1 hm;have hcl:=hB.cl;obtain⟨h5,h6,h7⟩:=aht.1 h4;have hA:=hB.asc d.y.toNat (by omega)
 subst h1;refine⟨⟨hg,by omega,?_,fun hl=>?_⟩,h4⟩
 ·have:=hA.1.rng _ h6;have:=hA.2 _ h6;omega
 ·rw[if_pos hl]at h3;exact h3
theorem aib {c:Int} {ls:List (List Int)} {sum:Int} {s:St} (hB:bO c ls sum s) {n:Nat} (hn:n≤5) {d:Dd} (hf:iH s sum ls n=some d):ahB c ls d.g d.y d.x d.k∧okJ d.g s sum (ls.getD d.k.toNat []) d.y d.x=true∧d.g≤n:=by
 obtain⟨g,g1,g2,hm⟩:=FW hf;obtain⟨h1,h2⟩:=aiZ hB ⟨g1,by omega⟩ hm
 exact⟨h1,h2,by rw[(FV.1 hm).1];exact g2⟩
theorem ah2 {c:Int} {ls:List (List Int)} {sum:Int} {f:List Int} (hf:ahq c ls sum f) {n:Nat} (hn:n≤5):∀(u:Nat) (s:St) (l:List Dd),bO c ls sum s→StI s→Alw s f→
 (pz c ls sum n u s l).2.2≠21∧Alw (pz c ls sum n u s l).2.1 f∧bO c ls sum (pz c ls sum n u s l).2.1:=by
 intro u;induction u with
 |zero=>exact fun s l hB hI hA=>⟨by simp[pz],hA,hB⟩
 |succ u ih=>
  intro s l hB hI hA;unfold pz;rw[aiP hB hA hf];simp only[ad7,if_false];split
  ·exact⟨by simp,hA,hB⟩
  ·split
   ·exact⟨by simp,hA,hB⟩
   ·rename_i d hd
    obtain⟨h1,h2,h3⟩:=aib hB hn hd;obtain⟨h4,h5,h6⟩:=aht.1 h2;obtain⟨h7,h8⟩:=FZ hB hI (g:=d.g) h1.yy h1.xx h4 h5;exact ih _ _ h7 h8 (aiO hB hA hf h1 h2)
def okP (ls:List (List Int)) (sum:Int) (f:List Int):Bool:=ls.all fun l=>!decide (l.getD (l.length-1) 0<f.length)||decide (mD f l=sum)
def skp (gv f:List Int) (x:Int):Bool:=decide (x∈f)||(decide (0<gv.getD f.length 0)&&decide (gv.getD f.length 0≠x))||(decide (gv.getD f.length 0=0)&&decide (x∈gv))
def dw (c:Int) (ls:List (List Int)) (sum:Int) (gv:List Int):Nat→List Int→List (List Int)
 |0,f=>if okP ls sum f then [f]else []
 |k+1,f=>if okP ls sum f then(ael c.toNat).flatMap fun x:Nat=>if skp gv f ((x:Int)+1)then []else dw c ls sum gv k (f++[(x:Int)+1])else []
def stP (c:Int) (gv F:List Int) (i:Nat):Prop:=(1≤F.getD i 0∧F.getD i 0≤c)∧F.getD i 0∉F.take i∧(0<gv.getD i 0→gv.getD i 0=F.getD i 0)∧(gv.getD i 0=0→F.getD i 0∉gv)
theorem take_one {F f:List Int} {x:Int} (h:F.take (f.length+1)=f++[x]):F.take f.length=f∧F.getD f.length 0=x∧f.length<F.length:=by
 have hl:=congrArg List.length h;rw[ae0,afu,ajm]at hl;have h1:F.take f.length=f:=by
  have:=congrArg (List.take f.length) h;rw[List.take_take,aeU (by omega),List.take_left]at this
  exact this
 rw[dF (show f.length<F.length by omega),h1]at h
 have:=List.append_cancel_left h;exact⟨h1,by simpa using this,by omega⟩
theorem ahE {c:Int} {ls:List (List Int)} {sum:Int} {gv:List Int} (hgr:∀i,0≤gv.getD i 0):∀(k:Nat) (f F:List Int),((f.length+k:Nat):Int)=c→
 (F∈dw c ls sum gv k f↔((F.length:Int)=c∧F.take f.length=f)∧(∀i,f.length≤i→i<F.length→stP c gv F i)∧∀j,f.length≤j→j≤F.length→okP ls sum (F.take j)=true):=by
 intro k;induction k with
 |zero=>
  intro f F hl;unfold dw;constructor
  ·intro h
   split at h
   ·rename_i ho
    rw[agL]at h;subst h;exact⟨⟨by omega,af5⟩,fun i h1 h2=>by omega,fun j h1 h2=>by rw[ajn h1];exact ho⟩
   ·simp at h
  ·rintro⟨⟨h1,h2⟩,h3,h4⟩
   have h5:=h4 f.length (aea _) (by omega)
   rw[h2]at h5;rw[if_pos h5,agL,←h2,ajn (by omega)]
 |succ k ih=>
  intro f F hl;unfold dw;constructor
  ·intro h
   split at h
   ·rename_i ho
    obtain⟨x,hx,h⟩:=ag7.1 h;split at h
    ·simp at h
    ·rename_i hs
     have hx:=afY.1 hx;obtain⟨⟨h1,h2⟩,h3,h4⟩:=(ih _ _ (by rw[afu,ajm];omega)).1 h
     rw[afu,ajm]at h2 h3 h4;obtain⟨h5,h6,h7⟩:=take_one h2;unfold skp at hs;simp only[afs,aeA,decide_eq_true_eq,not_or,not_and,Decidable.not_not]at hs;refine⟨⟨h1,h5⟩,fun i i1 i2=>?_,fun j j1 j2=>?_⟩
     ·by_cases e:i=f.length
      ·subst e
       refine⟨by omega,by rw[h5,h6];exact hs.1.1,fun hp=>by rw[h6];exact hs.1.2 hp,fun hz=>by rw[h6];exact hs.2 hz⟩
      ·exact h3 i (by omega) i2
     ·by_cases e:j=f.length
      ·subst e;rw[h5];exact ho
      ·exact h4 j (by omega) j2
   ·simp at h
  ·rintro⟨⟨h1,h2⟩,h3,h4⟩
   have h5:=h4 f.length (aea _) (by omega)
   rw[h2]at h5;rw[if_pos h5];obtain⟨s1,s2,s3,s4⟩:=h3 f.length (aea _) (by omega)
   have he:(((F.getD f.length 0-1).toNat:Nat):Int)+1=F.getD f.length 0:=by omega
   refine ag7.2 ⟨(F.getD f.length 0-1).toNat,afY.2 (by omega),?_⟩
   rw[he];have hs:skp gv f (F.getD f.length 0)=false:=by
    unfold skp;rw[h2]at s2;simp only[ajk,ajo,decide_eq_false_iff_not];refine⟨⟨s2,?_⟩,?_⟩
    ·by_cases e:0<gv.getD f.length 0
     ·right;exact fun hn=>hn (s3 e)
     ·left;exact e
    ·by_cases e:gv.getD f.length 0=0
     ·right;exact s4 e
     ·left;exact e
   rw[hs,if_neg (by simp)]
   refine(ih _ _ (by rw[afu,ajm];omega)).2 ?_
   rw[afu,ajm];refine⟨⟨h1,by rw[dF (by omega),h2]⟩,fun i i1 i2=>h3 i (by omega) i2,fun j j1 j2=>h4 j (by omega) j2⟩
theorem aie {c:Int} {ls:List (List Int)} {sum:Int} {gv:List Int} (hgr:∀i,0≤gv.getD i 0):∀(k:Nat) (f:List Int),((f.length+k:Nat):Int)=c→(dw c ls sum gv k f).Nodup:=by
 intro k;induction k with
 |zero=>intro f _;unfold dw;split<;>simp
 |succ k ih=>
  intro f hl;unfold dw;split
  ·rw[List.Nodup,List.pairwise_flatMap]
   refine⟨fun x _=>?_,?_⟩
   ·split
    ·simp
    ·exact ih _ (by rw[afu,ajm];omega)
   ·refine List.nodup_range.imp fun hne F hF G hG e=>?_
    subst e;split at hF
    ·simp at hF
    ·split at hG
     ·simp at hG
     ·have h1:=((ahE hgr k _ _ (by rw[afu,ajm];omega)).1 hF).1.2
      have h2:=((ahE hgr k _ _ (by rw[afu,ajm];omega)).1 hG).1.2
      rw[afu,ajm]at h1 h2;have h3:=(take_one h1).2.1;have h4:=(take_one h2).2.1;omega
  ·simp
theorem ai0 {l:List Int} (hp:l.Pairwise (·< ·)) {a:Int} (ha:∀x∈l,a≤x):∀i,i<l.length→a+i≤l.getD i 0:=by
 intro i;induction i with
 |zero=>intro hi;have:=ha _ (pW (d:=(0:Int)) hi);omega
 |succ i ih=>
  intro hi;have h1:=ih (by omega)
  have h2:=ajp.1 hp i (i+1) (by omega) hi (by omega)
  rw[JI (show i<l.length by omega)]at h1
  rw[JI hi];omega
theorem ai1 {l:List Int} (hp:l.Pairwise (·< ·)) {b:Int} (hb:∀x∈l,x≤b):∀d i,i+d+1=l.length→l.getD i 0+d≤b:=by
 intro d;induction d with
 |zero=>intro i hi;have:=hb _ (pW (l:=l) (d:=(0:Int)) (show i<l.length by omega));omega
 |succ d ih=>
  intro i hi;have h1:=ih (i+1) (by omega)
  have h2:=ajp.1 hp i (i+1) (by omega) (by omega) (by omega)
  rw[JI (show i+1<l.length by omega)]at h1
  rw[JI (show i<l.length by omega)];omega
theorem ah3 {F:List Int} (hn:F.Nodup) (hr:∀x∈F,1≤x∧x≤F.length):nO F=true:=by
 have hp:(fG F).Perm F:=ahi F _;have hs:(fG F).Pairwise (·≤ ·):=by
  have:=List.pairwise_mergeSort (le:=fun x y:Int=>decide (x≤y)) (fun a b c h1 h2=>by simp at*;omega) (fun a b=>by simp;omega) F
  exact this.imp fun h=>by simpa using h
 have hs2:(fG F).Pairwise (·< ·):=by
  have hn2:(fG F).Pairwise (·≠ ·):=hp.nodup_iff.2 hn;exact hs.imp₂ (fun a b h1 h2=>by omega) hn2
 have hlo:=ai0 hs2 (a:=1) fun x hx=>(hr x (hp.mem_iff.1 hx)).1;have hhi:=ai1 hs2 (b:=F.length) fun x hx=>(hr x (hp.mem_iff.1 hx)).2;refine Qg fun i hi=>?_;have h1:=hlo i (by rw[mY];exact hi)
 have h2:=hhi (F.length-1-i) i (by rw[mY];omega)
 omega
structure ah4 (c:Int) (ls:List (List Int)) (sum:Int) (gv F:List Int):Prop where
 s:ahq c ls sum F
 g:∀i,i<gv.length→0<gv.getD i 0→gv.getD i 0=F.getD i 0
theorem ahv {F l:List Int} {j:Nat} (h:∀x∈l,0≤x∧x<j):mD (F.take j) l=mD F l:=by
 rw[ahC,ahC];refine ahp fun x hx=>?_;have:=h x hx;rw[aeo,aeo,ahm (by omega)]
theorem ahu {F:List Int} {i:Nat} {x:Int} (hi:i≤F.length):x∈F.take i↔∃j,j<i∧F.getD j 0=x:=by
 constructor
 ·intro h
  obtain⟨j,hj,e⟩:=(iG _ _).1 h;rw[ae0]at hj;refine⟨j,by omega,?_⟩
  rw[←e,aeo,aeo,ahm (by omega)]
 ·rintro⟨j,hj,e⟩
  rw[←e];exact wP hj hi
theorem ah5 {c:Int} {ls:List (List Int)} {sum:Int} {gv:List Int} (h:dR c ls sum gv) (F:List Int):F∈dw c ls sum gv gv.length []↔ah4 c ls sum gv F:=by
 have hgl:=h.gl;have hgr:∀i,0≤gv.getD i 0:=fun i=>by
  by_cases e:i<gv.length
  ·exact(h.gr _ (pW e)).1
  ·rw[aeo,ajq (by omega)];exact ajh _
 rw[ahE hgr gv.length [] F (by simpa using hgl)]
 simp only[List.length_nil,ajr,Nat.zero_le,true_implies];have hlast:∀k,k<ls.length→∀j:Nat,(ls.getD k []).getD ((ls.getD k []).length-1) 0<j→∀x∈ls.getD k [],0≤x∧x<j:=fun k hk j hj x hx=>by
  have hL:=h.ln k hk;have h1:=aaN hL.pw x hx;unfold ls0 at h1;have:=hL.rng x hx;omega
 constructor
 ·rintro⟨⟨h1,_⟩,h3,h4⟩
  have hnd:F.Nodup:=by
   rw[List.Nodup,ajp];intro i j hi hj hij e;refine(h3 j hj).2.1 ((ahu (by omega)).2 ⟨i,hij,?_⟩)
   rw[JI hi,JI hj];exact e
  refine⟨⟨h1,ah3 hnd fun x hx=>?_,fun k hk=>?_⟩,fun i hi hp=>(h3 i (by omega)).2.2.1 hp⟩
  ·obtain⟨i,hi,rfl⟩:=(iG _ _).1 hx
   have:=(h3 i hi).1;omega
  ·have h5:=h4 F.length (aea _)
   rw[af5]at h5;unfold okP at h5;have h6:=afI.1 h5 (ls.getD k []) (pW hk);have hL:=h.ln k hk;have hm:=Ag hL.ne;have:=hL.rng _ hm;unfold ls0 at this;rw[afs,ag8,decide_eq_false_iff_not,decide_eq_true_eq]at h6;rcases h6 with h6|h6
   ·exact absurd (by omega) h6
   ·exact h6
 ·rintro⟨hS,hg⟩
  have hFl:=hS.len;refine⟨⟨hFl,trivial⟩,fun i hi=>⟨hS.rng hi,fun hm=>?_,fun hp=>hg i (by omega) hp,fun hz hm=>?_⟩,fun j hj=>?_⟩
  ·obtain⟨j,hj,e⟩:=(ahu (by omega)).1 hm
   have:=hS.inj (i:=j) (j:=i) (by omega) hi e
   omega
  ·obtain⟨j,hj,e⟩:=(iG _ _).1 hm
   have h1:=hS.rng hi;have h2:=hg j hj (by omega)
   have:=hS.inj (i:=i) (j:=j) hi (by omega) (by omega)
   subst this;omega
  ·unfold okP
   refine afI.2 fun l hl=>?_;obtain⟨k,hk,rfl⟩:=aeu hl;have e:ls[k]=ls.getD k []:=by rw[aeo,aev hk];rfl
   rw[e];rw[afs,ag8,decide_eq_false_iff_not,decide_eq_true_eq,ae0,aeU hj];by_cases hlt:(ls.getD k []).getD ((ls.getD k []).length-1) 0<j
   ·right
    rw[ahv (hlast k hk j hlt)];exact hS.sum k hk
   ·exact .inl hlt
theorem air {α:Type} (A B:List α) (m:Nat):(A++B).take m=A.take m++B.take (m-A.length):=List.take_append
structure SrJ (c:Int) (ls:List (List Int)) (sum:Int) (gv:List Int) (f:Nat) (N U:List Int):Prop where
 fl:f≤gv.length
 nl:N.length=gv.length
 tl:∀j,gv.length-f≤j→j<gv.length→N.getD j 0=gv.getD j 0
 us:∀x:Int,1≤x→(x∈U↔x∈gv∨x∈N.take (gv.length-f))
 gd:∀i,i<gv.length-f→(0<gv.getD i 0→N.getD i 0=gv.getD i 0)∧(gv.getD i 0=0→N.getD i 0∉gv)
 pv:1≤gv.length-f→okP ls sum (N.take (gv.length-f-1))=true
theorem ais {c:Int} {ls:List (List Int)} {sum:Int} {gv:List Int} (h:dR c ls sum gv) {f:Nat} {N U:List Int} (hJ:SrJ c ls sum gv f N U):lC ls sum N ((gv.length-f:Nat):Int)=okP ls sum (N.take (gv.length-f)):=by
 obtain⟨m,hm⟩:∃m,gv.length-f=m:=⟨_,rfl⟩;have hnl:=hJ.nl;have hpv:=hJ.pv;rw[hm]at hpv⊢;have hm2:m≤gv.length:=by omega
 unfold lC okP;rw[ae0,aeU (by omega)]
 unfold okP at hpv;rw[ae0,aeU (by omega)]at hpv
 rw[af7,afI,afI];have key:∀l∈ls,(∀j:Nat,l.getD (l.length-1) 0<j→∀x∈l,0≤x∧x<j):=fun l hl j hj x hx=>by
  obtain⟨k,hk,rfl⟩:=aeu hl;have e:ls[k]=ls.getD k []:=by rw[aeo,aev hk];rfl
  rw[e]at hj hx;have hL:=h.ln k hk;have h1:=aaN hL.pw x hx;unfold ls0 at h1;have:=hL.rng x hx;omega
 have last0:∀l∈ls,0≤l.getD (l.length-1) 0:=fun l hl=>by
  obtain⟨k,hk,rfl⟩:=aeu hl;have e:ls[k]=ls.getD k []:=by rw[aeo,aev hk];rfl
  rw[e];have hL:=h.ln k hk;have:=hL.rng _ (Ag hL.ne);unfold ls0 at this;omega
 constructor
 ·intro hf l hl
  rw[afs,ag8,decide_eq_false_iff_not,decide_eq_true_eq];by_cases hlt:l.getD (l.length-1) 0<(m:Int)
  ·right
   rw[ahv (key l hl m hlt)];by_cases e:l.getD (l.length-1) 0=(m:Int)-1
   ·have:=hf l hl
    unfold vo at this;rw[decide_eq_true e,Bool.not_true,Bool.false_or,decide_eq_true_eq]at this;exact this
   ·have h0:=last0 l hl
    have hlt2:l.getD (l.length-1) 0<((m-1:Nat):Int):=by omega
    have:=afI.1 (hpv (by omega)) l hl
    rw[afs,ag8,decide_eq_false_iff_not,decide_eq_true_eq]at this;rcases this with h1|h1
    ·exact absurd hlt2 h1
    ·rw[ahv (key l hl _ hlt2)]at h1
     exact h1
  ·exact .inl hlt
 ·intro hf l hl
  unfold vo;rw[afs,ag8,decide_eq_false_iff_not,decide_eq_true_eq];by_cases e:l.getD (l.length-1) 0=(m:Int)-1
  ·right
   have:=hf l hl;rw[afs,ag8,decide_eq_false_iff_not,decide_eq_true_eq]at this;rcases this with h1|h1
   ·exact absurd (by omega) h1
   ·rw[ahv (key l hl m (by omega))]at h1
    exact h1
  ·exact .inl e
theorem ait {α:Type} {g:Nat→List α} {a:Nat}:∀{m:Nat},a<m→(∀x,x<m→x≠a→g x=[])→(ael m).flatMap g=g a:=by
 intro m;induction m with
 |zero=>intro h;omega
 |succ m ih=>
  intro ha hn;rw[ag0,ag1,ajs];by_cases e:a=m
  ·subst e
   have:(ael a).flatMap g=[]:=List.flatMap_eq_nil_iff.2 fun x hx=>hn x (by have:=afY.1 hx;omega) (by have:=afY.1 hx;omega)
   rw[this];rfl
  ·rw[ih (by omega) fun x hx hne=>hn x (by omega) hne,hn m (by omega) (Ne.symm e),agN]
theorem aiB {c:Int} {ls:List (List Int)} {sum:Int} {gv:List Int} (h:dR c ls sum gv) (lim:Nat):∀(f:Nat) (R:List (List Int)) (N U:List Int),SrJ c ls sum gv f N U→
 nN lim ls sum gv f R N U=R++(dw c ls sum gv f (N.take (gv.length-f))).take (lim-R.length):=by
 have hgl:=h.gl;intro f;induction f with
 |zero=>
  intro R N U hJ;have hf:=ais h hJ;have hnl:=hJ.nl;have hN:N.take (gv.length-0)=N:=ajn (by omega)
  rw[hN]at hf⊢;rw[Nat.sub_zero]at hf;unfold nN dw;by_cases h1:(lim:Int)≤R.length
  ·rw[if_pos (.inl h1),show lim-R.length=0 by omega,ajr,agN]
  ·by_cases h2:lC ls sum N gv.length=false
   ·rw[if_pos (.inr h2),←hf,h2];simp
   ·rw[if_neg (fun hh=>hh.elim h1 h2)]
    have:okP ls sum N=true:=by rw[←hf];simpa using h2
    rw[if_pos this,ajn (by rw[ajm];omega)]
 |succ f ih=>
  intro R N U hJ;have hf:=ais h hJ;have hfl:=hJ.fl;have hnl:=hJ.nl;obtain⟨m,hm⟩:∃m,gv.length-(f+1)=m:=⟨_,rfl⟩;have hm1:gv.length-f=m+1:=by omega
  have hpl:(N.take m).length=m:=by rw[ae0];omega
  unfold nN dw;rw[hm]at hf⊢;by_cases h1:(lim:Int)≤R.length
  ·rw[if_pos (.inl h1),show lim-R.length=0 by omega,ajr,agN]
  ·by_cases h2:lC ls sum N (m:Nat)=false
   ·rw[if_pos (.inr h2),←hf,h2];simp
   ·have hok:okP ls sum (N.take m)=true:=by rw[←hf];simpa using h2
    rw[if_neg (fun hh=>hh.elim h1 h2),if_pos hok];have skv:∀x:Int,skp gv (N.take m) x=(decide (x∈N.take m)||(decide (0<gv.getD m 0)&&decide (gv.getD m 0≠x))||(decide (gv.getD m 0=0)&&decide (x∈gv))):=fun x=>by unfold skp;rw[hpl]
    have nxt:∀(N' U':List Int) (v:Int),N'.length=gv.length→N'.take m=N.take m→N'.getD m 0=v→(∀j,m+1≤j→j<gv.length→N'.getD j 0=N.getD j 0)→(∀x:Int,1≤x→(x∈U'↔x∈gv∨x∈N.take m∨x=v))→(0<gv.getD m 0→v=gv.getD m 0)→(gv.getD m 0=0→v∉gv)→SrJ c ls sum gv f N' U'∧N'.take (gv.length-f)=N.take m++[v]:=fun N' U' v a1 a2 a3 a4 a5 a6 a7=>by
     have ht:N'.take (m+1)=N.take m++[v]:=by rw[dF (by omega),a2,a3]
     refine⟨⟨by omega,a1,fun j j1 j2=>?_,fun x hx=>?_,fun i hi=>?_,fun _=>?_⟩,by rw[hm1,ht]⟩
     ·rw[a4 j (by omega) j2];exact hJ.tl j (by omega) j2
     ·rw[hm1,ht,a5 x hx,aep,agL]
     ·rw[hm1]at hi
      by_cases e:i=m
      ·subst e;rw[a3];exact⟨a6,a7⟩
      ·have e1:N'.getD i 0=N.getD i 0:=by
        have:=congrArg (fun l:List Int=>l.getD i 0) a2;simp only[aeo]at this⊢;rw[ahm (by omega),ahm (by omega)]at this
        exact this
       rw[e1];exact hJ.gd i (by omega)
     ·rw[hm1,Nat.add_sub_cancel,a2];exact hok
    by_cases hp:0<gv.getD m 0
    ·rw[if_pos hp]
     have hv:=hJ.tl m (by omega) (by omega)
     have hvm:gv.getD m 0∈gv:=pW (by omega)
     have hvr:=h.gr _ hvm;have hU:=hJ.us;rw[hm]at hU;obtain⟨j1,j2⟩:=nxt N U (gv.getD m 0) hnl rfl hv (fun _ _ _=>rfl) (fun x hx=>by
      rw[hU x hx];constructor
      ·rintro(q|q)
       ·exact .inl q
       ·exact .inr (.inl q)
      ·rintro(q|q|q)
       ·exact .inl q
       ·exact .inr q
       ·exact .inl (q▸hvm)) (fun _=>rfl) (fun e=>by omega)
     rw[ih R N U j1,j2];have hnin:gv.getD m 0∉N.take m:=fun hmm=>by
      obtain⟨j,hj,e⟩:=(ahu (by omega)).1 hmm
      have hg:=hJ.gd j (by omega)
      by_cases e0:0<gv.getD j 0
      ·exact h.gd j m hj (by omega) hp ((hg.1 e0).symm.trans e)
      ·have:=(h.gr _ (pW (l:=gv) (d:=(0:Int)) (show j<gv.length by omega))).1
       exact hg.2 (by omega) (e▸hvm)
     have he:(((gv.getD m 0-1).toNat:Nat):Int)+1=gv.getD m 0:=by omega
     rw[ait (a:=(gv.getD m 0-1).toNat) (by omega) fun x hx hne=>by
      rw[skv,if_pos];have:gv.getD m 0≠(x:Int)+1:=by omega
      simp only[afs,aeA,decide_eq_true_eq];exact .inl (.inr ⟨hp,this⟩)]
     rw[he,skv,if_neg];simp only[afs,aeA,decide_eq_true_eq]
     rintro((q|q)|q)
     ·exact hnin q
     ·exact q.2 rfl
     ·omega
    ·have hz:gv.getD m 0=0:=by
      have:=(h.gr _ (pW (l:=gv) (d:=(0:Int)) (show m<gv.length by omega))).1
      omega
     rw[if_neg hp];have hU:=hJ.us;rw[hm]at hU;have hcn:c.toNat=gv.length:=by omega
     rw[hcn];have step:∀q,q≤gv.length→(ael q).foldl (fun R (x:Nat)=>if((x:Int)+1)∈U then R else nN lim ls sum gv f R (N.set m ((x:Int)+1)) (U++[(x:Int)+1])) R=R++((ael q).flatMap fun x:Nat=>if skp gv (N.take m) ((x:Int)+1)then []else dw c ls sum gv f (N.take m++[(x:Int)+1])).take (lim-R.length):=by
      intro q;induction q with
      |zero=>intro _;simp
      |succ q ihq=>
       intro hq;rw[ag0,List.foldl_append,ag1,ihq (by omega),ajs]
       simp only[ajg,List.foldl_nil];obtain⟨A,hA⟩:∃A,((ael q).flatMap fun x:Nat=>if skp gv (N.take m) ((x:Int)+1)then []else dw c ls sum gv f (N.take m++[(x:Int)+1]))=A:=⟨_,rfl⟩;rw[hA];have hsk:skp gv (N.take m) ((q:Int)+1)=decide (((q:Int)+1)∈U):=by
        rw[skv,af7];simp only[afs,aeA,decide_eq_true_eq];rw[hU _ (by omega)]
        constructor
        ·rintro((q1|⟨q1,_⟩)|⟨_,q1⟩)
         ·exact .inr q1
         ·exact absurd q1 hp
         ·exact .inl q1
        ·rintro(q1|q1)
         ·exact .inr ⟨hz,q1⟩
         ·exact .inl (.inl q1)
       by_cases hin:((q:Int)+1)∈U
       ·rw[if_pos hin,hsk,decide_eq_true hin,if_pos rfl,agN]
       ·rw[if_neg hin,hsk,decide_eq_false hin,if_neg (by simp)]
        have hgv:((q:Int)+1)∉gv:=fun e=>hin ((hU _ (by omega)).2 (.inl e))
        obtain⟨j1,j2⟩:=nxt (N.set m ((q:Int)+1)) (U++[(q:Int)+1]) ((q:Int)+1) (by rw[List.length_set];exact hnl) (by rw[List.take_set_of_le (aea _)]) (by simp[aeo,show m<N.length by omega]) (fun j hj _=>by simp[aeo,List.getElem?_set_ne (show m≠j by omega)]) (fun x hx=>by
         rw[aep,agL,hU x hx,or_assoc]) (fun e=>absurd e hp) (fun _=>hgv)
        rw[ih _ _ _ j1,j2,List.append_assoc,air,afu,ae0];congr 2;congr 1;omega
     exact step gv.length (aea _)
theorem aiu {c:Int} {ls:List (List Int)} {sum:Int} {gv:List Int} (h:dR c ls sum gv) (lim:Nat):nN lim ls sum gv gv.length [] gv gv=(dw c ls sum gv gv.length []).take lim:=by
 rw[aiB h lim gv.length [] gv gv ⟨aea _,rfl,fun _ _ _=>rfl,fun x hx=>by simp,fun i hi=>by omega,fun hi=>by omega⟩]
 simp
end Go.Eng.YtcechbdgokjmgaaGreatDoor
namespace Go.Eng.YtcechbdgokjmgaaGreatDoor
open Go.Proofs
set_option linter.unusedSimpArgs false
set_option linter.unusedVariables false
set_option maxHeartbeats 0
set_option maxRecDepth 100000
theorem ah9 (l f:List Int) (h:l.length≤1000) (hl:∀x∈l,0≤x∧x<f.length) (hf:∀x∈f,0≤x∧x≤16):aF Tryz.prog 119 [.isl (.ints .i64 l) .none,.isl (.ints .i64 f) .none] (.int .i64 (mD f l)):=by
 refine av (md:=1) (rf:=[]) mixed ak aD Tryz.func119 (by rfl) (by rfl) (by rfl) ?_
 repeat'((conv=>whnf);first|(intro hq;(try simp only[vw]at hq);try first|exact absurd hq (by decide)|exfalso;omega)|apply aI|with_reducible exact vM rfl|exact⟨⟩|apply nM|apply fM)
 all_goals((try apply vM);(try simp only[vq]at*);try omega)
 conv=>whnf
 refine aM (X:=Nat) (fun i=>i≤l.length) (fun i=>[(6,.int .i64 i),(5,.int .i64 (mD f (l.take i)))]) (fun i=>[]) (fun i=>l.length-i) 0 ⟨aK,mixed,ak,aD,aQ⟩ (by rfl) (by omega) ?_ ?_
 ·repeat'((conv=>whnf);first|intro _|apply aI|with_reducible exact vM rfl|exact⟨⟩|apply nM|apply fM)
  all_goals((try apply vM);(try simp only[vq]at*);try omega)
  all_goals rfl
 intro i hi;have hbd:=wC hf (l.take i);rw[ae0]at hbd;by_cases hlt:i<l.length
 ·have hx:=hl _ (pW (d:=(0:Int)) hlt)
  have hxl:(l.getD i 0).toNat<f.length:=by omega
  have hfx:=hf _ (pW (d:=(0:Int)) hxl);have hap:=Gd f (l.take i) (l.getD i 0);rw[←dF hlt]at hap
  repeat'((conv=>whnf);first|(intro hq;(try simp only[vw]at hq);try first|exact absurd hq (by decide)|exfalso;omega)|apply aI|with_reducible exact vM rfl|exact⟨⟩|apply nM|apply fM)
  all_goals((try apply vM);(try simp only[vq]at*);try omega)
  all_goals(try omega)
  refine⟨i+1,[],⟨by omega,by omega⟩,?_⟩
  rw[hap]
  repeat'((conv=>whnf);first|intro _|apply aI|with_reducible exact vM rfl|exact⟨⟩|apply nM|apply fM)
  all_goals((try apply vM);(try simp only[vq]at*);try omega)
 ·have:i=l.length:=by omega
  subst this;rw[af5]
  repeat'((conv=>whnf);first|(intro hq;(try simp only[vw]at hq);try first|exact absurd hq (by decide)|exfalso;omega)|apply aI|with_reducible exact vM rfl|exact⟨⟩|apply nM|apply fM)
  all_goals((try apply vM);(try simp only[vq]at*);try omega)
  all_goals(try first|omega|exact Sup.of rfl)
def ahM:PSp:=fun xs K=>match xs with
 | [.isl (.ints .i64 l) .none,.isl (.ints .i64 f) .none]=>VC (l.length≤1000∧(∀x∈l,0≤x∧x<f.length)∧∀x∈f,0≤x∧x≤16)∧K (.int .i64 (mD f l))
 |_=>False
theorem aiv:POK Tryz.prog 119 ahM:=by
 intro xs K h;unfold ahM at h;split at h
 ·exact⟨_,h.2,ah9 _ _ h.1.get.1 h.1.get.2.1 h.1.get.2.2⟩
 ·exact h.elim
theorem clD {b:Bool} (h:b=false) (h':b=true):False:=by rw[h]at h';cases h'
def csE (c:Int) (s:St):Int:=if(s.cs.length:Int)≠c∨(s.ds.length:Int)≠c then 2 else cO (fun i=>kL c (s.cd i) (s.dc i)) s.cs.length
theorem aiC (c:Int) (ls:List (List Int)) (sum:Int) (gv:List Int) (s:St) (h1:s.cs.length≤1000000∧s.ds.length≤1000000) (h2:∀i,i<s.cs.length→(s.cs.getD i []).length≤1000000):aF Tryz.prog 49 [pzV c ls sum gv,stV s] (.int .i64 (csE c s)):=by
 by_cases hl:(s.cs.length:Int)≠c∨(s.ds.length:Int)≠c
 ·have he:csE c s=2:=if_pos hl
  rw[he];refine av (md:=1) (rf:=[]) mixed ak aD Tryz.func49 (by rfl) (by rfl) (by rfl) ?_
  repeat'((conv=>whnf);first|(intro hq;(try simp only[vw]at hq);try first|exact absurd hq (by decide)|exfalso;omega)|apply aI|with_reducible exact vM rfl|exact⟨⟩|apply nM|apply fM)
  all_goals((try apply vM);(try simp only[vq]at*);try omega)
  all_goals(try first|omega|exact Sup.of rfl)
 have he:csE c s=cO (fun i=>kL c (s.cd i) (s.dc i)) s.cs.length:=if_neg hl;have e1:(s.cs.length:Int)=c:=by omega
 have e2:(s.ds.length:Int)=c:=by omega
 refine av (md:=1) (rf:=[]) mixed ak aD Tryz.func49 (by rfl) (by rfl) (by rfl) ?_
 repeat'((conv=>whnf);first|(intro hq;(try simp only[vw]at hq);try first|exact absurd hq (by decide)|exfalso;omega)|apply aI|with_reducible exact vM rfl|exact⟨⟩|apply nM|apply fM)
 all_goals((try apply vM);(try simp only[vq]at*);try omega)
 all_goals(try omega)
 conv=>whnf
 refine aM (X:=Nat) (fun i=>i≤s.cs.length∧∀j,j<i→kL c (s.cd j) (s.dc j)=0) (fun i=>[(6,.int .i64 i)]) (fun i=>[]) (fun i=>s.cs.length-i) 0 ⟨aK,mixed,ak,aD,aQ⟩ (by rfl) ⟨by omega,fun j hj=>by omega⟩ ?_ ?_
 ·repeat'((conv=>whnf);first|intro _|apply aI|with_reducible exact vM rfl|exact⟨⟩|apply nM|apply fM)
  all_goals((try apply vM);(try simp only[vq]at*);try omega)
 intro i ⟨hi,hok⟩;by_cases hlt:i<s.cs.length
 case neg=>
  have:i=s.cs.length:=by omega
  subst this;rw[he,fO hok]
  repeat'((conv=>whnf);first|(intro hq;(try simp only[vw]at hq);try first|exact absurd hq (by decide)|exfalso;omega)|apply aI|with_reducible exact vM rfl|exact⟨⟩|apply nM|apply fM)
  all_goals((try apply vM);(try simp only[vq]at*);try omega)
  all_goals(try first|omega|exact Sup.of rfl)
 have hll:=h2 i hlt;have fin:∀e,kL c (s.cd i) (s.dc i)=e→e≠0→csE c s=e:=fun e a1 a2=>by
  rw[he];exact(dY hlt (by rw[a1];exact a2) hok).trans a1
 have nxt:kL c (s.cd i) (s.dc i)=0→∀j,j<i+1→kL c (s.cd j) (s.dc j)=0:=fun a j hj=>by
  by_cases e:j=i
  ·subst e;exact a
  ·exact hok j (by omega)
 have hcd:s.cd i=s.cs.getD i []:=rfl;have hdc:s.dc i=s.ds.getD i false:=rfl;rw[hcd,hdc]at fin nxt;obtain⟨l,hL⟩:∃l,s.cs.getD i []=l:=⟨_,rfl⟩;rw[hL]at fin nxt hll
 repeat'((conv=>whnf);first|(intro hq;(try simp only[vw]at hq);try first|exact absurd hq (by decide)|exfalso;omega)|apply aI|with_reducible exact vM rfl|exact⟨⟩|apply nM|apply fM)
 all_goals((try apply vM);(try simp only[vq]at*);try omega)
 all_goals(try omega)
 conv=>whnf
 refine aM (X:=Nat) (fun k=>k≤l.length∧∀j,j<k→1≤l.getD j 0∧l.getD j 0≤c) (fun k=>[(7,.isl (.ints .i64 l) .none),(8,.int .i64 k)]) (fun k=>[]) (fun k=>l.length-k) 0 ⟨aK,mixed,ak,aD,aQ⟩ (by rfl) ⟨by omega,fun j hj=>by omega⟩ ?_ ?_
 ·repeat'((conv=>whnf);first|intro _|apply aI|with_reducible exact vM rfl|exact⟨⟩|apply nM|apply fM)
  all_goals((try apply vM);(try simp only[vq]at*);try omega)
  all_goals first|exact hL|exact hL.symm|(rw[hL];done)|skip
 intro k ⟨hk,hkr⟩;by_cases hkl:k<l.length
 ·have hno:(l.getD k 0<1∨c<l.getD k 0)→csE c s=3:=fun a=>by
   refine fin 3 ?_ (by decide)
   have:l.any (jI 1 c)=true:=agC.2 ⟨l.getD k 0,pW hkl,by
    unfold jI;rcases a with a|a
    ·rw[decide_eq_true a];rfl
    ·rw[decide_eq_true a,Bool.or_true]⟩
   unfold kL;rw[this];rfl
  repeat'((conv=>whnf);first|(intro hq;(try simp only[vw]at hq);try first|exact absurd hq (by decide)|exfalso;omega)|apply aI|with_reducible exact vM rfl|exact⟨⟩|apply nM|apply fM)
  all_goals((try apply vM);(try simp only[vq]at*);try omega)
  all_goals(try omega)
  ·rw[hno (.inr hq)];exact Sup.of rfl
  ·refine⟨k+1,[],⟨⟨by omega,fun j hj=>?_⟩,by omega⟩,?_⟩
   ·by_cases e:j=k
    ·subst e;omega
    ·exact hkr j (by omega)
   repeat'((conv=>whnf);first|intro _|apply aI|with_reducible exact vM rfl|exact⟨⟩|apply nM|apply fM)
   all_goals((try apply vM);(try simp only[vq]at*);try omega)
  ·rw[hno (.inl hq)];exact Sup.of rfl
 have ek:k=l.length:=by omega
 subst ek;have hany:l.any (jI 1 c)=false:=by
  rw[agD];intro x hx;obtain⟨j,hj,rfl⟩:=(iG l x).1 hx;have:=hkr j hj;unfold jI;rw[decide_eq_false (by omega),decide_eq_false (by omega)];simp
 repeat'((conv=>whnf);first|(intro hq;(try simp only[vw]at hq);try first|exact absurd hq (by decide)|exfalso;omega)|apply aI|with_reducible exact vM rfl|exact⟨⟩|apply nM|apply fM)
 all_goals((try apply vM);(try simp only[vq]at*);try omega)
 all_goals(try omega)
 conv=>whnf
 refine aM (X:=Nat) (fun k=>1≤k∧(k≤l.length∨k=1)∧upB l k=true) (fun k=>[(7,.isl (.ints .i64 l) .none),(9,.int .i64 k)]) (fun k=>[]) (fun k=>l.length+1-k) 1 ⟨aK,mixed,ak,aD,aQ⟩ (by rfl) ⟨by omega,.inr rfl,by simp[upB]⟩ ?_ ?_
 ·repeat'((conv=>whnf);first|intro _|apply aI|with_reducible exact vM rfl|exact⟨⟩|apply nM|apply fM)
  all_goals((try apply vM);(try simp only[vq]at*);try omega)
 intro k ⟨hk1,hk2,hku⟩;have hus:=Sn l k;rw[hku,agO]at hus;by_cases hkl:k<l.length
 ·have ekk:((k:Int)-1).toNat=k-1:=by omega
  repeat'((conv=>whnf);first|(intro hq;(try simp only[vw]at hq);try first|exact absurd hq (by decide)|exfalso;omega)|apply aI|with_reducible exact vM rfl|exact⟨⟩|apply nM|apply fM)
  all_goals((try apply vM);(try simp only[vq]at*);try omega)
  all_goals(try omega)
  ·rw[ekk]at hq
   have h11:upB l l.length=false:=by
    cases e:upB l l.length with
    |false=>rfl
    |true=>
     have:=afI.1 e k (afY.2 hkl);rw[decide_eq_true_eq]at this;omega
   rw[fin 11 (by unfold kL;rw[hany,h11];rfl) (by decide)]
   exact Sup.of rfl
  ·rw[ekk]at hq
   refine⟨k+1,[],⟨⟨by omega,.inl (by omega),by rw[hus];exact decide_eq_true (.inr (by omega))⟩,by omega⟩,?_⟩
   repeat'((conv=>whnf);first|intro _|apply aI|with_reducible exact vM rfl|exact⟨⟩|apply nM|apply fM)
   all_goals((try apply vM);(try simp only[vq]at*);try omega)
 have hup:upB l l.length=true:=by
  by_cases e:k=l.length
  ·rw[←e];exact hku
  ·have:l.length=0:=by omega
   rw[this];rfl
 cases hd:s.ds.getD i false with
 |false=>
  have c0:kL c l false=0:=by unfold kL;rw[hany,hup];rfl
  rw[hd]at nxt
  repeat'((conv=>whnf);first|(intro hq;(try simp only[vw]at hq);try first|exact absurd hq (by decide)|exfalso;omega)|apply aI|with_reducible exact vM rfl|exact⟨⟩|apply nM|apply fM)
  all_goals((try apply vM);(try simp only[vq]at*);try omega)
  all_goals(try omega)
  all_goals(try(exfalso;refine clD hd ?_;assumption))
  refine⟨i+1,[],⟨⟨by omega,nxt c0⟩,by omega⟩,?_⟩
  repeat'((conv=>whnf);first|intro _|apply aI|with_reducible exact vM rfl|exact⟨⟩|apply nM|apply fM)
  all_goals((try apply vM);(try simp only[vq]at*);try omega)
 |true=>
  rw[hd]at nxt fin;by_cases hl1:l.length=1
  ·have c0:kL c l true=0:=by unfold kL;rw[hany,hup,decide_eq_false (fun e=>e hl1)];rfl
   repeat'((conv=>whnf);first|(intro hq;(try simp only[vw]at hq);try first|exact absurd hq (by decide)|exfalso;omega)|apply aI|with_reducible exact vM rfl|exact⟨⟩|apply nM|apply fM)
   all_goals((try apply vM);(try simp only[vq]at*);try omega)
   all_goals(try omega)
   all_goals(try(exfalso;refine clD ?_ hd;assumption))
   refine⟨i+1,[],⟨⟨by omega,nxt c0⟩,by omega⟩,?_⟩
   repeat'((conv=>whnf);first|intro _|apply aI|with_reducible exact vM rfl|exact⟨⟩|apply nM|apply fM)
   all_goals((try apply vM);(try simp only[vq]at*);try omega)
  ·have c0:kL c l true=29:=by unfold kL;rw[hany,hup,decide_eq_true hl1];rfl
   repeat'((conv=>whnf);first|(intro hq;(try simp only[vw]at hq);try first|exact absurd hq (by decide)|exfalso;omega)|apply aI|with_reducible exact vM rfl|exact⟨⟩|apply nM|apply fM)
   all_goals((try apply vM);(try simp only[vq]at*);try omega)
   all_goals(try omega)
   all_goals(try(exfalso;refine clD ?_ hd;assumption))
   rw[fin 29 c0 (by decide)]
   exact Sup.of rfl
def aiD:PSp:=fun xs K=>match xs with
 | [.agg [.int .i64 c,.isl (.rows .i64 ls) .none,.int .i64 sum,.isl (.ints .i64 gv) .none],.agg [.isl (.rows .i64 CS) .none,.isl (.bools DS) .none]]=>VC ((CS.length≤1000000∧DS.length≤1000000)∧∀i,i<CS.length→(CS.getD i []).length≤1000000)∧K (.int .i64 (csE c ⟨CS,DS⟩))
 |_=>False
theorem ai2:POK Tryz.prog 49 aiD:=by
 intro xs K h;unfold aiD at h;split at h
 ·exact⟨_,h.2,aiC _ _ _ _ ⟨_,_⟩ h.1.get.1 h.1.get.2⟩
 ·exact h.elim
def ahF (f:List Int):Bool:=(ael f.length).all fun k:Nat=>decide ((k:Int)+1∈f)
theorem aiQ {α:Type} [DecidableEq α]:∀(l m:List α),l.Nodup→(∀x∈l,x∈m)→l.length≤m.length:=by
 intro l;induction l with
 |nil=>intro m _ _;simp
 |cons x r ih=>
  intro m hn hm;have hn':=afE.1 hn;have hx:=hm x (by simp)
  have:=ih (m.erase x) hn'.2 fun y hy=>(List.mem_erase_of_ne (fun e=>hn'.1 y hy e.symm)).2 (hm y (by simp[hy]))
  rw[List.length_erase_of_mem hx]at this;have:=List.length_pos_of_mem hx;simp only[List.length_cons];omega
def ahw (n:Nat):List Int:=(ael n).map fun k:Nat=>(k:Int)+1
theorem aiE (n:Nat):(ahw n).Nodup:=by
 unfold ahw;rw[List.Nodup,List.pairwise_map];exact List.pairwise_lt_range.imp fun h e=>by omega
theorem ahY {n:Nat} {x:Int}:x∈ahw n↔1≤x∧x≤n:=by
 unfold ahw;rw[agQ];constructor
 ·rintro⟨k,hk,rfl⟩
  have:=afY.1 hk;omega
 ·intro h
  exact⟨(x-1).toNat,afY.2 (by omega),by omega⟩
theorem aiR {l:List Int} {j:Nat} {x:Int} (hj:j<l.length) (hx:x∈l) (h:x=l.getD j 0→∃i,i<l.length∧i≠j∧l.getD i 0=x):x∈l.eraseIdx j:=by
 obtain⟨i,hi,e⟩:=(iG l x).1 hx;rw[List.mem_eraseIdx_iff_getElem];by_cases q:i=j
 ·obtain⟨k,h1,h2,h3⟩:=h (by rw[←e,q])
  exact⟨k,h1,h2,by rw[←JI h1];exact h3⟩
 ·exact⟨i,hi,q,by rw[←JI hi];exact e⟩
theorem ahN {f:List Int}:ahF f=true↔nO f=true:=by
 constructor
 ·intro h
  have hs:∀x∈ahw f.length,x∈f:=fun x hx=>by
   have h1:=ahY.1 hx;have:=afI.1 h (x-1).toNat (afY.2 (by omega))
   rw[decide_eq_true_eq,show(((x-1).toNat:Nat):Int)+1=x by omega]at this
   exact this
  have key:∀j,j<f.length→(∀x∈ahw f.length,x=f.getD j 0→∃i,i<f.length∧i≠j∧f.getD i 0=x)→False:=fun j hj hx=>by
   have:=aiQ (ahw f.length) (f.eraseIdx j) (aiE _) fun x hm=>aiR hj (hs x hm) (hx x hm);rw[List.length_eraseIdx_of_lt hj]at this;simp only[ahw,List.length_map,List.length_range]at this;omega
  refine ah3 ?_ fun x hx=>?_
  ·rw[List.Nodup,ajp]
   intro i j hi hj hij e;exact key j hj fun x hx e1=>⟨i,hi,by omega,by rw[e1,JI hi,JI hj];exact e⟩
  ·obtain⟨j,hj,rfl⟩:=(iG f x).1 hx
   refine ajt fun hno=>key j hj fun x hx e1=>?_;have:=ahY.1 hx;exact absurd (by rw[e1]at this;exact this) hno
 ·intro h
  refine afI.2 fun k hk=>decide_eq_true ?_;have hk:=afY.1 hk;have h1:(k:Int)+1∈fG f:=by
   rw[Qh h];exact agQ.2 ⟨k,afY.2 hk,rfl⟩
  exact(ahi f _).mem_iff.1 h1
theorem aiw (f:List Int) (h:f.length≤1000000):aF Tryz.prog 54 [.isl (.ints .i64 f) .none] (.bp (ahF f)):=by
 refine av (md:=1) (rf:=[]) mixed ak aD Tryz.func54 (by rfl) (by rfl) (by rfl) ?_
 repeat'((conv=>whnf);first|(intro hq;(try simp only[vw]at hq);try first|exact absurd hq (by decide)|exfalso;omega)|apply aI|with_reducible exact vM rfl|exact⟨⟩|apply nM|apply fM)
 all_goals((try apply vM);(try simp only[vq]at*);try omega)
 conv=>whnf
 refine aM (X:=Nat) (fun n=>n≤f.length∧∀k,k<n→(k:Int)+1∈f) (fun n=>[(3,.int .i64 ((n:Int)+1))]) (fun n=>[]) (fun n=>f.length-n) 0 ⟨aK,mixed,ak,aD,aQ⟩ (by rfl) ⟨by omega,fun k hk=>by omega⟩ ?_ ?_
 ·repeat'((conv=>whnf);first|intro _|apply aI|with_reducible exact vM rfl|exact⟨⟩|apply nM|apply fM)
  all_goals((try apply vM);(try simp only[vq]at*);try omega)
 intro n ⟨hn,hok⟩;by_cases hlt:n<f.length
 case neg=>
  have e:ahF f=true:=afI.2 fun k hk=>decide_eq_true (hok k (by have:=afY.1 hk;omega))
  rw[e]
  repeat'((conv=>whnf);first|(intro hq;(try simp only[vw]at hq);try first|exact absurd hq (by decide)|exfalso;omega)|apply aI|with_reducible exact vM rfl|exact⟨⟩|apply nM|apply fM)
  all_goals((try apply vM);(try simp only[vq]at*);try omega)
  all_goals(try first|omega|exact dK true)
 repeat'((conv=>whnf);first|(intro hq;(try simp only[vw]at hq);try first|exact absurd hq (by decide)|exfalso;omega)|apply aI|with_reducible exact vM rfl|exact⟨⟩|apply nM|apply fM)
 all_goals((try apply vM);(try simp only[vq]at*);try omega)
 all_goals(try omega)
 conv=>whnf
 refine aM (X:=Nat) (fun i=>i≤f.length) (fun i=>[(5,.int .i64 i),(4,.bp (decide ((n:Int)+1∈f.take i)))]) (fun i=>[]) (fun i=>f.length-i) 0 ⟨aK,mixed,ak,aD,aQ⟩ (by rfl) (by omega) ?_ ?_
 ·repeat'((conv=>whnf);first|intro _|apply aI|with_reducible exact vM rfl|exact⟨⟩|apply nM|apply fM)
  all_goals((try apply vM);(try simp only[vq]at*);try omega)
  all_goals(try(simp;done))
 intro i hi;by_cases hli:i<f.length
 ·have ht:=dF hli
  have hin:(n:Int)+1∈f.take i→decide ((n:Int)+1∈f.take (i+1))=true:=fun a=>decide_eq_true (by rw[ht];exact aer _ a)
  have hout:(n:Int)+1∉f.take i→decide ((n:Int)+1∈f.take (i+1))=decide (f.getD i 0=(n:Int)+1):=fun a=>by
   rw[ht];by_cases e:f.getD i 0=(n:Int)+1
   ·rw[decide_eq_true e,decide_eq_true (by rw[e];simp)]
   ·rw[decide_eq_false e,decide_eq_false (by rw[aep,agL];rintro(q|q);exact a q;exact e q.symm)]
  repeat'((conv=>whnf);first|(intro hq;(try simp only[vw]at hq);try first|exact absurd hq (by decide)|exfalso;omega)|apply aI|with_reducible exact vM rfl|exact⟨⟩|apply nM|apply fM)
  all_goals((try apply vM);(try simp only[vq]at*);try omega)
  all_goals(try omega)
  ·refine⟨i+1,[],⟨by omega,by omega⟩,?_⟩
   rw[hout hq]
   repeat'((conv=>whnf);first|intro _|apply aI|with_reducible exact vM rfl|exact⟨⟩|apply nM|apply fM)
   all_goals((try apply vM);(try simp only[vq]at*);try omega)
  ·refine⟨i+1,[],⟨by omega,by omega⟩,?_⟩
   rw[decide_eq_true (show(n:Int)+1∈f.take (i+1) by rw[ht];exact aer _ hq)]
   repeat'((conv=>whnf);first|intro _|apply aI|with_reducible exact vM rfl|exact⟨⟩|apply nM|apply fM)
   all_goals((try apply vM);(try simp only[vq]at*);try omega)
 have:i=f.length:=by omega
 subst this;rw[af5]
 repeat'((conv=>whnf);first|(intro hq;(try simp only[vw]at hq);try first|exact absurd hq (by decide)|exfalso;omega)|apply aI|with_reducible exact vM rfl|exact⟨⟩|apply nM|apply fM)
 all_goals((try apply vM);(try simp only[vq]at*);try omega)
 all_goals(try omega)
 ·rw[show ahF f=false from ahh.2 ⟨n,afY.2 hlt,by rw[decide_eq_false hq];simp⟩]
  exact dK false
 ·refine⟨n+1,[],⟨⟨by omega,fun k hk=>?_⟩,by omega⟩,?_⟩
  ·by_cases e:k=n
   ·subst e;exact hq
   ·exact hok k (by omega)
  repeat'((conv=>whnf);first|intro _|apply aI|with_reducible exact vM rfl|exact⟨⟩|apply nM|apply fM)
  all_goals((try apply vM);(try simp only[vq]at*);try omega)
def aif:PSp:=fun xs K=>match xs with
 | [.isl (.ints .i64 f) .none]=>VC (f.length≤1000000)∧K (.bp (ahF f))
 |_=>False
theorem aiS:POK Tryz.prog 54 aif:=by
 intro xs K h;unfold aif at h;split at h
 ·exact⟨_,h.2,aiw _ h.1.get⟩
 ·exact h.elim
def ahr (c:Int) (ls:List (List Int)) (sum:Int) (gv f:List Int):Bool:=decide ((f.length:Int)=c)&&(ahF f&&((ael f.length).all (fun i=>!(decide (0<gv.getD i 0)&&decide (gv.getD i 0≠f.getD i 0)))&&ls.all fun l=>decide (mD f l=sum)))
noncomputable def ajc:CPT:=aA 54 (aB aif) (aA 119 (aB ahM) noC)
theorem ahx:aW Tryz.prog ajc:=aj (au aiS) (aj (au aiv) aD)
theorem aia (c:Int) (ls:List (List Int)) (sum:Int) (gv f:List Int) (h:dR c ls sum gv):aF Tryz.prog 48 [pzV c ls sum gv,.isl (.ints .i64 f) .none] (.bp (ahr c ls sum gv f)):=by
 have hc:=h.c1;have hgl:=h.gl;have no:ahr c ls sum gv f=false→Sup (bF [PV.bool false]) (.bp (ahr c ls sum gv f)):=fun e=>by rw[e];exact dK false
 by_cases h1:(f.length:Int)=c
 case neg=>
  have e:ahr c ls sum gv f=false:=by unfold ahr;rw[decide_eq_false h1];rfl
  refine av (md:=1) (rf:=[]) mixed ak ahx Tryz.func48 (by rfl) (by rfl) (by rfl) ?_
  repeat'((conv=>whnf);first|(intro hq;(try simp only[vw]at hq);try first|exact absurd hq (by decide)|exfalso;omega)|apply aI|with_reducible exact vM rfl|exact⟨⟩|apply nM|apply fM)
  all_goals((try apply vM);(try simp only[vq]at*);try omega)
  all_goals(try first|omega|exact no e)
 cases hn:ahF f with
 |false=>
  have e:ahr c ls sum gv f=false:=by unfold ahr;rw[hn,agn,Bool.and_false]
  refine av (md:=1) (rf:=[]) mixed ak ahx Tryz.func48 (by rfl) (by rfl) (by rfl) ?_
  repeat'((conv=>whnf);first|(intro hq;(try simp only[vw]at hq);try first|exact absurd hq (by decide)|exfalso;omega)|apply aI|with_reducible exact vM rfl|exact⟨⟩|apply nM|apply fM)
  all_goals((try apply vM);(try simp only[vq]at*);try omega)
  all_goals(try first|omega|exact no e|(exfalso;exact clD hn hq)|exact absurd (hn.symm.trans hq) (by decide))
  all_goals skip
 |true=>
  have hfr:∀x∈f,0≤x∧x≤16:=fun x hx=>by have:=Bn (ahN.1 hn) x hx;omega
  have eG:ahr c ls sum gv f=((ael f.length).all (fun i=>!(decide (0<gv.getD i 0)&&decide (gv.getD i 0≠f.getD i 0)))&&ls.all fun l=>decide (mD f l=sum)):=by
   unfold ahr;rw[decide_eq_true h1,hn,agO,agO]
  refine av (md:=1) (rf:=[]) mixed ak ahx Tryz.func48 (by rfl) (by rfl) (by rfl) ?_
  repeat'((conv=>whnf);first|(intro hq;(try simp only[vw]at hq);try first|exact absurd hq (by decide)|exfalso;omega)|apply aI|with_reducible exact vM rfl|exact⟨⟩|apply nM|apply fM)
  all_goals((try apply vM);(try simp only[vq]at*);try omega)
  all_goals(try first|omega|exact absurd (hn.symm.trans hq) (by decide)|exact absurd (hq.symm.trans hn) (by decide))
  conv=>whnf
  refine aM (X:=Nat) (fun i=>i≤f.length∧∀j,j<i→¬(0<gv.getD j 0∧gv.getD j 0≠f.getD j 0)) (fun i=>[(5,.int .i64 i)]) (fun i=>[]) (fun i=>f.length-i) 0 ⟨aK,mixed,ak,ahx,aQ⟩ (by rfl) ⟨by omega,fun j hj=>by omega⟩ ?_ ?_
  ·repeat'((conv=>whnf);first|intro _|apply aI|with_reducible exact vM rfl|exact⟨⟩|apply nM|apply fM)
   all_goals((try apply vM);(try simp only[vq]at*);try omega)
  intro i ⟨hi,hok⟩;by_cases hlt:i<f.length
  ·have nxt:¬(0<gv.getD i 0∧gv.getD i 0≠f.getD i 0)→∀j,j<i+1→¬(0<gv.getD j 0∧gv.getD j 0≠f.getD j 0):=fun a j hj=>by
    by_cases e:j=i
    ·subst e;exact a
    ·exact hok j (by omega)
   repeat'((conv=>whnf);first|(intro hq;(try simp only[vw]at hq);try first|exact absurd hq (by decide)|exfalso;omega)|apply aI|with_reducible exact vM rfl|exact⟨⟩|apply nM|apply fM)
   all_goals((try apply vM);(try simp only[vq]at*);try omega)
   all_goals(try omega)
   ·refine no ?_
    rename_i hq2;rw[eG,ahh.2 ⟨i,afY.2 hlt,by rw[decide_eq_true hq2,decide_eq_true hq];simp⟩,agn]
   ·refine⟨i+1,[],⟨⟨by omega,nxt (fun a=>hq a.2)⟩,by omega⟩,?_⟩
    repeat'((conv=>whnf);first|intro _|apply aI|with_reducible exact vM rfl|exact⟨⟩|apply nM|apply fM)
    all_goals((try apply vM);(try simp only[vq]at*);try omega)
   ·refine⟨i+1,[],⟨⟨by omega,nxt (fun a=>hq a.1)⟩,by omega⟩,?_⟩
    repeat'((conv=>whnf);first|intro _|apply aI|with_reducible exact vM rfl|exact⟨⟩|apply nM|apply fM)
    all_goals((try apply vM);(try simp only[vq]at*);try omega)
  have e:i=f.length:=by omega
  subst e;have hA:(ael f.length).all (fun i=>!(decide (0<gv.getD i 0)&&decide (gv.getD i 0≠f.getD i 0)))=true:=afI.2 fun j hj=>by
   have h2:=hok j (afY.1 hj);rw[ag8,ajo,decide_eq_false_iff_not,decide_eq_false_iff_not];by_cases a:0<gv.getD j 0
   ·exact .inr fun b=>h2 ⟨a,b⟩
   ·exact .inl a
  rw[hA,agO]at eG
  repeat'((conv=>whnf);first|(intro hq;(try simp only[vw]at hq);try first|exact absurd hq (by decide)|exfalso;omega)|apply aI|with_reducible exact vM rfl|exact⟨⟩|apply nM|apply fM)
  all_goals((try apply vM);(try simp only[vq]at*);try omega)
  all_goals(try omega)
  conv=>whnf
  refine aM (X:=Nat) (fun i=>i≤ls.length∧∀j,j<i→mD f (ls.getD j [])=sum) (fun i=>[(6,.int .i64 i)]) (fun i=>[]) (fun i=>ls.length-i) 0 ⟨aK,mixed,ak,ahx,aQ⟩ (by rfl) ⟨by omega,fun j hj=>by omega⟩ ?_ ?_
  ·repeat'((conv=>whnf);first|intro _|apply aI|with_reducible exact vM rfl|exact⟨⟩|apply nM|apply fM)
   all_goals((try apply vM);(try simp only[vq]at*);try omega)
  intro i ⟨hi,hok2⟩;have hll:=h.ll;by_cases hlt:i<ls.length
  ·have hL:=h.ln i hlt
   have hlen:=hL.len;have hbd:=wC hfr (ls.getD i []);have hso:(ls.getD i []).length≤1000∧(∀x∈ls.getD i [],0≤x∧x<(f.length:Int))∧∀x∈f,0≤x∧x≤16:=⟨by omega,fun x hx=>by have:=hL.rng x hx;omega,hfr⟩
   repeat'((conv=>whnf);first|(intro hq;(try simp only[vw]at hq);try first|exact absurd hq (by decide)|exfalso;omega)|apply aI|with_reducible exact vM rfl|exact⟨⟩|apply nM|apply fM)
   all_goals((try apply vM);(try simp only[vq]at*);try omega)
   all_goals(try first|omega|exact hso)
   ·refine no ?_
    rw[eG];exact ahh.2 ⟨_,pW (d:=([]:List Int)) hlt,by rw[decide_eq_false hq];simp⟩
   ·refine⟨i+1,[],⟨⟨by omega,fun j hj=>?_⟩,by omega⟩,?_⟩
    ·by_cases e:j=i
     ·subst e;omega
     ·exact hok2 j (by omega)
    repeat'((conv=>whnf);first|intro _|apply aI|with_reducible exact vM rfl|exact⟨⟩|apply nM|apply fM)
    all_goals((try apply vM);(try simp only[vq]at*);try omega)
  have e:i=ls.length:=by omega
  subst e;have hT:ahr c ls sum gv f=true:=by
   rw[eG];refine afI.2 fun l hl=>decide_eq_true ?_;obtain⟨j,hj,rfl⟩:=aeu hl;have:=hok2 j hj;rw[aeo,aev hj]at this;exact this
  rw[hT]
  repeat'((conv=>whnf);first|(intro hq;(try simp only[vw]at hq);try first|exact absurd hq (by decide)|exfalso;omega)|apply aI|with_reducible exact vM rfl|exact⟨⟩|apply nM|apply fM)
  all_goals((try apply vM);(try simp only[vq]at*);try omega)
  all_goals(try first|omega|exact dK true)
theorem aiT {c:Int} {ls:List (List Int)} {sum:Int} {gv f:List Int} (h:dR c ls sum gv):ahr c ls sum gv f=true↔ah4 c ls sum gv f:=by
 have hgl:=h.gl;unfold ahr;simp only[aeA,decide_eq_true_eq,afI,afY];constructor
 ·rintro⟨h1,h2,h3,h4⟩
  refine⟨⟨h1,ahN.1 h2,fun i hi=>h4 _ (pW hi)⟩,fun i hi hp=>?_⟩;have:=h3 i (by omega)
  rw[ag8,ajo,decide_eq_false_iff_not,decide_eq_false_iff_not]at this;rcases this with a|a
  ·exact absurd hp a
  ·exact ae2.1 a
 ·rintro⟨⟨h1,h2,h3⟩,h4⟩
  refine⟨h1,ahN.2 h2,fun i hi=>?_,fun l hl=>?_⟩
  ·rw[ag8,ajo,decide_eq_false_iff_not,decide_eq_false_iff_not]
   by_cases a:0<gv.getD i 0
   ·exact .inr fun b=>b (h4 i (by omega) a)
   ·exact .inl a
  ·obtain⟨j,hj,rfl⟩:=aeu hl
   have:=h3 j hj;rw[aeo,aev hj]at this;exact this
def aii:PSp:=fun xs K=>match xs with
 | [.agg [.int .i64 c,.isl (.rows .i64 ls) .none,.int .i64 sum,.isl (.ints .i64 gv) .none],.isl (.ints .i64 f) .none]=>VC (dR c ls sum gv)∧K (.bp (ahr c ls sum gv f))
 |_=>False
theorem aiU:POK Tryz.prog 48 aii:=by
 intro xs K h;unfold aii at h;split at h
 ·exact⟨_,h.2,aia _ _ _ _ _ h.1.get⟩
 ·exact h.elim
noncomputable def ai3:CPT:=aA 19 (aB Tz) (aA 29 (aB Ns) noC)
theorem aix:aW Tryz.prog ai3:=aj (au abC) (aj (au YQ) aD)
theorem aij (c:Int) (ls:List (List Int)) (sum:Int) (gv:List Int):aF Tryz.prog 47 [pzV c ls sum gv] (.bp (Nr c ls sum gv 9 10)):=by
 refine av (md:=1) (rf:=[]) mixed ak aix Tryz.func47 (by rfl) (by rfl) (by rfl) ?_
 repeat'((conv=>whnf);first|(intro hq;(try simp only[vw]at hq);try first|exact absurd hq (by decide)|exfalso;omega)|apply aI|with_reducible exact vM rfl|exact⟨⟩|apply nM|apply fM)
 all_goals((try apply vM);(try simp only[vq]at*);try omega)
 all_goals first|omega|exact Sup.of rfl|skip
def ah6:PSp:=fun xs K=>match xs with
 | [.agg [.int .i64 c,.isl (.rows .i64 ls) .none,.int .i64 sum,.isl (.ints .i64 gv) .none]]=>VC (True)∧K (.bp (Nr c ls sum gv 9 10))
 |_=>False
theorem aiF:POK Tryz.prog 47 ah6:=by
 intro xs K h;unfold ah6 at h;split at h
 ·exact⟨_,h.2,aij _ _ _ _⟩
 ·exact h.elim
theorem ai4 {c:Int} {ls:List (List Int)} {sum:Int} {gv:List Int} {k n:Nat} (h:Nr c ls sum gv k n=true) (hk:k≤5000) (hn:n≤1000000):pzE c ls sum gv=0∧bH ls∧c≤k∧(gv.length:Int)≤k:=by
 unfold Nr at h;simp only[aeA,decide_eq_true_eq]at h;have h1:=h.1;unfold vG at h1;simp only[aeA,decide_eq_true_eq]at h1;exact⟨h.2.2,TH h.1 hk hn,h1.2.2,h.2.1⟩
end Go.Eng.YtcechbdgokjmgaaGreatDoor
namespace Go.Eng.YtcechbdgokjmgaaGreatDoor
open Go.Proofs Go.RowKit
set_option linter.unusedSimpArgs false
set_option linter.unusedVariables false
set_option maxHeartbeats 0
set_option maxRecDepth 100000
def aiG:PSp:=fun xs K=>match xs with
 | [.agg [.int .i64 c,.isl (.rows .i64 ls) .none,.int .i64 sum,.isl (.ints .i64 gv) .none],.int .i64 m]=>VC (bH ls∧gv.length≤5000)∧K (.tup [.isl (.rows .i64 (DN c ls sum gv m).1) .none,.int .i64 (DN c ls sum gv m).2])
 |_=>False
theorem ai5:POK Tryz.prog 39 aiG:=by
 intro xs K h;unfold aiG at h;split at h
 ·exact⟨_,h.2,Bg _ _ _ _ _ h.1.get.1 h.1.get.2⟩
 ·exact h.elim
def aik:PSp:=fun xs K=>match xs with
 | [.agg [.int .i64 c,.isl (.rows .i64 ls) .none,.int .i64 sum,.isl (.ints .i64 gv) .none]]=>VC (gv.length≤9223372036854775807)∧K (.int .i64 (zeN gv:Nat))
 |_=>False
theorem aiV:POK Tryz.prog 38 aik:=by
 intro xs K h;unfold aik at h;split at h
 ·exact⟨_,h.2,ah8 _ _ _ _ h.1.get⟩
 ·exact h.elim
def aiH:PSp:=fun xs K=>match xs with
 | [.agg [.int .i64 c,.isl (.rows .i64 ls) .none,.int .i64 sum,.isl (.ints .i64 gv) .none],.int .i64 g]=>VC (bH ls∧gv.length≤5000)∧K (aa5 (su c ls sum gv g))
 |_=>False
theorem ai6:POK Tryz.prog 30 aiH:=by
 intro xs K h;unfold aiH at h;split at h
 ·exact⟨_,h.2,zL _ _ _ _ _ h.1.get.1 h.1.get.2⟩
 ·exact h.elim
theorem ai9 {n:Int} (h:(Go.Lit.int Go.IntKind.u8 n).wf=true):0≤n∧n≤255:=by
 have h1:Go.IntKind.u8.min=0:=by decide
 have h2:Go.IntKind.u8.max=255:=by decide
 simp[Go.Lit.wf,h1,h2]at h;exact h
end Go.Eng.YtcechbdgokjmgaaGreatDoor
namespace Go.Eng.YtcechbdgokjmgaaGreatDoor
set_option linter.unusedSimpArgs false
set_option linter.unusedVariables false
structure LeS (t s:St):Prop where
 len:t.cs.length=s.cs.length
 cd:∀i,i<s.cs.length→∀x∈t.cd i,x∈s.cd i
 dc:∀i,i<s.cs.length→s.dc i=true→t.dc i=true
def NeS (t:St):Prop:=∀i,i<t.cs.length→1≤(t.cd i).length
structure TS (c:Int) (ls:List (List Int)) (sum:Int) (t s:St):Prop where
 bt:bO c ls sum t
 it:StI t
 ne:NeS t
 bs:bO c ls sum s
 le:LeS t s
theorem TS.at {c:Int} {ls:List (List Int)} {sum:Int} {t s:St} (h:TS c ls sum t s) {z:Int} (hz:0≤z∧z<c):z.toNat<t.cs.length∧z.toNat<s.cs.length:=by
 have:=h.bt.cl;have:=h.bs.cl;omega
theorem TS.hd {c:Int} {ls:List (List Int)} {sum:Int} {t s:St} (h:TS c ls sum t s) {z:Int} (hz:0≤z∧z<c):hd0 (t.cd z.toNat)∈t.cd z.toNat∧ls0 (t.cd z.toNat)∈t.cd z.toNat∧hd0 (s.cd z.toNat)≤hd0 (t.cd z.toNat)∧ls0 (t.cd z.toNat)≤ls0 (s.cd z.toNat):=by
 obtain⟨h1,h2⟩:=h.at hz;have h3:=h.ne _ h1;have h4:=vZ h3;have h5:=Ag h3;exact⟨h4,h5,adS (h.bs.asc _ h2).1.pw _ (h.le.cd _ h2 _ h4),aaN (h.bs.asc _ h2).1.pw _ (h.le.cd _ h2 _ h5)⟩
theorem TS.dec {c:Int} {ls:List (List Int)} {sum:Int} {t s:St} (h:TS c ls sum t s) {z:Int} (hz:0≤z∧z<c) (hd:s.dc z.toNat=true):t.dc z.toNat=true∧t.cd z.toNat=s.cd z.toNat:=by
 obtain⟨h1,h2⟩:=h.at hz;have h3:=h.le.dc _ h2 hd;refine⟨h3,?_⟩;have h4:=(h.bs.num hz hd).2.2;have h5:=(h.bt.num hz h3).2.2;have h6:=h.le.cd _ h2 _ (h.hd hz).1;rw[h4,agL]at h6;rw[h5,h4,h6]
theorem TS.opn {c:Int} {ls:List (List Int)} {sum:Int} {t s:St} (h:TS c ls sum t s) {l:List Int} (hl:∀z∈l,0≤z∧z<c) {y z:Int} (hz:z∈opn t l y):z∈opn s l y:=by
 obtain⟨h1,h2,h3⟩:=dz.1 hz;refine dz.2 ⟨h1,?_,h3⟩;cases hd:s.dc z.toNat with
 |false=>rfl
 |true=>rw[(h.dec (hl z h1) hd).1]at h2;cases h2
def mrg (t:St) (h:Int→Int) (z:Int):Int:=if t.dc z.toNat then hd0 (t.cd z.toNat)else h z
theorem TS.ch {c:Int} {ls:List (List Int)} {sum:Int} {t s:St} (h:TS c ls sum t s) {l:List Int} (hl:∀z∈l,0≤z∧z<c) {y x r:Int} (hy:0≤y∧y<c) (hx:x∈t.cd y.toNat)
 {H:Int→Int} (hH:∀z∈l,z≠y→t.dc z.toNat=false→H z∈t.cd z.toNat∧H z≠x) (hd:∀z∈l,∀w∈l,z≠y→w≠y→t.dc z.toNat=false→t.dc w.toNat=false→z≠w→H z≠H w) (hr:sF (mrg t H) (Eng.YtcechbdgokjmgaaGreatDoor.opn s l y)=r):
 ChF s (Eng.YtcechbdgokjmgaaGreatDoor.opn s l y) [x] r (mrg t H):=by
 have inm:∀z∈Eng.YtcechbdgokjmgaaGreatDoor.opn s l y,mrg t H z∈t.cd z.toNat:=fun z hz=>by
  obtain⟨h1,h2,h3⟩:=dz.1 hz;unfold mrg;split
  ·exact(h.hd (hl z h1)).1
  ·rename_i hd
   exact(hH z h1 h3 (by simpa using hd)).1
 have key:∀(z w:Int),0≤z∧z<c→0≤w∧w<c→z≠w→t.dc z.toNat=true→∀v∈t.cd w.toNat,hd0 (t.cd z.toNat)≠v:=fun z w hz hw hne hd v hv e=>by
  have:=h.it z.toNat w.toNat (h.at hz).1 (h.at hw).1 (by omega) hd
  rw[e]at this;exact this hv
 refine⟨fun z hz=>?_,fun z hz w hw hne=>?_,hr⟩
 ·obtain⟨h1,h2,h3⟩:=dz.1 hz
  refine⟨h.le.cd _ (h.at (hl z h1)).2 _ (inm z hz),fun hm=>?_⟩;rw[agL]at hm;unfold mrg at hm;split at hm
  ·rename_i hd1
   exact key z y (hl z h1) hy h3 hd1 x hx hm
  ·rename_i hd1
   exact(hH z h1 h3 (by simpa using hd1)).2 hm
 ·obtain⟨h1,h2,h3⟩:=dz.1 hz
  obtain⟨w1,w2,w3⟩:=dz.1 hw;cases ez:t.dc z.toNat with
  |true=>
   have:mrg t H z=hd0 (t.cd z.toNat):=by unfold mrg;rw[if_pos ez]
   rw[this];exact key z w (hl z h1) (hl w w1) hne ez _ (inm w hw)
  |false=>
   cases ew:t.dc w.toNat with
   |true=>
    have:mrg t H w=hd0 (t.cd w.toNat):=by unfold mrg;rw[if_pos ew]
    rw[this];exact fun e=>key w z (hl w w1) (hl z h1) (Ne.symm hne) ew _ (inm z hz) e.symm
   |false=>
    have e1:mrg t H z=H z:=by unfold mrg;rw[ez];rfl
    have e2:mrg t H w=H w:=by unfold mrg;rw[ew];rfl
    rw[e1,e2];exact hd z h1 w w1 h3 w3 ez ew hne
structure Unb (c:Int) (ls:List (List Int)) (sum:Int) (t:St):Prop where
 num:∀x:Int,1≤x→x≤c→∃i,i<t.cs.length∧x∈t.cd i
 ne:NeS t
 line:∀k,k<ls.length→opn t (ls.getD k []) (-1)=[]→rst t sum (ls.getD k [])=0
theorem ai7 {c:Int} {ls:List (List Int)} {sum:Int} {t:St} (h:brk c ls sum t=false):Unb c ls sum t:=by
 unfold brk at h;simp only[ajk,ajl,afI,afY,agC,agD,decide_eq_true_eq,aeA]at h;obtain⟨⟨h1,h2⟩,h3⟩:=h;refine⟨fun x hx hxc=>?_,fun i hi=>?_,fun k hk ho=>?_⟩
 ·obtain⟨l,hl,hm⟩:=h1 (x-1).toNat (by omega)
  obtain⟨j,hj,rfl⟩:=aeu hl;refine⟨j,hj,?_⟩;have e:t.cd j=t.cs[j]:=by unfold St.cd;rw[aeo,aev hj];rfl
  rw[e];have e2:(((x-1).toNat:Nat):Int)+1=x:=by omega
  rw[e2]at hm;exact hm
 ·have:=h2 (t.cd i) (pW hi)
  rcases Nat.eq_zero_or_pos (t.cd i).length with e|e
  ·exact absurd (ajj e) this
  ·exact e
 ·have:=h3 (ls.getD k []) (pW hk)
  by_cases e:rst t sum (ls.getD k [])=0
  ·exact e
  ·exact absurd ⟨by rw[ho];rfl,e⟩ this
inductive Run (c:Int) (ls:List (List Int)) (sum:Int) (n:Nat):St→St→Prop
 |refl (s:St):Run c ls sum n s s
 |step {s t:St} {g:Nat} {y x k:Int}:ahB c ls g y x k→g≤n→okJ g s sum (ls.getD k.toNat []) y x=true→Run c ls sum n (apl g s y x) t→Run c ls sum n s t
theorem Run.ok {c:Int} {ls:List (List Int)} {sum:Int} {n:Nat} {s t:St} (h:Run c ls sum n s t):bO c ls sum s→StI s→bO c ls sum t∧StI t:=by
 induction h with
 |refl s=>exact fun a b=>⟨a,b⟩
 |step hL _ hj _ ih=>
  intro hB hI;obtain⟨h4,h5,h6⟩:=aht.1 hj;obtain⟨h7,h8⟩:=FZ hB hI hL.yy hL.xx h4 h5;exact ih h7 h8
theorem LeS.refl (s:St):LeS s s:=⟨rfl,fun _ _ _ h=>h,fun _ _ h=>h⟩
theorem LeS.trans {r t s:St} (h:LeS r t) (h':LeS t s):LeS r s:=⟨h.len.trans h'.len,fun i hi x hx=>h'.cd i hi x (h.cd i (by rw[h'.len];exact hi) x hx),fun i hi hd=>h.dc i (by rw[h'.len];exact hi) (h'.dc i hi hd)⟩
theorem ai8 {c:Int} {ls:List (List Int)} {sum:Int} {s:St} (hB:bO c ls sum s) {g:Nat} {y x k:Int} (hL:ahB c ls g y x k) (hj:okJ g s sum (ls.getD k.toNat []) y x=true):LeS (apl g s y x) s:=by
 obtain⟨h4,h5,h6⟩:=aht.1 hj;have hy:=hL.yy;have hcl:=hB.cl;have hdl:=hB.dl;refine⟨AX.1,fun i hi v hv=>?_,fun i hi hd=>?_⟩
 ·rw[aa0 (by omega) i hi]at hv
  split at hv
  ·split at hv
   ·rename_i e;subst e;rw[agL.1 hv];exact h5
   ·exact(pq.1 hv).1
  ·split at hv
   ·rename_i e;subst e;exact(pq.1 hv).1
   ·exact hv
 ·rw[aaZ (by omega)]
  split
  ·rfl
  ·exact hd
theorem Run.le {c:Int} {ls:List (List Int)} {sum:Int} {n:Nat} {s t:St} (h:Run c ls sum n s t):bO c ls sum s→StI s→LeS t s:=by
 induction h with
 |refl s=>exact fun _ _=>.refl s
 |step hL _ hj _ ih=>
  intro hB hI;obtain⟨h4,h5,h6⟩:=aht.1 hj;obtain⟨h7,h8⟩:=FZ hB hI hL.yy hL.xx h4 h5;exact(ih h7 h8).trans (ai8 hB hL hj)
theorem Run.one {c:Int} {ls:List (List Int)} {sum:Int} {n:Nat} {s t:St} {g:Nat} {y x k:Int} (h:Run c ls sum n s t) (hL:ahB c ls g y x k) (hg:g≤n) (hj:okJ g t sum (ls.getD k.toNat []) y x=true):Run c ls sum n s (apl g t y x):=by
 induction h with
 |refl s=>exact .step hL hg hj (.refl _)
 |step a b d _ ih=>exact .step a b d (ih hj)
theorem ahO {t:St} (hl:t.ds.length=t.cs.length):don t=true↔∀i,i<t.cs.length→t.dc i=true:=by
 unfold don;simp only[ag8,agD,Bool.not_eq_true,ajl];constructor
 ·intro h i hi
  have:=h (t.dc i) (pW (by omega))
  cases e:t.dc i with
  |true=>rfl
  |false=>exact absurd e this
 ·intro h b hb
  obtain⟨i,hi,rfl⟩:=aeu hb;have:=h i (by omega)
  unfold St.dc at this;rw[aeo,aev hi]at this;rw[show t.ds[i]=true from this];simp
structure Ends (c:Int) (ls:List (List Int)) (sum:Int) (n:Nat) (s:St) (r:List Dd × St × Int):Prop where
 cases:(∃t,Run c ls sum n s t∧brk c ls sum t=true∧r.2.2=21)∨(Run c ls sum n s r.2.1∧brk c ls sum r.2.1=false∧((don r.2.1=true∧r.2.2=0)∨(don r.2.1=false∧iH r.2.1 sum ls n=none∧r.2.2=23)))
theorem aiy {c:Int} {ls:List (List Int)} {sum:Int} {n:Nat} (hn:n≤5):∀(u:Nat) (s:St) (l:List Dd),bO c ls sum s→StI s→muS s<u→Ends c ls sum n s (pz c ls sum n u s l):=by
 intro u;induction u with
 |zero=>intro s l _ _ h;omega
 |succ u ih=>
  intro s l hB hI hmu;unfold pz;cases hb:brk c ls sum s with
  |true=>exact⟨.inl ⟨s,.refl s,hb,by simp⟩⟩
  |false=>
   simp only[ad7,if_false];cases hd:don s with
   |true=>exact⟨.inr ⟨by simpa using Run.refl s,by simpa using hb,.inl (by simpa using hd)⟩⟩
   |false=>
    simp only[ad7,if_false];cases hf:iH s sum ls n with
    |none=>exact⟨.inr ⟨.refl s,hb,.inr ⟨hd,hf,rfl⟩⟩⟩
    |some d=>
     simp only;obtain⟨h1,h2,h3⟩:=aib hB hn hf;obtain⟨h4,h5,h6⟩:=aht.1 h2;obtain⟨h7,h8⟩:=FZ hB hI (g:=d.g) h1.yy h1.xx h4 h5;have hcl:=hB.cl;have hdl:=hB.dl;have hy:=h1.yy;have hm:=aa2 (g:=d.g) (y:=d.y) (by omega) (by omega) h4 h5
     have:=(ih _ (l++[d]) h7 h8 (by omega)).cases
     refine⟨?_⟩;rcases this with⟨t,r1,r2⟩|⟨r1,r2⟩
     ·exact .inl ⟨t,.step h1 h3 h2 r1,r2⟩
     ·exact .inr ⟨.step h1 h3 h2 r1,r2⟩
theorem ah7 {c:Int} {ls:List (List Int)} {sum:Int} {gv:List Int} (h:dR c ls sum gv) {n:Nat} (hn:n≤5):Ends c ls sum n (bgn c gv) (sol c ls sum gv n):=by
 have hB:=uY h;exact aiy hn 273 _ [] hB (AY h) (by have:=aa3 hB;omega)
theorem aic {c:Int} {ls:List (List Int)} {sum:Int} {gv f:List Int} (h:dR c ls sum gv) (hf:ahq c ls sum f) (hg:∀i,i<gv.length→0<gv.getD i 0→gv.getD i 0=f.getD i 0):Alw (bgn c gv) f:=by
 have hl:=h.gl;have hfl:=hf.len;have hc:=h.c1;refine⟨by rw[jU.1];omega,fun i hi=>?_⟩
 have hig:i<gv.length:=by omega
 rw[PD hig];split
 ·rename_i h0
  rw[hg i hig h0];simp
 ·rename_i h0
  refine(AQ (by omega)).2 ⟨hf.rng hi,fun hm=>?_⟩
  obtain⟨j,hj,e⟩:=(iG _ _).1 hm;have h1:=hf.rng hi;have h2:=hg j hj (by omega)
  have:=hf.inj hi (by omega) (e.symm.trans h2)
  subst this;omega
def aho (s:St):List Int:=(ael s.cs.length).map fun i=>hd0 (s.cd i)
theorem ahs {s:St} {i:Nat} (h:i<s.cs.length):(aho s).getD i 0=hd0 (s.cd i):=by simp[aho,aeo,h]
theorem aja {c:Int} {ls:List (List Int)} {sum:Int} {gv:List Int} (h:dR c ls sum gv) (i:Nat):0≤gv.getD i 0∧gv.getD i 0≤c:=by
 have hc:=h.c1;by_cases e:i<gv.length
 ·exact h.gr _ (pW e)
 ·rw[aeo,ajq (by omega)];exact⟨ajh _,by show(0:Int)≤c;omega⟩
theorem aiW {c:Int} {ls:List (List Int)} {sum:Int} {s:St} (hB:bO c ls sum s) (hI:StI s) (hd:don s=true) (hu:Unb c ls sum s):ahq c ls sum (aho s)∧Alw s (aho s):=by
 have hcl:=hB.cl;have hdl:=hB.dl;have hvl:(aho s).length=s.cs.length:=by simp[aho]
 have hdc:=(ahO (by omega)).1 hd
 have hm:∀i,i<s.cs.length→hd0 (s.cd i)∈s.cd i:=fun i hi=>vZ (hu.ne i hi);refine⟨⟨by omega,ah3 ?_ fun x hx=>?_,fun k hk=>?_⟩,⟨hvl.symm,fun i hi=>?_⟩⟩
 ·rw[List.Nodup,ajp]
  intro i j hi hj hij e;rw[←JI hi,←JI hj,ahs (by omega),ahs (by omega)]at e
  exact hI i j (by omega) (by omega) (by omega) (hdc i (by omega)) (by rw[e];exact hm j (by omega))
 ·obtain⟨i,hi,rfl⟩:=(iG _ _).1 hx
  rw[ahs (by omega)]
  have h1:=hB.asc i (by omega)
  have h2:=h1.1.rng _ (hm i (by omega))
  have h3:=h1.2 _ (hm i (by omega))
  omega
 ·have hr:=(hB.ln k hk).rng
  have ho:opn s (ls.getD k []) (-1)=[]:=aju.2 fun z hz=>by
   obtain⟨z1,z2,z3⟩:=dz.1 hz;rw[hdc z.toNat (by have:=hr z z1;omega)]at z2;cases z2
  have h1:=hu.line k hk ho;rw[aip]at h1;rw[ahC];have:sF (fun x=>(aho s).getD x.toNat 0) (ls.getD k [])=sF (fun x=>if s.dc x.toNat then hd0 (s.cd x.toNat)else 0) (ls.getD k []):=ahp fun z hz=>by
   have:=hr z hz;rw[ahs (by omega),hdc z.toNat (by omega)];rfl
  omega
 ·rw[hvl]at hi
  rw[ahs hi];exact hm i hi
theorem aiz {s t:St} {f:List Int} (h:Alw t f) (hle:LeS t s):Alw s f:=⟨hle.len.symm.trans h.len,fun i hi=>hle.cd i (by rw[←hle.len,h.len];exact hi) _ (h.mem i hi)⟩
theorem aiI {c:Int} {ls:List (List Int)} {sum:Int} {gv:List Int} (h:dR c ls sum gv) {n:Nat} (hn:n≤5) (h0:(sol c ls sum gv n).2.2=0):
 dw c ls sum gv gv.length []=[aho (sol c ls sum gv n).2.1]∧ah4 c ls sum gv (aho (sol c ls sum gv n).2.1)∧don (sol c ls sum gv n).2.1=true∧bO c ls sum (sol c ls sum gv n).2.1∧Alw (sol c ls sum gv n).2.1 (aho (sol c ls sum gv n).2.1):=by
 have hB:=uY h;have hI:=AY h;have hE:=(ah7 h hn).cases
 have hgl:=h.gl;rcases hE with⟨t,_,_,e⟩|⟨q1,q2,q3|⟨_,_,q6⟩⟩
 ·rw[h0]at e;cases e
 ·obtain⟨o1,o2⟩:=q1.ok hB hI
  have hle:=q1.le hB hI;obtain⟨d1,d2⟩:=aiW o1 o2 q3.1 (ai7 q2);have hg:∀i,i<gv.length→0<gv.getD i 0→gv.getD i 0=(aho (sol c ls sum gv n).2.1).getD i 0:=fun i hi hp=>by
   have h1:=(aiz d2 hle).mem i (by rw[←(aiz d2 hle).len,jU.1];exact hi)
   rw[PD hi,if_pos hp,agL]at h1;exact h1.symm
  have hsp:ah4 c ls sum gv (aho (sol c ls sum gv n).2.1):=⟨d1,hg⟩;refine⟨?_,hsp,q3.1,o1,d2⟩;have hgr:∀i,0≤gv.getD i 0:=fun i=>(aja h i).1;have hnd:=aie (c:=c) (ls:=ls) (sum:=sum) hgr gv.length [] (by simpa using hgl)
  have hmem:=ah5 h;have hall:∀F∈dw c ls sum gv gv.length [],F=aho (sol c ls sum gv n).2.1:=fun F hF=>by
   have hS:=(hmem F).1 hF;obtain⟨_,a2,_⟩:=ah2 hS.s hn 273 (bgn c gv) [] hB hI (aic h hS.s hS.g);have a2:Alw (sol c ls sum gv n).2.1 F:=a2;have hl1:=a2.len;have hl2:=d2.len;have hdl:=o1.dl;have hcl:=o1.cl;have hdc:=(ahO (by omega)).1 q3.1
   refine List.ext_getElem (by omega) fun i h1 h2=>?_
   have e1:=a2.dec o1 h1 (hdc i (by omega))
   rw[←JI h1,←JI h2,ahs (by omega),e1];rfl
  have hin:=(hmem _).2 hsp;obtain⟨L,hL⟩:∃L,dw c ls sum gv gv.length []=L:=⟨_,rfl⟩;rw[hL]at hnd hall hin⊢;cases L with
  |nil=>simp at hin
  |cons a r=>
   cases r with
   |nil=>rw[hall a (by simp)]
   |cons a' r=>
    have e1:=hall a (by simp)
    have e2:=hall a' (by simp)
    exact absurd (e1.trans e2.symm) (fun e=>(afE.1 hnd).1 a' (by simp) e)
 ·rw[h0]at q6;cases q6
theorem aiJ {c:Int} {ls:List (List Int)} {sum:Int} {gv:List Int} (h:dR c ls sum gv) {n:Nat} (hn:n≤5) (h0:(sol c ls sum gv n).2.2=21):dw c ls sum gv gv.length []=[]:=
 aju.2 fun F hF=>by
  have hS:=(ah5 h F).1 hF;exact(ah2 hS.s hn 273 (bgn c gv) [] (uY h) (AY h) (aic h hS.s hS.g)).1 h0
end Go.Eng.YtcechbdgokjmgaaGreatDoor
namespace Go.Eng.YtcechbdgokjmgaaGreatDoor
open Go.Proofs
set_option linter.unusedSimpArgs false
set_option linter.unusedVariables false
set_option maxHeartbeats 0
set_option maxRecDepth 100000
def Jd (c:Int) (ls:List (List Int)) (sum:Int):St→List Dd→Prop
 |_,[]=>True
 |s,d::r=>((1≤d.g∧d.g≤5)∧dL c ls (nmG d.g) d.y d.x d.k=0∧okJ d.g s sum (ls.getD d.k.toNat []) d.y d.x=true∧ahB c ls d.g d.y d.x d.k)∧Jd c ls sum (apl d.g s d.y d.x) r
def trS (s:St) (l:List Dd):St:=l.foldl (fun s d=>apl d.g s d.y d.x) s
theorem Jd.take {c:Int} {ls:List (List Int)} {sum:Int}:∀(l:List Dd) (s:St) (k:Nat),Jd c ls sum s l→Jd c ls sum s (l.take k):=by
 intro l;induction l with
 |nil=>intro s k h;simp;exact h
 |cons d r ih=>
  intro s k h;cases k with
  |zero=>simp;exact trivial
  |succ k=>exact⟨h.1,ih _ k h.2⟩
theorem Jd.ok {c:Int} {ls:List (List Int)} {sum:Int}:∀(l:List Dd) (s:St),bO c ls sum s→StI s→Jd c ls sum s l→bO c ls sum (trS s l)∧StI (trS s l):=by
 intro l;induction l with
 |nil=>intro s h1 h2 _;exact⟨h1,h2⟩
 |cons d r ih=>
  intro s h1 h2 h;obtain⟨⟨_,_,h3,hL⟩,h4⟩:=h;obtain⟨q1,q2,q3⟩:=aht.1 h3;obtain⟨h7,h8⟩:=FZ h1 h2 (g:=d.g) hL.yy hL.xx q1 q2;exact ih _ h7 h8 h4
theorem ajb {c:Int} {ls:List (List Int)} {sum:Int} {s:St} (h:bO c ls sum s):csE c s=0:=by
 have hcl:=h.cl;have hdl:=h.dl;unfold csE;rw[if_neg (by omega)]
 refine fO fun i hi=>?_;obtain⟨h1,h2⟩:=h.asc i hi;have hany:(s.cd i).any (jI 1 c)=false:=by
  rw[agD];intro x hx;have:=h1.rng x hx;have:=h2 x hx;unfold jI;rw[decide_eq_false (by omega),decide_eq_false (by omega)];simp
 have hup:upB (s.cd i) (s.cd i).length=true:=afI.2 fun k hk=>by
  have hk:=afY.1 hk;rw[decide_eq_true_eq];by_cases e:k=0
  ·exact .inl e
  ·right
   have:=ajp.1 h1.pw (k-1) k (by omega) hk (by omega)
   rw[JI (by omega),JI hk];exact this
 unfold kL;rw[hany,hup];cases hd:s.dc i with
 |false=>rfl
 |true=>rw[decide_eq_false (fun e=>e (h.dec i hi hd))];rfl
end Go.Eng.YtcechbdgokjmgaaGreatDoor
namespace Go.Eng.YtcechbdgokjmgaaGreatDoor
open Go.Proofs Go.RowKit
set_option linter.unusedSimpArgs false
set_option linter.unusedVariables false
set_option maxHeartbeats 0
set_option maxRecDepth 100000
noncomputable def ahP (b1:Bool) (n:Int) (r:List Dd × St × Int) (l:List (List Int)):CPT:=aA 17 (aB Qs) (aA 19 (aB Tz) (aA 24 (aB abD) (aA 30 (aB (aco aiH (aa5 r))) (aA 38 (aB (aco aik (.int .i64 n))) (aA 39 (aB (aco aiG (.tup [.isl (.rows .i64 l) .none,.int .i64 0]))) (aA 47 (aB (aco ah6 (.bool b1))) (aA 48 (aB (aco aii (.bool true))) (aA 49 (aB (aco aiD (.int .i64 0))) noC))))))))
theorem ahy (b1:Bool) (n:Int) (r:List Dd × St × Int) (l:List (List Int)):aW Tryz.prog (ahP b1 n r l):=aj (au adE) (aj (au abC) (aj (au adT) (aj (au (adQ ai6 (aa5 r))) (aj (au (adQ aiV (.int .i64 n))) (aj (au (adQ ai5 (.tup [.isl (.rows .i64 l) .none,.int .i64 0]))) (aj (au (adQ aiF (.bool b1))) (aj (au (adQ aiU (.bool true))) (aj (au (adQ ai2 (.int .i64 0))) aD))))))))
theorem ail (c:Int) (ls:List (List Int)) (sum:Int) (gv:List Int) (g:Int) (hg:0≤g∧g≤255) (hgm:gv.length≤9223372036854775807):aF Tryz.prog 7 [pzV c ls sum gv,.int .u8 g] (.bp true):=by
 obtain⟨z,hz⟩:∃z:Int,((zeN gv:Nat):Int)=z:=⟨_,rfl⟩;cases hs:Nr c ls sum gv 9 10 with
 |false=>
  have hC:=ahy false z ([],noS,0) [];refine eD (md:=1) (rf:=[]) mixed ak hC Tryz.func7 (by rfl) (by rfl) (by rfl) ?_
  unfold ahP
  repeat'((conv=>whnf);first|(intro hq;(try simp only[vw]at hq);try first|exact absurd hq (by decide)|exfalso;omega)|apply aI|with_reducible exact vM rfl|exact⟨⟩|apply nM|apply fM)
  all_goals((try apply vM);(try simp only[vq]at*);try omega)
  all_goals first|exact adU hs|exact mg _|omega
 |true=>
 obtain⟨he,hL,hc9,hgl⟩:=ai4 hs (by decide) (by decide)
 have hp:=dR.of he;by_cases hz7:7<z
 ·have hC:=ahy true z ([],noS,0) []
  refine eD (md:=1) (rf:=[]) mixed ak hC Tryz.func7 (by rfl) (by rfl) (by rfl) ?_
  unfold ahP
  repeat'((conv=>whnf);first|(intro hq;(try simp only[vw]at hq);try first|exact absurd hq (by decide)|exfalso;omega)|apply aI|with_reducible exact vM rfl|exact⟨⟩|apply nM|apply fM)
  all_goals((try apply vM);(try simp only[vq]at*);try omega)
  all_goals first|exact adU hs|exact mg _|exact adV hz|omega
 obtain⟨n,hn⟩:∃n:Nat,1+g.tmod 5=(n:Int):=⟨(1+g.tmod 5).toNat,by have:=ajv 5 hg.1;omega⟩
 have hn5:1≤n∧n≤5:=by
  have h1:=ajv 5 hg.1;have h2:=Int.tmod_lt_of_pos g (show(0:Int)<5 by omega)
  omega
 obtain⟨L,hEn⟩:∃L,dw c ls sum gv gv.length []=L:=⟨_,rfl⟩;have h2:PV.tup [.isl (.rows .i64 (DN c ls sum gv 2).1) .none,.int .i64 (DN c ls sum gv 2).2]=.tup [.isl (.rows .i64 (L.take 2)) .none,.int .i64 0]:=by
  have h0:aG [pzE c ls sum gv,mE 2]=0:=by rw[he];rfl
  have:=aiu hp 2;rw[show((2:Nat):Int)=2 from rfl,hEn]at this;unfold DN;rw[h0,if_neg (by simp),if_neg (by omega),this]
 have h1:∀r,ah0 (sol c ls sum gv n)=r→Sup (aa5 (su c ls sum gv (1+g.tmod 5))) (aa5 r):=fun r hr=>by
  have e3:fH n=0:=by unfold fH;rw[if_neg (by omega)]
  have:aG [pzE c ls sum gv,fH n]=0:=by rw[he,e3];rfl
  have e4:su c ls sum gv (n:Int)=ah0 (sol c ls sum gv n):=by unfold su;rw[this,if_neg (by simp),Int.toNat_natCast];rfl
  rw[hn,e4,hr];exact mg _
 obtain⟨⟨dl,t,e⟩,hso⟩:∃r,sol c ls sum gv n=r:=⟨_,rfl⟩;have h3:e=0∨e=21∨e=23:=by
  rcases(ah7 hp hn5.2).cases with⟨t',_,_,q⟩|⟨_,_,q3|⟨_,_,q6⟩⟩
  ·rw[hso]at q;exact .inr (.inl q)
  ·rw[hso]at q3;exact .inl q3.2
  ·rw[hso]at q6;exact .inr (.inr q6)
 rcases h3 with rfl|rfl|rfl
 ·obtain⟨u1,u2,u3,u4,u5⟩:=aiI hp hn5.2 (by rw[hso])
  rw[hso]at u1 u2 u3 u4 u5;have u4:bO c ls sum t:=u4;have u3:don t=true:=u3;have hr:ah0 (sol c ls sum gv n)=(dl,t,0):=by rw[hso];rfl
  rw[hEn]at u1;have u1:L=[aho t]:=u1;have u2:ah4 c ls sum gv (aho t):=u2;have hcl:=u4.cl;have hdl:=u4.dl;have hdc:=(ahO (by omega)).1 u3
  have hvl:∀i,i<t.cs.length→(aho t).getD i 0=hd0 (t.cd i):=fun i hi=>ahs hi;have hFl:=u2.s.len;have hlen:∀i,i<t.cs.length→(t.cs.getD i []).length=1:=fun i hi=>u4.dec i hi (hdc i hi);obtain⟨F,hF⟩:∃F,aho t=F:=⟨_,rfl⟩;rw[hF]at u1 u2 hvl hFl;have hsl:ahr c ls sum gv F=true:=(aiT hp).2 u2;have hcs:csE c ⟨t.cs,t.ds⟩=0:=ajb u4;have hbd:(t.cs.length≤1000000∧t.ds.length≤1000000)∧∀i,i<t.cs.length→(t.cs.getD i []).length≤1000000:=⟨⟨by omega,by omega⟩,fun i hi=>by have:=hlen i hi;omega⟩
  rw[u1]at h2;have hC:=ahy true z (dl,t,0) [F];refine eD (md:=1) (rf:=[]) mixed ak hC Tryz.func7 (by rfl) (by rfl) (by rfl) ?_
  unfold ahP
  repeat'((conv=>whnf);first|(intro hq;(try simp only[vw]at hq);try first|exact absurd hq (by decide)|exfalso;omega)|apply aI|with_reducible exact vM rfl|exact⟨⟩|apply nM|apply fM)
  all_goals((try apply vM);(try simp only[vq]at*);try omega)
  all_goals(try first|exact adU hs|exact adV hz|exact⟨hL,by omega⟩|exact h1 _ hr|(rw[h2];exact mg _)|exact mg _|exact hp|exact adU hsl|exact hbd|exact adV hcs|omega)
  rotate_left
  ·rename_i q1 q2;exact(q1 hFl).elim
  conv=>whnf
  refine aM (X:=Nat) (fun i=>i≤F.length) (fun i=>[(10,.int .i64 i),(21,.any),(27,.any),(31,.any),(33,.any)]) (fun i=>[]) (fun i=>F.length-i) 0 ⟨aK,mixed,ak,hC,aQ⟩ (by rfl) (by omega) ?_ ?_
  ·repeat'((conv=>whnf);first|intro _|apply aI|with_reducible exact vM rfl|exact⟨⟩|apply nM|apply fM)
   all_goals((try apply vM);(try simp only[vq]at*);try omega)
  intro i hi;by_cases hlt:i<F.length
  ·have q1:=hdc i (by omega)
   have q2:=hvl i (by omega)
   have q3:=hlen i (by omega)
   unfold St.dc at q1;unfold St.cd hd0 at q2
   repeat'((conv=>whnf);first|(intro hq;(try simp only[vw]at hq);try first|exact absurd hq (by decide)|exfalso;omega)|apply aI|with_reducible exact vM rfl|exact⟨⟩|apply nM|apply fM)
   all_goals((try apply vM);(try simp only[vq]at*);try omega)
   all_goals(try omega)
   ·exact absurd q2.symm hq
   ·refine⟨i+1,[],⟨by omega,by omega⟩,?_⟩
    repeat'((conv=>whnf);first|intro _|apply aI|with_reducible exact vM rfl|exact⟨⟩|apply nM|apply fM)
    all_goals((try apply vM);(try simp only[vq]at*);try omega)
   ·exact absurd (q1.symm.trans hq) (by decide)
  ·have:i=F.length:=by omega
   subst this
   repeat'((conv=>whnf);first|(intro hq;(try simp only[vw]at hq);try first|exact absurd hq (by decide)|exfalso;omega)|apply aI|with_reducible exact vM rfl|exact⟨⟩|apply nM|apply fM)
   all_goals((try apply vM);(try simp only[vq]at*);try omega)
   all_goals(try first|omega|exact mg _)
 ·have hr:ah0 (sol c ls sum gv n)=([],noS,21):=by rw[hso];rfl
  have hE:=aiJ hp hn5.2 (by rw[hso])
  rw[hEn]at hE;rw[hE]at h2;have hC:=ahy true z ([],noS,21) [];refine eD (md:=1) (rf:=[]) mixed ak hC Tryz.func7 (by rfl) (by rfl) (by rfl) ?_
  unfold ahP
  repeat'((conv=>whnf);first|(intro hq;(try simp only[vw]at hq);try first|exact absurd hq (by decide)|exfalso;omega)|apply aI|with_reducible exact vM rfl|exact⟨⟩|apply nM|apply fM)
  all_goals((try apply vM);(try simp only[vq]at*);try omega)
  all_goals(try first|exact adU hs|exact adV hz|exact⟨hL,by omega⟩|exact h1 _ hr|(rw[h2];exact mg _)|exact mg _|exact hp|exact adU hsl|exact hbd|exact adV hcs|omega)
 ·have hr:ah0 (sol c ls sum gv n)=(dl,t,23):=by rw[hso];rfl
  have hC:=ahy true z (dl,t,23) (L.take 2);have hl2:(L.take 2).length≤2:=by rw[ae0];omega
  refine eD (md:=1) (rf:=[]) mixed ak hC Tryz.func7 (by rfl) (by rfl) (by rfl) ?_
  unfold ahP
  repeat'((conv=>whnf);first|(intro hq;(try simp only[vw]at hq);try first|exact absurd hq (by decide)|exfalso;omega)|apply aI|with_reducible exact vM rfl|exact⟨⟩|apply nM|apply fM)
  all_goals((try apply vM);(try simp only[vq]at*);try omega)
  all_goals(try first|exact adU hs|exact adV hz|exact⟨hL,by omega⟩|exact h1 _ hr|(rw[h2];exact mg _)|exact mg _|exact hp|exact adU hsl|exact hbd|exact adV hcs|omega)
end Go.Eng.YtcechbdgokjmgaaGreatDoor
