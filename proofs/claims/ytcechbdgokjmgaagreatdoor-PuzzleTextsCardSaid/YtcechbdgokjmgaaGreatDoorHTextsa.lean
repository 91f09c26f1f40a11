/- Contracts of functions that the law calls, and what the law says of them. Conditions stand in them. -/
import Derived.Test.YtcechbdgokjmgaaGreatDoorBg
open Array renaming ext'→akm,getD→ako,length_toList→aeO,toList_extract→akr
open Bool renaming not_eq_true'→ag8,and_eq_true→aeA,or_eq_true→afs
open Classical renaming propDecidable→agS,not_not→ae2
open Int renaming le_refl→aki,tdiv_eq_zero_of_lt→akl,toNat→agt
open List renaming foldl_cons→akh,pairwise_cons→afE,mem_cons→afD,mem_filter→agh,any_eq_true→agC,mem_singleton→agL,mem_map→agQ,mem_range→afY,length_eq_one_iff→akj,eq_nil_of_length_eq_zero→akk,all_eq_true→afI,getD_eq_getElem?_getD→aeo,length_set→aeP,length_cons→ad4,length_append→afu,length_nil→adY,take_add_one→af3,getElem?_eq_getElem→aev,foldl_append→agq,take_length→af5,map_append→af4,map_cons→aen,map_nil→akn,cons_append→ad3,length_map→af0,length_take→ae0,take_of_length_le→akp,isPrefixOf→agT,length_drop→agV,drop→agI,getElem?_drop→aks,drop_eq_nil_of_le→akt
open Nat renaming le_refl→aea,zero_le→aeY
open Option renaming toList_some→akq
namespace Go.Eng.YtcechbdgokjmgaaGreatDoor
set_option linter.unusedSimpArgs false
set_option linter.unusedVariables false
def sF (g:Int→Int):List Int→Int
 | []=>0
 |x::r=>g x+sF g r
theorem ahG (g:Int→Int):∀(l:List Int) (a:Int),l.foldl (fun a x=>a+g x) a=a+sF g l:=by
 intro l;induction l with
 |nil=>intro a;simp[sF]
 |cons x r ih=>intro a;rw[akh,ih];simp only[sF];omega
theorem ah8 {g h:Int→Int}:∀{l:List Int},(∀x∈l,g x≤h x)→sF g l≤sF h l:=by
 intro l;induction l with
 |nil=>intro _;exact aki _
 |cons x r ih=>
  intro hh;have h1:=hh x (by simp)
  have h2:=ih fun y hy=>hh y (by simp[hy])
  simp only[sF];omega
theorem aht {g h:Int→Int} {l:List Int} (hh:∀x∈l,g x=h x):sF g l=sF h l:=by
 have h1:=ah8 (g:=g) (h:=h) fun x hx=>by rw[hh x hx];exact aki _
 have h2:=ah8 (g:=h) (h:=g) fun x hx=>by rw[hh x hx];exact aki _
 omega
theorem aiX (g h:Int→Int):∀(l:List Int),sF (fun x=>g x+h x) l=sF g l+sF h l:=by
 intro l;induction l with
 |nil=>rfl
 |cons x r ih=>simp only[sF,ih];omega
theorem aiY (g:Int→Int) (p:Int→Bool):∀(l:List Int),sF g (l.filter p)=sF (fun x=>if p x then g x else 0) l:=by
 intro l;induction l with
 |nil=>rfl
 |cons x r ih=>
  rw[List.filter_cons];cases hp:p x with
  |true=>rw[if_pos rfl];simp only[sF,ih,hp];rfl
  |false=>rw[if_neg (by simp)];simp only[sF,ih,hp];simp
theorem ajm:∀(l:List Int),sF (fun _=>0) l=0:=by
 intro l;induction l with
 |nil=>rfl
 |cons x r ih=>simp only[sF,ih];rfl
theorem ajI {y a:Int}:∀{l:List Int},l.Pairwise (·< ·)→y∈l→sF (fun x=>if x=y then a else 0) l=a:=by
 intro l;induction l with
 |nil=>intro _ h;simp at h
 |cons x r ih=>
  intro hp hy;have hp':=afE.1 hp;simp only[sF];by_cases e:x=y
  ·subst e
   have:sF (fun z=>if z=x then a else 0) r=sF (fun _=>0) r:=aht fun z hz=>by
    have:=hp'.1 z hz;rw[if_neg (by omega)]
   rw[if_pos rfl,this,ajm];omega
  ·rw[if_neg e,ih hp'.2 (by rcases afD.1 hy with h|h;exact absurd h.symm e;exact h)];omega
theorem ai6 (s:St):∀(l:List Int) (a:Int),l.foldl (fun a x=>if s.dc x.toNat then a-hd0 (s.cd x.toNat)else a) a=a-sF (fun x=>if s.dc x.toNat then hd0 (s.cd x.toNat)else 0) l:=by
 intro l;induction l with
 |nil=>intro a;simp[sF]
 |cons x r ih=>
  intro a;rw[akh,ih];simp only[sF];split<;>omega
theorem ajJ (s:St) (sum:Int) (l:List Int):rst s sum l=sum-sF (fun x=>if s.dc x.toNat then hd0 (s.cd x.toNat)else 0) l:=ai6 s l sum
theorem ajn (s:St) (o:List Int):xQ s o=sF (fun y=>hd0 (s.cd y.toNat)) o:=by
 unfold xQ;rw[ahG (fun y=>hd0 (s.cd y.toNat))];omega
theorem ajo (s:St) (o:List Int):xR s o=sF (fun y=>ls0 (s.cd y.toNat)) o:=by
 unfold xR;rw[ahG (fun y=>ls0 (s.cd y.toNat))];omega
theorem ajp (N l:List Int):mD N l=sF (fun x=>N.getD x.toNat 0) l:=by
 unfold mD;rw[ahG (fun x=>N.getD x.toNat 0)];omega
theorem ajK (s:St) (l:List Int) (but:Int) (g:Int→Int):sF g (opn s l but)=sF (fun x=>if !(s.dc x.toNat)&&decide (x≠but)then g x else 0) l:=by
 unfold opn;exact aiY g _ l
theorem ahA {s:St} {l:List Int} {but z:Int}:z∈opn s l but↔z∈l∧s.dc z.toNat=false∧z≠but:=by
 unfold opn;rw[agh];simp
theorem ajL {s:St} {l:List Int} {but:Int} (h:l.Pairwise (·< ·)):(opn s l but).Pairwise (·< ·):=h.filter _
def ChF (s:St) (o used:List Int) (sum:Int) (h:Int→Int):Prop:=
 (∀y∈o,h y∈s.cd y.toNat∧h y∉used)∧(∀y∈o,∀z∈o,y≠z→h y≠h z)∧sF h o=sum
theorem ajq (s:St):∀(o used:List Int) (sum:Int),o.Pairwise (·< ·)→(chs s o used sum=true↔∃h,ChF s o used sum h):=by
 intro o;induction o with
 |nil=>
  intro used sum _;simp only[chs,decide_eq_true_eq,ChF];constructor
  ·rintro rfl
   exact⟨fun _=>0,fun y hy=>by simp at hy,fun y hy=>by simp at hy,rfl⟩
  ·rintro⟨h,_,_,h3⟩
   exact h3.symm
 |cons y r ih=>
  intro used sum hp;have hp':=afE.1 hp;simp only[chs,agC,agh,ag8,decide_eq_false_iff_not];constructor
  ·rintro⟨x,⟨hx,hu⟩,hc⟩
   obtain⟨h,h1,h2,h3⟩:=(ih _ _ hp'.2).1 hc;have hne:∀z∈r,z≠y:=fun z hz=>by have:=hp'.1 z hz;omega
   refine⟨fun z=>if z=y then x else h z,fun z hz=>?_,fun z hz w hw hzw=>?_,?_⟩
   ·rcases afD.1 hz with rfl|hz
    ·simp only[if_true];exact⟨hx,hu⟩
    ·simp only[if_neg (hne z hz)]
     exact⟨(h1 z hz).1,fun hm=>(h1 z hz).2 (by simp[hm])⟩
   ·rcases afD.1 hz with rfl|hz2<;>rcases afD.1 hw with rfl|hw2
    ·exact absurd rfl hzw
    ·simp only[if_true,if_neg (hne w hw2)]
     exact fun e=>(h1 w hw2).2 (by simp[←e])
    ·simp only[if_true,if_neg (hne z hz2)]
     exact fun e=>(h1 z hz2).2 (by simp[e])
    ·simp only[if_neg (hne z hz2),if_neg (hne w hw2)]
     exact h2 z hz2 w hw2 hzw
   ·simp only[sF,if_true]
    have:sF (fun z=>if z=y then x else h z) r=sF h r:=aht fun z hz=>by simp only[if_neg (hne z hz)]
    rw[this,h3];omega
  ·rintro⟨h,h1,h2,h3⟩
   refine⟨h y,h1 y (by simp),(ih _ _ hp'.2).2 ⟨h,fun z hz=>⟨(h1 z (by simp[hz])).1,fun hm=>?_⟩,fun z hz w hw=>h2 z (by simp[hz]) w (by simp[hw]),?_⟩⟩
   ·rcases List.mem_append.1 hm with hm|hm
    ·exact(h1 z (by simp[hz])).2 hm
    ·have:=hp'.1 z hz
     exact h2 z (by simp[hz]) y (by simp) (by omega) (agL.1 hm)
   ·simp only[sF]at h3;omega
structure ahq (c:Int) (ls:List (List Int)) (sum:Int) (f:List Int):Prop where
 len:(f.length:Int)=c
 nrm:nO f=true
 sum:∀i,i<ls.length→mD f (ls.getD i [])=sum
structure Alw (s:St) (f:List Int):Prop where
 len:s.cs.length=f.length
 mem:∀i,i<f.length→f.getD i 0∈s.cd i
theorem ahq.rng {c:Int} {ls:List (List Int)} {sum:Int} {f:List Int} (h:ahq c ls sum f) {i:Nat} (hi:i<f.length):1≤f.getD i 0∧f.getD i 0≤c:=by
 have h1:=Bn h.nrm (f.getD i 0) (pW hi);have:=h.len;omega
theorem ahq.inj {c:Int} {ls:List (List Int)} {sum:Int} {f:List Int} (h:ahq c ls sum f) {i j:Nat} (hi:i<f.length) (hj:j<f.length) (e:f.getD i 0=f.getD j 0):i=j:=by
 have hn:=abl h.nrm;rw[JI hi,JI hj]at e;exact(List.getElem_inj hn).1 e
theorem ahq.sur {c:Int} {ls:List (List Int)} {sum:Int} {f:List Int} (h:ahq c ls sum f) {x:Int} (hx:1≤x∧x≤c):∃i,i<f.length∧f.getD i 0=x:=by
 have hl:=h.len;have h1:x∈fG f:=by
  rw[Qh h.nrm];exact agQ.2 ⟨(x-1).toNat,afY.2 (by omega),by omega⟩
 have h2:x∈f:=(List.mergeSort_perm f _).mem_iff.1 h1;obtain⟨i,hi,rfl⟩:=(iG _ x).1 h2;exact⟨i,hi,rfl⟩
theorem Alw.dec {c:Int} {ls:List (List Int)} {sum:Int} {s:St} {f:List Int} (hB:bO c ls sum s) (hA:Alw s f) {i:Nat} (hi:i<f.length) (hd:s.dc i=true):s.cd i=[f.getD i 0]:=by
 have h1:=hB.dec i (by rw[hA.len];exact hi) hd
 obtain⟨z,hz⟩:=akj.1 h1;have:=hA.mem i hi;rw[hz,agL]at this;rw[hz,this]
theorem ai7 {c:Int} {ls:List (List Int)} {sum:Int} {s:St} {f:List Int} (hB:bO c ls sum s) (hA:Alw s f) (hf:ahq c ls sum f) {k:Nat} (hk:k<ls.length):
 rst s sum (ls.getD k [])=sF (fun x=>if !(s.dc x.toNat)then f.getD x.toNat 0 else 0) (ls.getD k []):=by
 have h1:=hf.sum k hk;rw[ajp]at h1;rw[ajJ];have h2:sF (fun x=>f.getD x.toNat 0) (ls.getD k [])=sF (fun x=>(if s.dc x.toNat then hd0 (s.cd x.toNat)else 0)+(if !(s.dc x.toNat)then f.getD x.toNat 0 else 0)) (ls.getD k []):=aht fun x hx=>by
  have hr:=(hB.ln k hk).rng x hx;have hl:=hf.len;cases hd:s.dc x.toNat with
  |true=>
   rw[hA.dec hB (by omega) hd]
   simp[hd0]
  |false=>simp
 rw[aiX]at h2;omega
theorem ahB {c:Int} {ls:List (List Int)} {sum:Int} {s:St} {f:List Int} (hB:bO c ls sum s) (hA:Alw s f) (hf:ahq c ls sum f) {k:Nat} (hk:k<ls.length) {y:Int} (hy:y∈ls.getD k []) (hd:s.dc y.toNat=false):
 rst s sum (ls.getD k [])=f.getD y.toNat 0+sF (fun x=>f.getD x.toNat 0) (opn s (ls.getD k []) y):=by
 rw[ai7 hB hA hf hk,ajK];have h1:sF (fun x=>if !(s.dc x.toNat)then f.getD x.toNat 0 else 0) (ls.getD k [])=sF (fun x=>(if x=y then f.getD y.toNat 0 else 0)+(if !(s.dc x.toNat)&&decide (x≠y)then f.getD x.toNat 0 else 0)) (ls.getD k []):=aht fun x hx=>by
  by_cases e:x=y
  ·subst e;simp[hd]
  ·simp[e]
 rw[h1,aiX,ajI (hB.ln k hk).pw hy]
structure aj3 (c:Int) (ls:List (List Int)) (g:Nat) (y x k:Int):Prop where
 gg:1≤g∧g≤5
 yy:0≤y∧y<c
 xx:1≤x∧x≤c
 kk:lnG g=true→(0≤k∧k<ls.length)∧y∈ls.getD k.toNat []
theorem ajM {g:Nat} {s:St} {sum:Int} {l:List Int} {y x:Int}:okJ g s sum l y x=true↔s.dc y.toNat=false∧x∈s.cd y.toNat∧jst g s sum l y x=true:=by
 unfold okJ;simp
theorem sound {c:Int} {ls:List (List Int)} {sum:Int} {s:St} {f:List Int} (hB:bO c ls sum s) (hA:Alw s f) (hf:ahq c ls sum f) {g:Nat} {y x k:Int} (hL:aj3 c ls g y x k) (h:okJ g s sum (ls.getD k.toNat []) y x=true):
 g≤3↔f.getD y.toNat 0=x:=by
 obtain⟨hd,hx,hj⟩:=ajM.1 h;have hc:=hB.c1;have hfl:=hf.len;have hsl:=hB.cl;have hyf:y.toNat<f.length:=by have:=hL.yy;omega
 have hfy:=hA.mem _ hyf;have hg:=hL.gg;obtain rfl|rfl|rfl|rfl|rfl:g=1∨g=2∨g=3∨g=4∨g=5:=by omega
 ·refine⟨fun _=>?_,fun _=>by omega⟩
  obtain⟨hk,hm⟩:=hL.kk rfl;have:=ahB hB hA hf (k:=k.toNat) (by omega) hm hd
  simp only[jst,xO,aeA,decide_eq_true_eq]at hj;rw[akk hj.1]at this;simp only[sF]at this;omega
 ·refine⟨fun _=>?_,fun _=>by omega⟩
  simp only[jst,xP,decide_eq_true_eq]at hj;obtain⟨z,hz⟩:=akj.1 hj;rw[hz,agL]at hx hfy;rw[hx,hfy]
 ·refine⟨fun _=>?_,fun _=>by omega⟩
  simp only[jst,qd,afI,afY,afs,decide_eq_true_eq,ag8,decide_eq_false_iff_not]at hj;obtain⟨i,hi,e⟩:=hf.sur hL.xx;have h1:=hA.mem i hi;rw[e]at h1;rcases hj i (by rw[hA.len];exact hi)with h2|h2
  ·rw[←h2];simpa using e
  ·exact absurd h1 h2
 ·refine⟨fun h=>by omega,fun e=>?_⟩
  exfalso
  obtain⟨hk,hm⟩:=hL.kk rfl;have h1:=ahB hB hA hf (k:=k.toNat) (by omega) hm hd
  have hr:=fun z (hz:z∈opn s (ls.getD k.toNat []) y)=>(hB.ln k.toNat (by omega)).rng z (ahA.1 hz).1
  have hz:=fun z (hz:z∈opn s (ls.getD k.toNat []) y)=>hA.mem z.toNat (by have:=hr z hz;omega)
  have hasc:=fun z (hz:z∈opn s (ls.getD k.toNat []) y)=>(hB.asc z.toNat (by have:=hr z hz;omega)).1.pw
  have h2:xQ s (opn s (ls.getD k.toNat []) y)≤sF (fun x=>f.getD x.toNat 0) (opn s (ls.getD k.toNat []) y):=by
   rw[ajn];exact ah8 fun z hzz=>adS (hasc z hzz) _ (hz z hzz)
  have h3:sF (fun x=>f.getD x.toNat 0) (opn s (ls.getD k.toNat []) y)≤xR s (opn s (ls.getD k.toNat []) y):=by
   rw[ajo];exact ah8 fun z hzz=>aaN (hasc z hzz) _ (hz z hzz)
  simp only[jst,xS,afs,agC,decide_eq_true_eq]at hj;rcases hj with⟨z,hzz,e0⟩|hj
  ·have:=hz z hzz
   rw[e0]at this;simp at this
  ·omega
 ·refine⟨fun h=>by omega,fun e=>?_⟩
  exfalso
  obtain⟨hk,hm⟩:=hL.kk rfl;have h1:=ahB hB hA hf (k:=k.toNat) (by omega) hm hd
  have hr:=fun z (hz:z∈opn s (ls.getD k.toNat []) y)=>(hB.ln k.toNat (by omega)).rng z (ahA.1 hz).1
  simp only[jst,xU,aeA,decide_eq_true_eq,ag8]at hj;have:chs s (opn s (ls.getD k.toNat []) y) [x] (rst s sum (ls.getD k.toNat [])-x)=true:=by
   refine(ajq s _ _ _ (ajL (hB.ln k.toNat (by omega)).pw)).2 ⟨fun z=>f.getD z.toNat 0,fun z hz=>⟨hA.mem _ (by have:=hr z hz;omega),fun hm=>?_⟩,fun z hz w hw hne e1=>?_,by omega⟩
   ·have h2:=hr z hz
    have:=hf.inj (i:=z.toNat) (j:=y.toNat) (by omega) hyf (by rw[e];exact agL.1 hm)
    exact(ahA.1 hz).2.2 (by have:=hL.yy;omega)
   ·have h2:=hr z hz
    have h3:=hr w hw;have:=hf.inj (i:=z.toNat) (j:=w.toNat) (by omega) (by omega) e1
    omega
  rw[this]at hj;exact absurd hj.2 (by simp)
def okP (ls:List (List Int)) (sum:Int) (f:List Int):Bool:=ls.all fun l=>!decide (l.getD (l.length-1) 0<f.length)||decide (mD f l=sum)
structure aj9 (c:Int) (ls:List (List Int)) (sum:Int) (gv F:List Int):Prop where
 s:ahq c ls sum F
 g:∀i,i<gv.length→0<gv.getD i 0→gv.getD i 0=F.getD i 0
structure SrJ (c:Int) (ls:List (List Int)) (sum:Int) (gv:List Int) (f:Nat) (N U:List Int):Prop where
 fl:f≤gv.length
 nl:N.length=gv.length
 tl:∀j,gv.length-f≤j→j<gv.length→N.getD j 0=gv.getD j 0
 us:∀x:Int,1≤x→(x∈U↔x∈gv∨x∈N.take (gv.length-f))
 gd:∀i,i<gv.length-f→(0<gv.getD i 0→N.getD i 0=gv.getD i 0)∧(gv.getD i 0=0→N.getD i 0∉gv)
 pv:1≤gv.length-f→okP ls sum (N.take (gv.length-f-1))=true
end Go.Eng.YtcechbdgokjmgaaGreatDoor
namespace Go.Eng.YtcechbdgokjmgaaGreatDoor
open Go.Proofs
set_option linter.unusedSimpArgs false
set_option linter.unusedVariables false
set_option maxHeartbeats 0
set_option maxRecDepth 100000
structure akb (c:Int) (ls:List (List Int)) (sum:Int) (s:St) (o:List Int) (x:Int):Prop where
 bd:bO c ls sum s
 rng:∀y∈o,0≤y∧y<c
 len:o.length≤16
 x: -2000000000≤x∧x≤2000000000
structure akc (c:Int) (ls:List (List Int)) (sum:Int) (s:St) (o used:List Int) (x:Int):Prop where
 bd:bO c ls sum s
 rng:∀y∈o,0≤y∧y<c
 len:o.length+used.length≤30
 x: -2000000000+16*(o.length:Int)≤x∧x≤2000000000
structure akd (c:Int) (ls:List (List Int)) (sum:Int) (s:St) (k:Int):Prop where
 bd:bO c ls sum s
 k:0≤k∧k<ls.length
end Go.Eng.YtcechbdgokjmgaaGreatDoor
namespace Go.Eng
open Go.RowKit
set_option linter.unusedSimpArgs false
set_option linter.unusedVariables false
end Go.Eng
namespace Go.Eng.YtcechbdgokjmgaaGreatDoor
open Go.Proofs
set_option linter.unusedSimpArgs false
set_option linter.unusedVariables false
set_option maxHeartbeats 0
set_option maxRecDepth 100000
theorem dR.set0 {c:Int} {ls:List (List Int)} {sum:Int} {gv:List Int} (h:dR c ls sum gv) (k:Nat):dR c ls sum (gv.set k 0):=by
 have hc:=h.c1;have ha:∀i,(gv.set k 0).getD i 0=if i=k then 0 else gv.getD i 0:=fun i=>by
  rw[aeo,List.getElem?_set];by_cases e:k=i
  ·subst e;rw[if_pos rfl,if_pos rfl];split<;>rfl
  ·rw[if_neg e,if_neg (fun e'=>e e'.symm),←aeo]
 refine⟨h.c1,h.ll,h.ln,h.sm,by rw[aeP];exact h.gl,fun x hx=>?_,fun i j hij hj hpos e=>?_⟩
 ·obtain⟨i,hi,rfl⟩:=(iG _ x).1 hx
  rw[aeP]at hi;rw[ha];split
  ·omega
  ·exact h.gr _ (pW hi)
 ·rw[aeP]at hj
  rw[ha]at hpos;rw[ha,ha]at e;by_cases e1:j=k
  ·rw[if_pos e1]at hpos;omega
  ·rw[if_neg e1]at hpos e
   by_cases e2:i=k
   ·rw[if_pos e2]at e;omega
   ·rw[if_neg e2]at e;exact h.gd i j hij hj hpos e
noncomputable def ajR:CPT:=aA 36 (aB nu) noC
theorem aia:aW Tryz.prog ajR:=aj (au qg) aD
theorem aiZ (A:List (List Int)) (h:A.length≤1000000) (h2:∀i,(A.getD i []).length≤2000000):aF Tryz.prog 164 [.isl (.rows .i64 A) .none,.isl (.rows .i64 A) .none] (.bp true):=by
 refine av (md:=1) (rf:=[]) mixed ak aia Tryz.func164 (by rfl) (by rfl) (by rfl) ?_
 repeat'((conv=>whnf);first|(intro hq;(try simp only[vw]at hq);try first|exact absurd hq (by decide)|exfalso;omega)|apply aI|with_reducible exact vM rfl|exact⟨⟩|apply nM|apply fM)
 all_goals((try apply vM);(try simp only[vq]at*);try omega)
 all_goals(try omega)
 conv=>whnf
 refine aM (X:=Nat) (fun i=>i≤A.length) (fun i=>[(5,.int .i64 i)]) (fun i=>[]) (fun i=>A.length-i) 0 ⟨aK,mixed,ak,aia,aQ⟩ (by rfl) (by omega) ?_ ?_
 ·repeat'((conv=>whnf);first|intro _|apply aI|with_reducible exact vM rfl|exact⟨⟩|apply nM|apply fM)
  all_goals((try apply vM);(try simp only[vq]at*);try omega)
 intro i hi;by_cases hlt:i<A.length
 ·have:=h2 i
  repeat'((conv=>whnf);first|(intro hq;(try simp only[vw]at hq);try first|exact absurd hq (by decide)|exfalso;omega)|apply aI|with_reducible exact vM rfl|exact⟨⟩|apply nM|apply fM)
  all_goals((try apply vM);(try simp only[vq]at*);try omega)
  all_goals(try omega)
  refine⟨i+1,[],⟨by omega,by omega⟩,?_⟩
  repeat'((conv=>whnf);first|intro _|apply aI|with_reducible exact vM rfl|exact⟨⟩|apply nM|apply fM)
  all_goals((try apply vM);(try simp only[vq]at*);try omega)
 ·have:i=A.length:=by omega
  subst this
  repeat'((conv=>whnf);first|(intro hq;(try simp only[vw]at hq);try first|exact absurd hq (by decide)|exfalso;omega)|apply aI|with_reducible exact vM rfl|exact⟨⟩|apply nM|apply fM)
  all_goals((try apply vM);(try simp only[vq]at*);try omega)
  all_goals(try first|omega|exact dK true)
def aiD:PSp:=fun xs K=>match xs with
 | [.isl (.rows .i64 A) .none,.isl (.rows .i64 B) .none]=>VC (A=B∧A.length≤1000000∧∀i,(A.getD i []).length≤2000000)∧K (.bool true)
 |_=>False
theorem ajr:POK Tryz.prog 164 aiD:=by
 intro xs K hk;unfold aiD at hk;split at hk
 ·obtain⟨⟨rfl,h1,h2⟩,hk⟩:=hk
  exact⟨_,hk,tZ (aiZ _ h1 h2) ⟨fun hr=>by cases hr;exact .bool _ _⟩⟩
 ·exact hk.elim
noncomputable def ajS:CPT:=aA 164 (aB aiD) noC
theorem ai8:aW Tryz.prog ajS:=aj (au ajr) aD
theorem aiE (c:Int) (A:List (List Int)) (h:A.length≤1000000) (h2:∀i,(A.getD i []).length≤2000000):aF Tryz.prog 118 [.agg [.int .i64 c,.isl (.rows .i64 A) .none],.agg [.int .i64 c,.isl (.rows .i64 A) .none]] (.bp true):=by
 refine av (md:=1) (rf:=[]) mixed ak ai8 Tryz.func118 (by rfl) (by rfl) (by rfl) ?_
 repeat'((conv=>whnf);first|(intro hq;(try simp only[vw]at hq);try first|exact absurd hq (by decide)|exfalso;omega)|apply aI|with_reducible exact vM rfl|exact⟨⟩|apply nM|apply fM)
 all_goals((try apply vM);(try simp only[vq]at*);try omega)
 all_goals first|exact⟨h,h2⟩|exact dK true|exact Sup.of rfl|skip
def aib:PSp:=fun xs K=>match xs with
 | [.agg [.int .i64 c,.isl (.rows .i64 A) .none],.agg [.int .i64 c',.isl (.rows .i64 B) .none]]=>VC (c=c'∧A=B∧A.length≤1000000∧∀i,(A.getD i []).length≤2000000)∧K (.bool true)
 |_=>False
theorem ai9:POK Tryz.prog 118 aib:=by
 intro xs K hk;unfold aib at hk;split at hk
 ·obtain⟨⟨rfl,rfl,h1,h2⟩,hk⟩:=hk
  exact⟨_,hk,tZ (aiE _ _ h1 h2) ⟨fun hr=>by cases hr;exact .bool _ _⟩⟩
 ·exact hk.elim
def aic:PSp:=fun xs K=>match xs with
 | [.isl (.ints .i64 a) .none,.isl (.ints .i64 b) .none]=>VC (a=b∧a.length≤2000000)∧K (.bool true)
 |_=>False
theorem aja:POK Tryz.prog 36 aic:=by
 intro xs K hk;unfold aic at hk;split at hk
 ·obtain⟨⟨rfl,h1⟩,hk⟩:=hk
  exact⟨_,hk,tZ (CQ _ _ h1) ⟨fun hr=>by cases hr;rw[decide_eq_true rfl];exact .bool _ _⟩⟩
 ·exact hk.elim
noncomputable def ajT:CPT:=aA 36 (aB aic) (aA 118 (aB aib) noC)
theorem ajb:aW Tryz.prog ajT:=aj (au aja) (aj (au ai9) aD)
theorem ahW (c:Int) (A:List (List Int)) (sum:Int) (gv:List Int) (h:A.length≤1000000) (h2:∀i,(A.getD i []).length≤2000000) (h3:gv.length≤2000000):aF Tryz.prog 46 [pzV c A sum gv,pzV c A sum gv] (.bp true):=by
 refine av (md:=1) (rf:=[]) mixed ak ajb Tryz.func46 (by rfl) (by rfl) (by rfl) ?_
 repeat'((conv=>whnf);first|(intro hq;(try simp only[vw]at hq);try first|exact absurd hq (by decide)|exfalso;omega)|apply aI|with_reducible exact vM rfl|exact⟨⟩|apply nM|apply fM)
 all_goals((try apply vM);(try simp only[vq]at*);try omega)
 all_goals first|exact⟨h,h2⟩|exact h3|exact dK true|exact Sup.of rfl|skip
def aiF:PSp:=fun xs K=>match xs with
 | [.agg [.int .i64 c,.isl (.rows .i64 A) .none,.int .i64 sum,.isl (.ints .i64 gv) .none],.agg [.int .i64 c',.isl (.rows .i64 B) .none,.int .i64 sum',.isl (.ints .i64 gw) .none]]=>VC ((c=c'∧A=B∧sum=sum'∧gv=gw)∧A.length≤1000000∧(∀i,(A.getD i []).length≤2000000)∧gv.length≤2000000)∧K (.bool true)
 | [.agg [.int .i64 c,.isl (.rows .i64 A) .none,.int .i64 sum,.isl (.ints .i64 gv) .none],.agg [.int .i64 0,.isl (.ints .i64 []) .none,.int .i64 0,.isl (.ints .i64 []) .none]]=>VC (c=0∧A=[]∧sum=0∧gv=[])∧K (.bool true)
 |_=>False
theorem ajs:POK Tryz.prog 46 aiF:=by
 intro xs K hk;unfold aiF at hk;split at hk
 ·obtain⟨⟨⟨rfl,rfl,rfl,rfl⟩,h1,h2,h3⟩,hk⟩:=hk
  exact⟨_,hk,tZ (ahW _ _ _ _ h1 h2 h3) ⟨fun hr=>by cases hr;exact .bool _ _⟩⟩
 ·obtain⟨⟨rfl,rfl,rfl,rfl⟩,hk⟩:=hk
  refine⟨_,hk,Nu (tZ (ahW 0 [] 0 [] (by decide) (fun i=>by simp) (by decide)) ⟨fun hr=>by cases hr;exact .bool _ _⟩) rfl fun i hi=>?_⟩
  match i,hi with
  |0,_=>exact mg _
  |1,_=>exact⟨fun hr=>by
   cases hr with
   |agg _ _ vs hl hh=>
    refine .agg _ _ _ hl fun i hi=>?_
    match i,hi with
    |0,_=>have:=hh 0 (by decide);simp only[aC]at this⊢;exact this
    |1,_=>have:=hh 1 (by decide);simp only[aC]at this⊢;generalize vs.getD 1 undef=u at this;exact JZ this rfl
    |2,_=>have:=hh 2 (by decide);simp only[aC]at this⊢;exact this
    |3,_=>have:=hh 3 (by decide);simp only[aC]at this⊢;exact this⟩
 ·exact hk.elim
theorem ai0 (l:List Int) (hl:l.length≤1000000) (h:l=[]∨l.getD (l.length-1) 0≠0):aF Tryz.prog 258 [.isl (.ints .i64 l) .none] (.isl (.ints .i64 l) .none):=by
 refine av (md:=1) (rf:=[]) mixed ak aD Tryz.func258 (by rfl) (by rfl) (by rfl) ?_
 repeat'((conv=>whnf);first|(intro hq;(try simp only[vw]at hq);try first|exact absurd hq (by decide)|exfalso;omega)|apply aI|with_reducible exact vM rfl|exact⟨⟩|apply nM|apply fM)
 all_goals((try apply vM);(try simp only[vq]at*);try omega)
 conv=>whnf
 refine aM (X:=Unit) (fun i=>True) (fun i=>[(0,.isl (.ints .i64 l) .none)]) (fun i=>[]) (fun i=>1) () ⟨aK,mixed,ak,aD,aQ⟩ (by rfl) trivial ?_ ?_
 ·repeat'((conv=>whnf);first|intro _|apply aI|with_reducible exact vM rfl|exact⟨⟩|apply nM|apply fM)
  all_goals((try apply vM);(try simp only[vq]at*);try omega)
 intro i _;have e:((l.length:Int)-1).toNat=l.length-1:=by omega
 repeat'((conv=>whnf);first|(intro hq;(try simp only[vw]at hq);try first|exact absurd hq (by decide)|exfalso;omega)|apply aI|with_reducible exact vM rfl|exact⟨⟩|apply nM|apply fM)
 all_goals((try apply vM);(try simp only[vq]at*);try omega)
 all_goals(try first|omega|exact Sup.of rfl)
 ·exfalso
  rename_i h0;rw[e]at hq;rcases h with h|h
  ·rw[h]at h0;simp at h0
  ·exact h hq
def aiG:PSp:=fun xs K=>match xs with
 | [.isl (.ints .i64 l) .none]=>VC (l.length≤1000000∧(l=[]∨l.getD (l.length-1) 0≠0))∧K (.isl (.ints .i64 l) .none)
 |_=>False
theorem ajt:POK Tryz.prog 258 aiG:=by
 intro xs K h;unfold aiG at h;split at h
 ·exact⟨_,h.2,ai0 _ h.1.get.1 h.1.get.2⟩
 ·exact h.elim
noncomputable def aj4:CPT:=aA 258 (aB aiG) noC
theorem aju:aW Tryz.prog aj4:=aj (au ajt) aD
theorem ais (b:Bool) (l:List Int) (hl:l.length≤1000000) (h:l=[]∨l.getD (l.length-1) 0≠0):aF Tryz.prog 240 [.bp b,.isl (.ints .i64 l) .none] (.agg [.bp (b&&decide (0<(l.length:Int))),.isl (.ints .i64 l) .none]):=by
 refine av (md:=1) (rf:=[]) mixed ak aju Tryz.func240 (by rfl) (by rfl) (by rfl) ?_
 repeat'((conv=>whnf);first|(intro hq;(try simp only[vw]at hq);try first|exact absurd hq (by decide)|exfalso;omega)|apply aI|with_reducible exact vM rfl|exact⟨⟩|apply nM|apply fM)
 all_goals((try apply vM);(try simp only[vq]at*);try omega)
 all_goals(try exact⟨hl,h⟩)
 ·rw[hq,Bool.true_and];exact Sup.of rfl
 ·rw[hq,Bool.false_and]
  refine⟨fun hr=>?_⟩;cases hr with
  |agg _ _ vs hl hh=>
   refine .agg _ _ _ hl fun i hi=>?_
   match i,hi with
   |0,_=>have:=hh 0 (show 0<2 by decide);simp only[aC]at this⊢;generalize vs.getD 0 undef=u at this;cases this;exact .bp _ _
   |1,_=>exact hh 1 (show 1<2 by decide)
def ahH:PSp:=fun xs K=>match xs with
 | [.bp b,.isl (.ints .i64 l) .none]=>VC (l.length≤1000000∧(l=[]∨l.getD (l.length-1) 0≠0))∧K (.agg [.bp (b&&decide (0<(l.length:Int))),.isl (.ints .i64 l) .none])
 |_=>False
theorem ai1:POK Tryz.prog 240 ahH:=by
 intro xs K h;unfold ahH at h;split at h
 ·exact⟨_,h.2,ais _ _ h.1.get.1 h.1.get.2⟩
 ·exact h.elim
def dgB (u:Nat):ByteArray:=⟨(Go.Lib.decDigits u).toArray⟩
abbrev ajc:ByteArray:=⟨#[48,49,50,51,52,53,54,55,56,57]⟩
theorem ajv:∀d:Nat,d<10→ajc.extract d (d+1)=⟨#[UInt8.ofNat (48+d)]⟩:=by decide
theorem ahI (a:UInt8) (s:List UInt8):(⟨#[a]⟩:ByteArray)++⟨s.toArray⟩=⟨(a::s).toArray⟩:=by
 apply ByteArray.ext;simp
theorem ahX {u:Nat} (h:u<10):Go.Lib.decDigits u=[UInt8.ofNat (48+u)]:=by rw[Go.Lib.decDigits,dif_pos h]
theorem ajw {u:Nat} (h:¬u<10):Go.Lib.decDigits u=Go.Lib.decDigits (u / 10)++[UInt8.ofNat (48+u % 10)]:=by rw[Go.Lib.decDigits,dif_neg h]
theorem aie (n:Int) (h:0≤n∧n≤999999999):aF Tryz.prog 239 [.int .i64 n,.int .i64 1] (.str (dgB n.toNat)):=by
 refine av (md:=1) (rf:=[]) mixed ak aD Tryz.func239 (by rfl) (by rfl) (by rfl) ?_
 repeat'((conv=>whnf);first|(intro hq;(try simp only[vw]at hq);try first|exact absurd hq (by decide)|exfalso;omega)|apply aI|with_reducible exact vM rfl|exact⟨⟩|apply nM|apply fM)
 all_goals((try apply vM);(try simp only[vq]at*);try omega)
 conv=>whnf
 refine aM (X:=Nat × List UInt8) (fun x=>x.1≤999999999∧x.2.length+x.1≤1000000000∧((x.1=n.toNat∧x.2=[])∨(x.2≠[]∧Go.Lib.decDigits n.toNat=(if x.1=0 then []else Go.Lib.decDigits x.1)++x.2))) (fun x=>[(0,.int .i64 (x.1:Int)),(5,.str ⟨x.2.toArray⟩)]) (fun x=>[]) (fun x=>if x.2=[]then 1000000001 else x.1) (n.toNat,[]) ⟨aK,mixed,ak,aD,aQ⟩ (by rfl) ⟨by omega,by simp;omega,.inl ⟨rfl,rfl⟩⟩ ?_ ?_
 ·repeat'((conv=>whnf);first|intro _|apply aI|with_reducible exact vM rfl|exact⟨⟩|apply nM|apply fM)
  all_goals((try apply vM);(try simp only[vq]at*);try omega)
  all_goals first|omega|skip
 rintro⟨u,s⟩ ⟨hu,hl,hs⟩
 simp only at hu hl hs⊢;have ht:(u:Int).tmod 10=((u % 10:Nat):Int):=(Int.ofNat_tmod u 10).symm;have hd:(u:Int).tdiv 10=((u / 10:Nat):Int):=(Int.ofNat_tdiv u 10).symm;have hm:=Nat.mod_lt u (show 0<10 by decide)
 have hdg:=ajv (u % 10) hm;have hsz:(⟨s.toArray⟩:ByteArray).size=s.length:=rfl;have hx:ajc.extract ((u:Int).tmod 10).toNat ((u:Int).tmod 10+1).toNat=⟨#[UInt8.ofNat (48+u % 10)]⟩:=by
  rw[ht,show(((u % 10:Nat):Int)+1).toNat=u % 10+1 by omega,Int.toNat_natCast];exact hdg
 have h1:(⟨#[UInt8.ofNat (48+u % 10)]⟩:ByteArray).size=1:=rfl;have h10:ajc.size=10:=rfl;have nxt:(u≠0∨s=[])→((u / 10≤999999999∧(UInt8.ofNat (48+u % 10)::s).length+u / 10≤1000000000∧((u / 10=n.toNat∧(UInt8.ofNat (48+u % 10)::s)=[])∨((UInt8.ofNat (48+u % 10)::s)≠[]∧Go.Lib.decDigits n.toNat=(if u / 10=0 then []else Go.Lib.decDigits (u / 10))++(UInt8.ofNat (48+u % 10)::s))))∧(if(UInt8.ofNat (48+u % 10)::s)=[]then 1000000001 else u / 10)<if s=[]then 1000000001 else u):=fun hor=>by
  have key:Go.Lib.decDigits n.toNat=Go.Lib.decDigits u++s:=by
   rcases hs with⟨a,b⟩|⟨a,b⟩
   ·rw[a,b];simp
   ·rcases hor with q|q
    ·rw[b,if_neg q]
    ·exact absurd q a
  refine⟨⟨by omega,by simp only[ad4];rcases hor with q|q;omega;(subst q;simp;omega),.inr ⟨by simp,?_⟩⟩,?_⟩
  ·rw[key]
   by_cases q:u<10
   ·rw[ahX q,if_pos (by omega),Nat.mod_eq_of_lt q];rfl
   ·rw[ajw q,if_neg (by omega),List.append_assoc];rfl
  ·rw[if_neg (by simp)]
   by_cases q:s=[]
   ·rw[if_pos q];omega
   ·rw[if_neg q]
    rcases hor with r|r
    ·omega
    ·exact absurd r q
 repeat'((conv=>whnf);first|(intro hq;(try simp only[vw]at hq);try first|exact absurd hq (by decide)|exfalso;omega)|apply aI|with_reducible exact vM rfl|exact⟨⟩|apply nM|apply fM)
 all_goals((try apply vM);(try simp only[vq]at*);try omega)
 all_goals(try omega)
 all_goals(try(rw[ht];omega))
 all_goals(try(rw[hd];omega))
 all_goals(try(rw[hx,hsz,h1];omega))
 all_goals(try(rw[ht];show _≤((10:Nat):Int);omega))
 ·have hs0:s=[]:=by rw[hsz]at hq;exact akk (by omega)
  refine⟨(u / 10,UInt8.ofNat (48+u % 10)::s),[],nxt (.inr hs0),?_⟩;simp only
  repeat'((conv=>whnf);first|intro _|apply aI|with_reducible exact vM rfl|exact⟨⟩|apply nM|apply fM)
  all_goals((try apply vM);(try simp only[vq]at*);try omega)
  all_goals first|exact hd|exact hd.symm|(rw[hx];exact ahI _ _)|skip
 ·have hs1:s≠[]:=fun q=>by rw[hsz,q]at hq;simp at hq
  have hu0:u=0:=by omega
  rcases hs with⟨_,b⟩|⟨_,b⟩
  ·exact absurd b hs1
  ·rw[if_pos hu0,List.nil_append]at b
   unfold dgB;rw[b];exact Sup.of rfl
 ·skip
  refine⟨(u / 10,UInt8.ofNat (48+u % 10)::s),[],nxt (.inl (by omega)),?_⟩
  simp only
  repeat'((conv=>whnf);first|intro _|apply aI|with_reducible exact vM rfl|exact⟨⟩|apply nM|apply fM)
  all_goals((try apply vM);(try simp only[vq]at*);try omega)
  all_goals first|exact hd|exact hd.symm|(rw[hx];exact ahI _ _)|skip
def ahC:PSp:=fun xs K=>match xs with
 | [.int .i64 n,.int .i64 1]=>VC (0≤n∧n≤999999999)∧K (.str (dgB n.toNat))
 |_=>False
theorem aiH:POK Tryz.prog 239 ahC:=by
 intro xs K h;unfold ahC at h;split at h
 ·exact⟨_,h.2,aie _ h.1.get⟩
 ·exact h.elim
def whL (n:Int):List Int:=if n=0 then []else [(n.natAbs:Int)]
theorem aiI (n:Int) (h: -999999999≤n∧n≤999999999):aF Tryz.prog 214 [.int .i64 n] (.agg [.bp (decide (n<0)&&decide (0<((whL n).length:Int))),.isl (.ints .i64 (whL n)) .none]):=by
 have hC:aW Tryz.prog (aA 240 (aB ahH) noC):=aj (au ai1) aD;have hw:whL n=[]∨(whL n).getD ((whL n).length-1) 0≠0:=by
  unfold whL;split
  ·exact .inl rfl
  ·right;simp;omega
 have hwl:(whL n).length≤1:=by unfold whL;split<;>simp
 have hq0:n.tdiv 1000000000=0:=by
  by_cases e:0≤n
  ·exact akl e (by omega)
  ·have:=Int.neg_tdiv (-n) 1000000000
   rw[Int.neg_neg]at this;rw[this,akl (by omega) (by omega)];rfl
 have hr:n.tmod 1000000000=n:=by
  have:=Int.tmod_def n 1000000000;rw[hq0]at this;omega
 by_cases hn0:n=0
 ·have hwe:whL n=[]:=if_pos hn0
  rw[hwe]at hw hwl⊢;subst hn0;refine av (md:=1) (rf:=[]) mixed ak hC Tryz.func214 (by rfl) (by rfl) (by rfl) ?_
  repeat'((conv=>whnf);first|(intro hq;(try simp only[vw]at hq);try first|exact absurd hq (by decide)|exfalso;omega)|apply aI|with_reducible exact vM rfl|exact⟨⟩|apply nM|apply fM)
  all_goals((try apply vM);(try simp only[vq]at*);try omega)
  conv=>whnf
  refine aM (X:=Unit) (fun i=>True) (fun i=>[(0,.int .i64 0),(3,.nils)]) (fun i=>[]) (fun i=>1) () ⟨aK,mixed,ak,hC,aQ⟩ (by rfl) trivial ?_ ?_
  ·repeat'((conv=>whnf);first|intro _|apply aI|with_reducible exact vM rfl|exact⟨⟩|apply nM|apply fM)
   all_goals((try apply vM);(try simp only[vq]at*);try omega)
  intro i _
  repeat'((conv=>whnf);first|(intro hq;(try simp only[vw]at hq);try first|exact absurd hq (by decide)|exfalso;omega)|apply aI|with_reducible exact vM rfl|exact⟨⟩|apply nM|apply fM)
  all_goals((try apply vM);(try simp only[vq]at*);try omega)
  all_goals first|omega|exact⟨by decide,.inl trivial⟩|exact⟨by decide,.inl rfl⟩|exact Sup.of rfl|skip
 have hwe:whL n=[(n.natAbs:Int)]:=if_neg hn0;rw[hwe];obtain⟨a,ha⟩:∃a:Int,(n.natAbs:Int)=a:=⟨_,rfl⟩;rw[ha];refine av (md:=1) (rf:=[]) mixed ak hC Tryz.func214 (by rfl) (by rfl) (by rfl) ?_
 repeat'((conv=>whnf);first|(intro hq;(try simp only[vw]at hq);try first|exact absurd hq (by decide)|exfalso;omega)|apply aI|with_reducible exact vM rfl|exact⟨⟩|apply nM|apply fM)
 all_goals((try apply vM);(try simp only[vq]at*);try omega)
 conv=>whnf
 refine aM (X:=Nat) (fun i=>i≤1) (fun i=>[(0,.int .i64 (if i=1 then 0 else n)),(3,.isl (.ints .i64 (([a]:List Int).take i)) (.own 20))]) (fun i=>[(20,.tok 1 i)]) (fun i=>1-i) 0 ⟨aK,mixed,ak,hC,aQ⟩ (by rfl) (by omega) ?_ ?_
 ·repeat'((conv=>whnf);first|intro _|apply aI|with_reducible exact vM rfl|exact⟨⟩|apply nM|apply fM)
  all_goals((try apply vM);(try simp only[vq]at*);try omega)
  all_goals rfl
 intro i hi;obtain rfl|rfl:i=0∨i=1:=by omega
 ·rw[if_neg (by decide),List.take_zero]
  repeat'((conv=>whnf);first|(intro hq;(try simp only[vw]at hq);try first|exact absurd hq (by decide)|exfalso;omega)|apply aI|with_reducible exact vM rfl|exact⟨⟩|apply nM|apply fM)
  all_goals((try apply vM);(try simp only[vq]at*);try omega)
  all_goals(try first|omega|(exfalso;exact hn0 hq)|(simp only[afu,ad4,adY];omega)|(rw[hr]at*;omega))
  ·skip
   refine⟨1,[],⟨by omega,by omega⟩,?_⟩
   rw[if_pos rfl,show([a]:List Int).take 1=[a]from rfl];have hda:(0-n.tmod 1000000000)=a:=by rw[hr]at*;omega
   repeat'((conv=>whnf);first|intro _|apply aI|with_reducible exact vM rfl|exact⟨⟩|apply nM|apply fM)
   all_goals((try apply vM);(try simp only[vq]at*);try omega)
   all_goals first|exact hq0|exact hq0.symm|(rw[hda];done)|(rw[hda];rfl)|rfl|skip
  ·skip
   refine⟨1,[],⟨by omega,by omega⟩,?_⟩
   rw[if_pos rfl,show([a]:List Int).take 1=[a]from rfl];have hda:(n.tmod 1000000000)=a:=by rw[hr]at*;omega
   repeat'((conv=>whnf);first|intro _|apply aI|with_reducible exact vM rfl|exact⟨⟩|apply nM|apply fM)
   all_goals((try apply vM);(try simp only[vq]at*);try omega)
   all_goals first|exact hq0|exact hq0.symm|(rw[hda];done)|(rw[hda];rfl)|rfl|skip
 ·rw[if_pos rfl,show([a]:List Int).take 1=[a]from rfl]
  repeat'((conv=>whnf);first|(intro hq;(try simp only[vw]at hq);try first|exact absurd hq (by decide)|exfalso;omega)|apply aI|with_reducible exact vM rfl|exact⟨⟩|apply nM|apply fM)
  all_goals((try apply vM);(try simp only[vq]at*);try omega)
  all_goals first|omega|exact⟨by decide,.inr (by simp;omega)⟩|exact Sup.of rfl|skip
def ahD:PSp:=fun xs K=>match xs with
 | [.int .i64 n]=>VC (-999999999≤n∧n≤999999999)∧K (.agg [.bp (decide (n<0)&&decide (0<((whL n).length:Int))),.isl (.ints .i64 (whL n)) .none])
 |_=>False
theorem aif:POK Tryz.prog 214 ahD:=by
 intro xs K h;unfold ahD at h;split at h
 ·exact⟨_,h.2,aiI _ h.1.get⟩
 ·exact h.elim
abbrev ajk:ByteArray:=⟨#[48]⟩
abbrev aiJ:ByteArray:=⟨#[45]⟩
noncomputable def aj5:CPT:=aA 239 (aB ahC) noC
theorem ahJ:aW Tryz.prog aj5:=aj (au aiH) aD
theorem aiK (b:Bool):aF Tryz.prog 213 [.agg [.bp b,.isl (.ints .i64 []) .none]] (.str ajk):=by
 refine av (md:=1) (rf:=[]) mixed ak ahJ Tryz.func213 (by rfl) (by rfl) (by rfl) ?_
 repeat'((conv=>whnf);first|(intro hq;(try simp only[vw]at hq);try first|exact absurd hq (by decide)|exfalso;omega)|apply aI|with_reducible exact vM rfl|exact⟨⟩|apply nM|apply fM)
 all_goals((try apply vM);(try simp only[vq]at*);try omega)
 all_goals first|omega|exact Sup.of rfl|skip
theorem ajx (u:Nat) (h:u≤999999999):(dgB u).size≤100:=by
 have h1:(dgB u).size=Go.Lib.nDigits u:=by
  rw[←Go.Lib.decDigits_length];rfl
 have key:∀k u:Nat,u<10 ^ k→1≤k→Go.Lib.nDigits u≤k:=by
  intro k;induction k with
  |zero=>intro u _ h;omega
  |succ k ih=>
   intro u hu _;by_cases q:u<10
   ·rw[Go.Lib.nDigits_small q];omega
   ·rw[Go.Lib.nDigits_big q]
    have hk:1≤k:=by
     cases k with
     |zero=>simp at hu;omega
     |succ k=>omega
    have:=ih (u / 10) (by rw[Nat.pow_succ]at hu;omega) hk
    omega
 have:=key 9 u (by omega) (by omega)
 omega
theorem aiL (b:Bool) (a:Int) (h:1≤a∧a≤999999999):aF Tryz.prog 213 [.agg [.bp b,.isl (.ints .i64 [a]) .none]] (.str (if b then aiJ++dgB a.toNat else dgB a.toNat)):=by
 have hs:=ajx a.toNat (by omega)
 have hm:aiJ.size=1:=rfl;refine av (md:=1) (rf:=[]) mixed ak ahJ Tryz.func213 (by rfl) (by rfl) (by rfl) ?_
 repeat'((conv=>whnf);first|(intro hq;(try simp only[vw]at hq);try first|exact absurd hq (by decide)|exfalso;omega)|apply aI|with_reducible exact vM rfl|exact⟨⟩|apply nM|apply fM)
 all_goals((try apply vM);(try simp only[vq]at*);try omega)
 all_goals(try first|omega|exact⟨(show 0≤a by omega),h.2⟩)
 conv=>whnf
 refine aM (X:=Unit) (fun i=>True) (fun i=>[(4,.int .i64 (-1)),(3,.str (dgB a.toNat))]) (fun i=>[]) (fun i=>1) () ⟨aK,mixed,ak,ahJ,aQ⟩ (by rfl) trivial ?_ ?_
 ·repeat'((conv=>whnf);first|intro _|apply aI|with_reducible exact vM rfl|exact⟨⟩|apply nM|apply fM)
  all_goals((try apply vM);(try simp only[vq]at*);try omega)
  all_goals first|rfl|omega|skip
 intro i _
 repeat'((conv=>whnf);first|(intro hq;(try simp only[vw]at hq);try first|exact absurd hq (by decide)|exfalso;omega)|apply aI|with_reducible exact vM rfl|exact⟨⟩|apply nM|apply fM)
 all_goals((try apply vM);(try simp only[vq]at*);try omega)
 all_goals(try first|omega|(rw[hm];omega))
 ·rw[hq,if_pos rfl];exact Sup.of rfl
 ·rw[hq,if_neg (by simp)];exact Sup.of rfl
theorem aiM (n:Int) (h: -999999999≤n∧n≤999999999):aF Tryz.prog 177 [.int .i64 n] (.str (itB n)):=by
 by_cases hn0:n=0
 ·subst hn0
  have hC:aW Tryz.prog (aA 213 (aB fun xs K=>match xs with| [.agg [.bp b,.isl (.ints .i64 l) .none]]=>VC (l=[])∧K (.str ajk)|_=>False) (aA 214 (aB ahD) noC)):=aj (au (fun xs K hk=>by
   split at hk
   ·obtain⟨⟨rfl⟩,hk⟩:=hk;exact⟨_,hk,aiK _⟩
   ·exact hk.elim)) (aj (au aif) aD)
  refine av (md:=1) (rf:=[]) mixed ak hC Tryz.func177 (by rfl) (by rfl) (by rfl) ?_
  repeat'((conv=>whnf);first|(intro hq;(try simp only[vw]at hq);try first|exact absurd hq (by decide)|exfalso;omega)|apply aI|with_reducible exact vM rfl|exact⟨⟩|apply nM|apply fM)
  all_goals((try apply vM);(try simp only[vq]at*);try omega)
  all_goals first|omega|exact if_pos rfl|(refine Sup.of (congrArg PV.str ?_);unfold itB Go.Lib.itoa;rw[if_neg (by decide),Int.toNat_zero,ahX (by decide)];rfl)|skip
 obtain⟨a,ha⟩:∃a:Int,(n.natAbs:Int)=a:=⟨_,rfl⟩;have hwe:whL n=[a]:=by rw[←ha];exact if_neg hn0
 have hit:itB n=if decide (n<0)then aiJ++dgB a.toNat else dgB a.toNat:=by
  unfold itB Go.Lib.itoa dgB;by_cases e:n<0
  ·rw[if_pos e,decide_eq_true e,if_pos rfl,show a.toNat=n.natAbs by omega]
   exact(ahI 45 _).symm
  ·rw[if_neg e,decide_eq_false e,if_neg (by simp),show a.toNat=n.toNat by omega]
 have hC:aW Tryz.prog (aA 213 (aB fun xs K=>match xs with| [.agg [.bp b,.isl (.ints .i64 l) .none]]=>VC (l=[a]∧1≤a∧a≤999999999∧b=decide (n<0))∧K (.str (if decide (n<0)then aiJ++dgB a.toNat else dgB a.toNat))|_=>False) (aA 214 (aB ahD) noC)):=aj (au (fun xs K hk=>by
  split at hk
  ·obtain⟨⟨rfl,h1,h2,rfl⟩,hk⟩:=hk;exact⟨_,hk,aiL _ _ ⟨h1,h2⟩⟩
  ·exact hk.elim)) (aj (au aif) aD)
 rw[hit];refine av (md:=1) (rf:=[]) mixed ak hC Tryz.func177 (by rfl) (by rfl) (by rfl) ?_
 repeat'((conv=>whnf);first|(intro hq;(try simp only[vw]at hq);try first|exact absurd hq (by decide)|exfalso;omega)|apply aI|with_reducible exact vM rfl|exact⟨⟩|apply nM|apply fM)
 all_goals((try apply vM);(try simp only[vq]at*);try omega)
 all_goals first|omega|exact⟨hwe,by omega,by omega,by rw[hwe];simp⟩|exact Sup.of rfl|skip
def aii:PSp:=fun xs K=>match xs with
 | [.int .i64 n]=>VC (-999999999≤n∧n≤999999999)∧K (.str (itB n))
 |_=>False
theorem ajd:POK Tryz.prog 177 aii:=by
 intro xs K h;unfold aii at h;split at h
 ·exact⟨_,h.2,aiM _ h.1.get⟩
 ·exact h.elim
theorem ai2 (n:Int) (h: -999999999≤n∧n≤999999999):aF Tryz.prog 131 [.int .i64 n] (.str (itB n)):=by
 have hC:aW Tryz.prog (aA 177 (aB aii) noC):=aj (au ajd) aD;refine av (md:=1) (rf:=[]) mixed ak hC Tryz.func131 (by rfl) (by rfl) (by rfl) ?_
 repeat'((conv=>whnf);first|(intro hq;(try simp only[vw]at hq);try first|exact absurd hq (by decide)|exfalso;omega)|apply aI|with_reducible exact vM rfl|exact⟨⟩|apply nM|apply fM)
 all_goals((try apply vM);(try simp only[vq]at*);try omega)
 all_goals first|omega|exact h|exact Sup.of rfl|skip
def aiN:PSp:=fun xs K=>match xs with
 | [.int .i64 n]=>VC (-999999999≤n∧n≤999999999)∧K (.str (itB n))
 |_=>False
theorem ajy:POK Tryz.prog 131 aiN:=by
 intro xs K h;unfold aiN at h;split at h
 ·exact⟨_,h.2,ai2 _ h.1.get⟩
 ·exact h.elim
def wdA (w:ByteArray) (l:List Int) (k:Nat):ByteArray:=(l.take k).foldl (fun a x=>a++kBl++itB x) w
theorem aij (w:ByteArray) (l:List Int) (k:Nat) (h:k<l.length):wdA w l (k+1)=wdA w l k++kBl++itB (l.getD k 0):=by
 unfold wdA;rw[af3,aev h,agq,aeo,aev h];rfl
theorem aje {w:ByteArray} {l:List Int} (hw:w.size≤10) (h:∀x∈l,-999999999≤x∧x≤999999999):∀k,k≤l.length→(wdA w l k).size≤10+22*k:=by
 intro k;induction k with
 |zero=>intro _;exact hw
 |succ k ih=>
  intro hk;rw[aij _ _ _ (by omega),ByteArray.size_append,ByteArray.size_append]
  have:=ih (by omega)
  have h1:=h (l.getD k 0) (pW (by omega))
  have:=oU (n:=l.getD k 0) ⟨by omega,by omega⟩
  have e:kBl.size=1:=rfl;omega
theorem ai3:∀(l:List Int) (a:ByteArray),(l.foldl (fun a x=>a++kBl++itB x) a).data.toList=a.data.toList++Go.Lib.joinTail [32] (l.map fun x=>(itB x).data.toList):=by
 intro l;induction l with
 |nil=>intro a;simp[Go.Lib.joinTail]
 |cons x r ih=>
  intro a;rw[akh,ih];simp[Go.Lib.joinTail,kBl]
theorem ajN (w:ByteArray) (l:List Int):wdA w l l.length++⟨#[10]⟩=lnB w l:=by
 unfold lnB;refine congrArg (·++sNl) ?_;unfold wdA;rw[af5];apply ByteArray.ext;apply akm;rw[ai3];unfold joB;show _=(List.toArray _).toList;rw[List.toList_toArray,af4,aen,akn,List.singleton_append,Go.Lib.join_cons,List.map_map];rfl
noncomputable def aj6:CPT:=aA 131 (aB aiN) noC
theorem aiy:aW Tryz.prog aj6:=aj (au ajy) aD
theorem ait (w:ByteArray) (l:List Int) (hw:w.size≤10) (hl:l.length≤1000000) (h:∀x∈l,-999999999≤x∧x≤999999999):aF Tryz.prog 111 [.str w,.isl (.ints .i64 l) .none] (.str (lnB w l)):=by
 rw[←ajN];refine av (md:=1) (rf:=[]) mixed ak aiy Tryz.func111 (by rfl) (by rfl) (by rfl) ?_
 repeat'((conv=>whnf);first|(intro hq;(try simp only[vw]at hq);try first|exact absurd hq (by decide)|exfalso;omega)|apply aI|with_reducible exact vM rfl|exact⟨⟩|apply nM|apply fM)
 all_goals((try apply vM);(try simp only[vq]at*);try omega)
 conv=>whnf
 refine aM (X:=Nat) (fun i=>i≤l.length) (fun i=>[(5,.int .i64 i),(0,.str (wdA w l i))]) (fun i=>[]) (fun i=>l.length-i) 0 ⟨aK,mixed,ak,aiy,aQ⟩ (by rfl) (by omega) ?_ ?_
 ·repeat'((conv=>whnf);first|intro _|apply aI|with_reducible exact vM rfl|exact⟨⟩|apply nM|apply fM)
  all_goals((try apply vM);(try simp only[vq]at*);try omega)
  all_goals rfl
 intro i hi;have hs:=aje hw h i hi;have e:kBl.size=1:=rfl;by_cases hlt:i<l.length
 ·have hx:=h (l.getD i 0) (pW hlt)
  have hz:=oU (n:=l.getD i 0) ⟨by omega,by omega⟩
  have hsu:=aij w l i hlt;have e1:(wdA w l i++kBl).size+(itB (l.getD i 0)).size≤9223372036854775807:=by rw[ByteArray.size_append];omega
  have e2:(wdA w l i).size+kBl.size≤9223372036854775807:=by omega
  repeat'((conv=>whnf);first|(intro hq;(try simp only[vw]at hq);try first|exact absurd hq (by decide)|exfalso;omega)|apply aI|with_reducible exact vM rfl|exact⟨⟩|apply nM|apply fM)
  all_goals((try apply vM);(try simp only[vq]at*);try omega)
  all_goals(try first|exact e1|exact e2|exact hx|omega)
  refine⟨i+1,[],⟨by omega,by omega⟩,?_⟩
  rw[hsu]
  repeat'((conv=>whnf);first|intro _|apply aI|with_reducible exact vM rfl|exact⟨⟩|apply nM|apply fM)
  all_goals((try apply vM);(try simp only[vq]at*);try omega)
  all_goals skip
 ·have:i=l.length:=by omega
  subst this;have e2:(wdA w l l.length).size+kBl.size≤9223372036854775807:=by omega
  repeat'((conv=>whnf);first|(intro hq;(try simp only[vw]at hq);try first|exact absurd hq (by decide)|exfalso;omega)|apply aI|with_reducible exact vM rfl|exact⟨⟩|apply nM|apply fM)
  all_goals((try apply vM);(try simp only[vq]at*);try omega)
  all_goals(try first|exact e2|omega|exact Sup.of rfl)
  all_goals skip
def ahK:PSp:=fun xs K=>match xs with
 | [.str w,.isl (.ints .i64 l) .none]=>VC (w.size≤10∧l.length≤1000000∧∀x∈l,-999999999≤x∧x≤999999999)∧K (.str (lnB w l))
 |_=>False
theorem ai4:POK Tryz.prog 111 ahK:=by
 intro xs K h;unfold ahK at h;split at h
 ·exact⟨_,h.2,ait _ _ h.1.get.1 h.1.get.2.1 h.1.get.2.2⟩
 ·exact h.elim
noncomputable def ajU:CPT:=aA 111 (aB ahK) noC
theorem aik:aW Tryz.prog ajU:=aj (au ai4) aD
theorem aiO (c:Int) (ls:List (List Int)) (sum:Int) (gv:List Int) (hp:dR c ls sum gv):aF Tryz.prog 43 [pzV c ls sum gv] (.str (vE c ls sum gv)):=by
 have hc:=hp.c1;have hsm:=hp.sm;have hll:=hp.ll;have hgl:=hp.gl;have q1:(qH.size≤10∧[c].length≤1000000∧∀x∈[c],-999999999≤x∧x≤999999999):=⟨by decide,by simp,fun x hx=>by simp at hx;subst hx;omega⟩
 have q2:(Nf.size≤10∧[sum].length≤1000000∧∀x∈[sum],-999999999≤x∧x≤999999999):=⟨by decide,by simp,fun x hx=>by simp at hx;subst hx;omega⟩
 have q3:(vD.size≤10∧gv.length≤1000000∧∀x∈gv,-999999999≤x∧x≤999999999):=⟨by decide,by omega,fun x hx=>by have:=hp.gr x hx;omega⟩
 have q4:∀i,i<ls.length→(DR.size≤10∧(ls.getD i []).length≤1000000∧∀x∈ls.getD i [],-999999999≤x∧x≤999999999):=fun i hi=>⟨by decide,by have:=(hp.ln i hi).len;omega,fun x hx=>by have:=(hp.ln i hi).rng x hx;omega⟩
 have s1:=mI (w:=qH) (l:=[c]) (by decide) (fun x hx=>by simp at hx;subst hx;exact⟨by omega,by omega⟩)
 have s2:=mI (w:=Nf) (l:=[sum]) (by decide) (fun x hx=>by simp at hx;subst hx;exact⟨by omega,by omega⟩)
 have s3:=mI (w:=vD) (l:=gv) (by decide) (fun x hx=>by have:=q3.2.2 x hx;exact⟨by omega,by omega⟩)
 have hA:=Tg hp;have eA:prA c ls sum 0=lnB qH [c]++lnB Nf [sum]:=by
  show ByteArray.empty++lnB qH [c]++lnB Nf [sum]=_;rw[ByteArray.empty_append]
 simp only[ad4,adY]at s1 s2;have s12:(lnB qH [c]).size+(lnB Nf [sum]).size≤9223372036854775807:=by omega
 refine av (md:=1) (rf:=[]) mixed ak aik Tryz.func43 (by rfl) (by rfl) (by rfl) ?_
 repeat'((conv=>whnf);first|(intro hq;(try simp only[vw]at hq);try first|exact absurd hq (by decide)|exfalso;omega)|apply aI|with_reducible exact vM rfl|exact⟨⟩|apply nM|apply fM)
 all_goals((try apply vM);(try simp only[vq]at*);try omega)
 all_goals(try first|exact s12|exact q1|exact q2|omega)
 all_goals(conv=>whnf)
 refine aM (X:=Nat) (fun i=>i≤ls.length) (fun i=>[(4,.int .i64 i),(3,.str (prA c ls sum i))]) (fun i=>[]) (fun i=>ls.length-i) 0 ⟨aK,mixed,ak,aik,aQ⟩ (by rfl) (by omega) ?_ ?_
 ·rw[eA]
  repeat'((conv=>whnf);first|intro _|apply aI|with_reducible exact vM rfl|exact⟨⟩|apply nM|apply fM)
  all_goals((try apply vM);(try simp only[vq]at*);try omega)
  all_goals skip
 intro i hi;have hs:=hA i hi;by_cases hlt:i<ls.length
 ·have h4:=q4 i hlt
  have s4:=mI (w:=DR) (l:=ls.getD i []) (by decide) (fun x hx=>by have:=h4.2.2 x hx;exact⟨by omega,by omega⟩)
  have hll:=(hp.ln i hlt).len;have hsu:=Gu c ls sum i hlt;have s5:(prA c ls sum i).size+(lnB DR (ls.getD i [])).size≤9223372036854775807:=by omega
  repeat'((conv=>whnf);first|(intro hq;(try simp only[vw]at hq);try first|exact absurd hq (by decide)|exfalso;omega)|apply aI|with_reducible exact vM rfl|exact⟨⟩|apply nM|apply fM)
  all_goals((try apply vM);(try simp only[vq]at*);try omega)
  all_goals(try first|exact s5|exact h4|omega)
  all_goals skip
  refine⟨i+1,[],⟨by omega,by omega⟩,?_⟩
  rw[hsu]
  repeat'((conv=>whnf);first|intro _|apply aI|with_reducible exact vM rfl|exact⟨⟩|apply nM|apply fM)
  all_goals((try apply vM);(try simp only[vq]at*);try omega)
  all_goals skip
 ·have:i=ls.length:=by omega
  subst this;have s5:(prA c ls sum ls.length).size+(lnB vD gv).size≤9223372036854775807:=by omega
  repeat'((conv=>whnf);first|(intro hq;(try simp only[vw]at hq);try first|exact absurd hq (by decide)|exfalso;omega)|apply aI|with_reducible exact vM rfl|exact⟨⟩|apply nM|apply fM)
  all_goals((try apply vM);(try simp only[vq]at*);try omega)
  all_goals(try first|exact s5|exact q3|exact Sup.of rfl|omega)
  all_goals skip
def ail:PSp:=fun xs K=>match xs with
 | [.agg [.int .i64 c,.isl (.rows .i64 ls) .none,.int .i64 sum,.isl (.ints .i64 gv) .none]]=>VC (dR c ls sum gv)∧K (.str (vE c ls sum gv))
 |_=>False
theorem ajf:POK Tryz.prog 43 ail:=by
 intro xs K h;unfold ail at h;split at h
 ·exact⟨_,h.2,aiO _ _ _ _ h.1.get⟩
 ·exact h.elim
theorem aiu (c:UInt8):∀l:List UInt8,spl c (l++[c])=spl c l++[[]]:=by
 intro l;induction l with
 |nil=>simp[spl]
 |cons x r ih=>
  rw[ad3,spl,spl];split
  ·rw[ih];rfl
  ·rw[ih]
   cases h:spl c r with
   |nil=>exact absurd h (OB c r)
   |cons a t=>simp
def ahL (x:UInt8):List (List UInt8)→List (List UInt8)
 | []=>[]
 | [a]=>[a++[x]]
 |a::b::t=>a::ahL x (b::t)
theorem aiv {c x:UInt8} (hx:x≠c):∀l:List UInt8,spl c (l++[x])=ahL x (spl c l):=by
 intro l;induction l with
 |nil=>simp[spl,hx,ahL]
 |cons y r ih=>
  rw[ad3,spl,spl];have hne:=OB c r;split
  ·rw[ih]
   cases h:spl c r with
   |nil=>exact absurd h hne
   |cons a t=>rfl
  ·rw[ih]
   cases h:spl c r with
   |nil=>exact absurd h hne
   |cons a t=>
    cases t with
    |nil=>rfl
    |cons b t=>rfl
abbrev ahM (l:List UInt8):ByteArray:=⟨l.toArray⟩
theorem ajg (x:UInt8):∀l:List (List UInt8),l≠[]→(ahL x l).map ahM=(l.map ahM).set (l.length-1) ((l.map ahM).getD (l.length-1) .empty++ahM [x]):=by
 intro l;induction l with
 |nil=>intro h;exact absurd rfl h
 |cons a t ih=>
  intro _;cases t with
  |nil=>
   simp only[ahL,aen,akn,ad4,adY,List.set_cons_zero,List.getD_cons_zero];refine congrArg (·::[]) ?_;apply ByteArray.ext;simp
  |cons b t=>
   have h:=ih (by simp)
   simp only[ahL,aen,ad4,Nat.add_sub_cancel]at h⊢;rw[h];rfl
def ake (c:UInt8) (l:List UInt8):List ByteArray:=(spl c l).map ahM
theorem ajO (c:UInt8) (l:List UInt8):1≤(ake c l).length∧(ake c l).length≤l.length+1:=by
 have h:=OB c l;unfold ake;rw[af0];refine⟨?_,?_⟩
 ·cases e:spl c l with
  |nil=>exact absurd e h
  |cons a t=>simp
 ·clear h
  induction l with
  |nil=>simp[spl]
  |cons x r ih=>
   rw[spl];split
   ·simp only[ad4];omega
   ·cases e:spl c r with
    |nil=>simp
    |cons a t=>rw[e]at ih;simp only[ad4]at ih⊢;omega
theorem aiP (c:UInt8) (l:List UInt8):ake c (l++[c])=ake c l++[.empty]:=by
 unfold ake;rw[aiu,af4];rfl
theorem aiQ {c x:UInt8} (hx:x≠c) (l:List UInt8):ake c (l++[x])=(ake c l).set ((ake c l).length-1) ((ake c l).getD ((ake c l).length-1) .empty++⟨#[x]⟩):=by
 unfold ake;rw[aiv hx,ajg x _ (OB c l),af0]
theorem ajz {s:ByteArray} {i:Nat} (h:i<s.size):s.extract i (i+1)=⟨#[s.data.getD i 0]⟩:=by
 have h':i<s.data.size:=h;apply ByteArray.ext;rw[ByteArray.data_extract];apply Array.ext
 ·rw[Array.size_extract];simp;omega
 ·intro j h1 h2
  have hj:j=0:=by simp at h2;omega
  subst hj;simp[ako,h'];intro hh;exact absurd h (by omega)
theorem aiw (s:ByteArray) (c:UInt8) (hs:s.size≤1000000):aF Tryz.prog 116 [.str s,.int .u8 (c.toNat:Int)] (.isl (.strs (dD c s)) .none):=by
 have hsl:s.data.toList.length=s.size:=by rw[aeO];rfl
 refine eD (md:=1) (rf:=[7]) mixed ak aD Tryz.func116 (by rfl) (by rfl) (by rfl) ?_
 repeat'((conv=>whnf);first|(intro hq;(try simp only[vw]at hq);try first|exact absurd hq (by decide)|exfalso;omega)|apply aI|with_reducible exact vM rfl|exact⟨⟩|apply nM|apply fM)
 all_goals((try apply vM);(try simp only[vq]at*);try omega)
 conv=>whnf
 refine aM (X:=Nat) (fun i=>i≤s.size) (fun i=>[(6,.int .i64 i),(5,.rsl 0 0 (ake c (s.data.toList.take i)).length),(7,.any)]) (fun i=>[(0,.cells (.strs (ake c (s.data.toList.take i))) false)]) (fun i=>s.size-i) 0 ⟨aK,mixed,ak,aD,aQ⟩ (by rfl) (by omega) ?_ ?_
 ·repeat'((conv=>whnf);first|intro _|apply aI|with_reducible exact vM rfl|exact⟨⟩|apply nM|apply fM)
  all_goals((try apply vM);(try simp only[vq]at*);try omega)
  all_goals rfl
 intro i hi;have hl:=ajO c (s.data.toList.take i);rw[ae0]at hl;obtain⟨n,hn⟩:∃n,(ake c (s.data.toList.take i)).length=n:=⟨_,rfl⟩;have te9s:te9.size=1:=by rfl
 by_cases hlt:i<s.size
 ·have hd:s.data.toList[i]? =some (s.data.getD i 0):=by
   rw[aev (by omega)]
   have:i<s.data.size:=hlt;unfold ako;rw[dif_pos this];rfl
  have htk:s.data.toList.take (i+1)=s.data.toList.take i++[s.data.getD i 0]:=by
   rw[af3,hd];rfl
  have hex:=ajz hlt;have e1:((i:Int)+1).toNat=i+1:=by omega
  have e2:((n:Int)-1).toNat*te9.size=n-1:=by rw[te9s];omega
  have hsz:((ake c (s.data.toList.take i)).getD (n-1) .empty).size≤1000000:=by
   have hm:=uS (l:=ake c (s.data.toList.take i)) (j:=n-1) (by omega)
   generalize(ake c (s.data.toList.take i)).getD (n-1) .empty=z at hm
   unfold ake at hm;obtain⟨y,hy,rfl⟩:=agQ.1 hm;have:=(FM c (s.data.toList.take i)).1 y hy;rw[ae0]at this;have e:(ahM y).size=y.length:=rfl;omega
  have hx1:(s.extract i (i+1)).size=1:=by rw[hex];rfl
  rw[hn]
  repeat'((conv=>whnf);first|(intro hq;(try simp only[vw]at hq);try first|exact absurd hq (by decide)|exfalso;omega)|apply aI|with_reducible exact vM rfl|exact⟨⟩|apply nM|apply fM)
  all_goals((try apply vM);(try simp only[vq]at*);try omega)
  all_goals(try first|omega|(rw[e2];omega)|(rw[e2,e1,hx1];omega))
  ·have hc:s.data.getD i 0=c:=by
    apply UInt8.toNat_inj.1;omega
   refine⟨i+1,[(2,0)],⟨by omega,by omega⟩,?_⟩
   rw[htk,hc,aiP,afu,hn]
   repeat'((conv=>whnf);first|intro _|apply aI|with_reducible exact vM rfl|exact⟨⟩|apply nM|apply fM)
   all_goals((try apply vM);(try simp only[vq]at*);try omega)
   all_goals(rw[bP hn];rfl)
  ·have hc:s.data.getD i 0≠c:=fun e=>hq (by rw[e])
   have hset:=aiQ hc (s.data.toList.take i);rw[hn]at hset;refine⟨i+1,[],⟨by omega,by omega⟩,?_⟩
   rw[htk,hset,aeP,hn,←hex,←e1,←e2]
   repeat'((conv=>whnf);first|intro _|apply aI|with_reducible exact vM rfl|exact⟨⟩|apply nM|apply fM)
   all_goals((try apply vM);(try simp only[vq]at*);try omega)
   all_goals skip
 ·have:i=s.size:=by omega
  subst this;rw[show s.data.toList.take s.size=s.data.toList from akp (by omega)]at hn⊢
  repeat'((conv=>whnf);first|(intro hq;(try simp only[vw]at hq);try first|exact absurd hq (by decide)|exfalso;omega)|apply aI|with_reducible exact vM rfl|exact⟨⟩|apply nM|apply fM)
  all_goals((try apply vM);(try simp only[vq]at*);try omega)
  all_goals(try omega)
  have e3:(CL.strs (ake c s.data.toList)).sub 0 (ake c s.data.toList).length=.strs (dD c s):=congrArg CL.strs (bP rfl);rw[List.append_nil,e3];exact Sup.of rfl
def ahx:PSp:=fun xs K=>match xs with
 | [.str s,.int .u8 c]=>VC (s.size≤1000000∧0≤c∧c≤255)∧K (.isl (.strs (dD (UInt8.ofNat c.toNat) s)) .none)
 |_=>False
theorem ahY:POK Tryz.prog 116 ahx:=by
 intro xs K hk;unfold ahx at hk;split at hk
 ·rename_i s c
  obtain⟨⟨h1,h2,h3⟩,hk⟩:=hk;have e:((UInt8.ofNat c.toNat).toNat:Int)=c:=by rw[UInt8.toNat_ofNat'];omega
  have h:=aiw s (UInt8.ofNat c.toNat) h1;rw[e]at h;exact⟨_,hk,h⟩
 ·exact hk.elim
def ahv (s:ByteArray) (sg:Bool):ByteArray:=if sg=true∧1<s.size∧s.data.getD 0 0=45∧s.data.getD 1 0≠48 then s.extract 1 s.size else s
def ahN (s:ByteArray) (sg:Bool):Int:=if sg=true∧1<s.size∧s.data.getD 0 0=45∧s.data.getD 1 0≠48 then-1 else 1
def TS (z:ByteArray) (k:Nat):Int:=(z.data.toList.take k).foldl (fun n b=>10*n+((b.toNat:Int)-48)) 0
def isD (b:UInt8):Prop:=48≤b.toNat∧b.toNat≤57
instance (b:UInt8):Decidable (isD b):=by unfold isD;infer_instance
def okS (z:ByteArray):Prop:=(0<z.size∧z.size≤9)∧¬(z.data.getD 0 0=48∧1<z.size)∧∀i,i<z.size→isD (z.data.getD i 0)
noncomputable instance (z:ByteArray):Decidable (okS z):=agS _
noncomputable def aho (s:ByteArray) (sg:Bool):Option Int:=if okS (ahv s sg)then some (ahN s sg*TS (ahv s sg) (ahv s sg).size)else none
def ahO:Option Int→PV:=fun o=>match o with
 |some n=>.tup [.int .i64 n,.bool true]
 |none=>.tup [.int .i64 0,.bool false]
theorem ahp {z:ByteArray} {k:Nat} (h:k<z.size):TS z (k+1)=10*TS z k+(((z.data.getD k 0).toNat:Int)-48):=by
 have hl:z.data.toList.length=z.size:=by rw[aeO];rfl
 have hd:z.data.toList[k]? =some (z.data.getD k 0):=by
  rw[aev (by omega)]
  have:k<z.data.size:=h;unfold ako;rw[dif_pos this];rfl
 unfold TS;rw[af3,hd,akq,agq];rfl
theorem ahP {z:ByteArray}:∀k,k≤z.size→(∀i,i<k→isD (z.data.getD i 0))→0≤TS z k∧TS z k<10 ^ k:=by
 intro k;induction k with
 |zero=>intro _ _;exact⟨aki 0,(by decide:(0:Int)<1)⟩
 |succ k ih=>
  intro hk h;have h1:=ih (by omega) fun i hi=>h i (by omega)
  have h2:48≤(z.data.getD k 0).toNat∧(z.data.getD k 0).toNat≤57:=h k (by omega)
  rw[ahp (by omega),Int.pow_succ]
  omega
theorem ajh {k:Nat} (h:k≤9):(10:Int) ^ k≤1000000000:=by
 match k,h with
 |0,_=>decide
 |1,_=>decide
 |2,_=>decide
 |3,_=>decide
 |4,_=>decide
 |5,_=>decide
 |6,_=>decide
 |7,_=>decide
 |8,_=>decide
 |9,_=>decide
theorem ain (n:Int):Sup (bF [PV.int .i64 n,PV.bool true]) (ahO (some n)):=by all_goals(refine Sup.via ?_;repeat'((conv=>whnf);first|intro _|apply aI|with_reducible exact vM rfl|exact⟨⟩|apply nM|apply fM);all_goals((try apply vM);(try simp only[vq]at*);try omega);all_goals(try(simp[CL.sub];done)))
theorem ajP:Sup (bF [PV.int .i64 0,PV.bool false]) (ahO none):=by all_goals(refine Sup.via ?_;repeat'((conv=>whnf);first|intro _|apply aI|with_reducible exact vM rfl|exact⟨⟩|apply nM|apply fM);all_goals((try apply vM);(try simp only[vq]at*);try omega);all_goals(try(simp[CL.sub];done)))
theorem ahZ (s:ByteArray) (sg:Bool) (hs:s.size≤1000000):aF Tryz.prog 163 [.str s,.bp sg] (ahO (aho s sg)):=by
 obtain⟨z,hz⟩:∃z,ahv s sg=z:=⟨_,rfl⟩;obtain⟨q,hq⟩:∃q,ahN s sg=q:=⟨_,rfl⟩;have hno:¬okS z→Sup (bF [PV.int IntKind.i64 0,PV.bool false]) (ahO (aho s sg)):=fun h=>by
  unfold aho;rw[hz,if_neg h];exact ajP
 have hbad:(z.size=0∨9<z.size∨((z.data.getD (agt 0) 0).toNat=48∧1<z.size))→Sup (bF [PV.int IntKind.i64 0,PV.bool false]) (ahO (aho s sg)):=fun h=>hno fun⟨a,b,c⟩=>by
  rcases h with h|h|h
  ·omega
  ·omega
  ·exact b ⟨UInt8.toNat_inj.1 h.1,h.2⟩
 have hbd:∀i,i<z.size→¬isD (z.data.getD i 0)→Sup (bF [PV.int IntKind.i64 0,PV.bool false]) (ahO (aho s sg)):=fun i hi h=>hno fun⟨a,b,c⟩=>h (c i hi);have hok':(0<z.size∧z.size≤9)→¬((z.data.getD (agt 0) 0).toNat=48∧1<z.size)→(∀j,j<z.size→isD (z.data.getD j 0))→aho s sg=some (q*TS z z.size):=fun h1 h2 h3=>by
  unfold aho;rw[hz,hq,if_pos ⟨h1,fun h=>h2 ⟨by rw[show(z.data.getD (agt 0) 0)=z.data.getD 0 0 from rfl,h.1];rfl,h.2⟩,h3⟩]
 have hext:(s.extract 1 s.size).size=s.size-1:=by rw[ByteArray.size_extract];omega
 by_cases h1:sg=true∧1<s.size∧s.data.getD 0 0=45∧s.data.getD 1 0≠48
 ·have ez:s.extract (agt 1) s.size=z:=by unfold ahv at hz;rw[if_pos h1]at hz;exact hz
  have eq:q= -1:=by unfold ahN at hq;rw[if_pos h1]at hq;exact hq.symm
  have hzs:z.size=s.size-1:=by rw[←ez];exact hext
  obtain⟨rfl,a1,a2,a3⟩:=h1;have a2':((s.data.getD (agt 0) 0).toNat:Int)=45:=by rw[show s.data.getD (agt 0) 0=s.data.getD 0 0 from rfl,a2];rfl
  have a3':((s.data.getD (agt 1) 0).toNat:Int)≠48:=fun e=>a3 (UInt8.toNat_inj.1 (Int.ofNat.inj e));subst eq;clear hext hno hz hq a2 a3;refine av (md:=1) (rf:=[]) mixed ak aD Tryz.func163 (by rfl) (by rfl) (by rfl) ?_
  repeat'((conv=>whnf);first|(intro hq;(try simp only[vw]at hq);try first|exact absurd hq (by decide)|exfalso;omega)|apply aI|with_reducible exact vM rfl|exact⟨⟩|apply nM|apply fM)
  all_goals((try apply vM);(try simp only[vq]at*);try omega)
  all_goals(try simp only[ez]at*)
  all_goals(try exact hbad (by omega))
  all_goals have hok:=hok' (by omega) (by omega)
  all_goals(try exact hbad (by omega))
  all_goals
   conv=>whnf
   refine aM (X:=Nat) (fun i=>i≤z.size∧∀j,j<i→isD (z.data.getD j 0)) (fun i=>[(8,.int .i64 i),(7,.int .i64 (TS z i))]) (fun i=>[]) (fun i=>z.size-i) 0 ⟨aK,mixed,ak,aD,aQ⟩ (by rfl) ⟨by omega,fun j hj=>by omega⟩ ?_ ?_
   ·repeat'((conv=>whnf);first|intro _|apply aI|with_reducible exact vM rfl|exact⟨⟩|apply nM|apply fM)
    all_goals((try apply vM);(try simp only[vq]at*);try omega)
    all_goals rfl
   intro i ⟨hi,hall⟩;have hv:=ahP i hi hall;have hp:=ajh (k:=i) (by omega)
   by_cases hlt:i<z.size
   ·have hvs:=ahp hlt
    have hbi:=hbd i hlt;unfold isD at hbi
    repeat'((conv=>whnf);first|(intro hq;(try simp only[vw]at hq);try first|exact absurd hq (by decide)|exfalso;omega)|apply aI|with_reducible exact vM rfl|exact⟨⟩|apply nM|apply fM)
    all_goals((try apply vM);(try simp only[vq]at*);try omega)
    all_goals(try first|omega|exact hbi (by omega))
    all_goals refine⟨i+1,[],⟨⟨by omega,fun j hj=>?_⟩,by omega⟩,?_⟩
    all_goals(try(by_cases e:j=i;(subst e;unfold isD;omega);exact hall j (by omega);done))
    all_goals rw[hvs]
    all_goals repeat'((conv=>whnf);first|intro _|apply aI|with_reducible exact vM rfl|exact⟨⟩|apply nM|apply fM)
    all_goals all_goals((try apply vM);(try simp only[vq]at*);try omega)
    all_goals(try omega)
   ·have:i=z.size:=by omega
    subst this;have hval:=hok hall
    repeat'((conv=>whnf);first|(intro hq;(try simp only[vw]at hq);try first|exact absurd hq (by decide)|exfalso;omega)|apply aI|with_reducible exact vM rfl|exact⟨⟩|apply nM|apply fM)
    all_goals((try apply vM);(try simp only[vq]at*);try omega)
    all_goals(try first|omega|(rw[hval];exact ain _))
  all_goals skip
 ·have ez:s=z:=by unfold ahv at hz;rw[if_neg h1]at hz;exact hz
  have eq:q=1:=by unfold ahN at hq;rw[if_neg h1]at hq;exact hq.symm
  subst eq ez;clear hext hno hz hq;cases sg with
  |false=>
   refine av (md:=1) (rf:=[]) mixed ak aD Tryz.func163 (by rfl) (by rfl) (by rfl) ?_
   repeat'((conv=>whnf);first|(intro hq;(try simp only[vw]at hq);try first|exact absurd hq (by decide)|exfalso;omega)|apply aI|with_reducible exact vM rfl|exact⟨⟩|apply nM|apply fM)
   all_goals((try apply vM);(try simp only[vq]at*);try omega)
   all_goals(try exact hbad (by omega))
   all_goals have hok:=hok' (by omega) (by omega)
   all_goals(try exact hbad (by omega))
   all_goals
    conv=>whnf
    refine aM (X:=Nat) (fun i=>i≤s.size∧∀j,j<i→isD (s.data.getD j 0)) (fun i=>[(8,.int .i64 i),(7,.int .i64 (TS s i))]) (fun i=>[]) (fun i=>s.size-i) 0 ⟨aK,mixed,ak,aD,aQ⟩ (by rfl) ⟨by omega,fun j hj=>by omega⟩ ?_ ?_
    ·repeat'((conv=>whnf);first|intro _|apply aI|with_reducible exact vM rfl|exact⟨⟩|apply nM|apply fM)
     all_goals((try apply vM);(try simp only[vq]at*);try omega)
     all_goals rfl
    intro i ⟨hi,hall⟩;have hv:=ahP i hi hall;have hp:=ajh (k:=i) (by omega)
    by_cases hlt:i<s.size
    ·have hvs:=ahp hlt
     have hbi:=hbd i hlt;unfold isD at hbi
     repeat'((conv=>whnf);first|(intro hq;(try simp only[vw]at hq);try first|exact absurd hq (by decide)|exfalso;omega)|apply aI|with_reducible exact vM rfl|exact⟨⟩|apply nM|apply fM)
     all_goals((try apply vM);(try simp only[vq]at*);try omega)
     all_goals(try first|omega|exact hbi (by omega))
     all_goals refine⟨i+1,[],⟨⟨by omega,fun j hj=>?_⟩,by omega⟩,?_⟩
     all_goals(try(by_cases e:j=i;(subst e;unfold isD;omega);exact hall j (by omega);done))
     all_goals rw[hvs]
     all_goals repeat'((conv=>whnf);first|intro _|apply aI|with_reducible exact vM rfl|exact⟨⟩|apply nM|apply fM)
     all_goals all_goals((try apply vM);(try simp only[vq]at*);try omega)
     all_goals(try omega)
    ·have:i=s.size:=by omega
     subst this;have hval:=hok hall
     repeat'((conv=>whnf);first|(intro hq;(try simp only[vw]at hq);try first|exact absurd hq (by decide)|exfalso;omega)|apply aI|with_reducible exact vM rfl|exact⟨⟩|apply nM|apply fM)
     all_goals((try apply vM);(try simp only[vq]at*);try omega)
     all_goals(try first|omega|(rw[hval];exact ain _))
   all_goals skip
  |true=>
   have h1':¬(1<(s.size:Int)∧((s.data.getD (agt 0) 0).toNat:Int)=45∧((s.data.getD (agt 1) 0).toNat:Int)≠48):=fun⟨b1,b2,b3⟩=>h1 ⟨rfl,by omega,UInt8.toNat_inj.1 (Int.ofNat.inj b2),fun e=>b3 (by rw[show s.data.getD (agt 1) 0=s.data.getD 1 0 from rfl,e];rfl)⟩
   refine av (md:=1) (rf:=[]) mixed ak aD Tryz.func163 (by rfl) (by rfl) (by rfl) ?_
   repeat'((conv=>whnf);first|(intro hq;(try simp only[vw]at hq);try first|exact absurd hq (by decide)|exfalso;omega)|apply aI|with_reducible exact vM rfl|exact⟨⟩|apply nM|apply fM)
   all_goals((try apply vM);(try simp only[vq]at*);try omega)
   all_goals(try(exfalso;omega))
   all_goals(try exact hbad (by omega))
   all_goals have hok:=hok' (by omega) (by omega)
   all_goals(try exact hbad (by omega))
   all_goals
    conv=>whnf
    refine aM (X:=Nat) (fun i=>i≤s.size∧∀j,j<i→isD (s.data.getD j 0)) (fun i=>[(8,.int .i64 i),(7,.int .i64 (TS s i))]) (fun i=>[]) (fun i=>s.size-i) 0 ⟨aK,mixed,ak,aD,aQ⟩ (by rfl) ⟨by omega,fun j hj=>by omega⟩ ?_ ?_
    ·repeat'((conv=>whnf);first|intro _|apply aI|with_reducible exact vM rfl|exact⟨⟩|apply nM|apply fM)
     all_goals((try apply vM);(try simp only[vq]at*);try omega)
     all_goals rfl
    intro i ⟨hi,hall⟩;have hv:=ahP i hi hall;have hp:=ajh (k:=i) (by omega)
    by_cases hlt:i<s.size
    ·have hvs:=ahp hlt
     have hbi:=hbd i hlt;unfold isD at hbi
     repeat'((conv=>whnf);first|(intro hq;(try simp only[vw]at hq);try first|exact absurd hq (by decide)|exfalso;omega)|apply aI|with_reducible exact vM rfl|exact⟨⟩|apply nM|apply fM)
     all_goals((try apply vM);(try simp only[vq]at*);try omega)
     all_goals(try first|omega|exact hbi (by omega))
     all_goals refine⟨i+1,[],⟨⟨by omega,fun j hj=>?_⟩,by omega⟩,?_⟩
     all_goals(try(by_cases e:j=i;(subst e;unfold isD;omega);exact hall j (by omega);done))
     all_goals rw[hvs]
     all_goals repeat'((conv=>whnf);first|intro _|apply aI|with_reducible exact vM rfl|exact⟨⟩|apply nM|apply fM)
     all_goals all_goals((try apply vM);(try simp only[vq]at*);try omega)
     all_goals(try omega)
    ·have:i=s.size:=by omega
     subst this;have hval:=hok hall
     repeat'((conv=>whnf);first|(intro hq;(try simp only[vw]at hq);try first|exact absurd hq (by decide)|exfalso;omega)|apply aI|with_reducible exact vM rfl|exact⟨⟩|apply nM|apply fM)
     all_goals((try apply vM);(try simp only[vq]at*);try omega)
     all_goals(try first|omega|(rw[hval];exact ain _))
   all_goals skip
theorem dz (z:ByteArray):z.data.toList.length=z.size:=by rw[aeO];rfl
theorem eG {z:ByteArray} {i:Nat} (h:i<z.size):z.data.toList[i]? =some (z.data.getD i 0):=by
 rw[aev (by rw[dz];exact h)]
 have:i<z.data.size:=h;unfold ako;rw[dif_pos this];rfl
theorem aiz {z:ByteArray} {b:UInt8}:b∈z.data.toList↔∃i,i<z.size∧z.data.getD i 0=b:=by
 constructor
 ·intro h
  obtain⟨i,hi,e⟩:=List.getElem_of_mem h;rw[dz]at hi;have:=eG hi;rw[aev (by rw[dz];exact hi),e]at this
  exact⟨i,hi,(Option.some.inj this).symm⟩
 ·rintro⟨i,hi,rfl⟩
  exact List.mem_of_getElem? (eG hi)
theorem ahy {z:ByteArray}:okS z↔Az z:=by
 constructor
 ·rintro⟨⟨h1,h2⟩,h3,h4⟩
  refine⟨⟨h1,h2,?_⟩,?_⟩
  ·by_cases e:z.size=1
   ·exact .inl e
   ·refine .inr fun e2=>h3 ⟨UInt8.toNat_inj.1 (Int.ofNat.inj e2),by omega⟩
  ·rw[afI]
   intro x hx;unfold dB at hx;obtain⟨b,hb,rfl⟩:=agQ.1 hx;obtain⟨i,hi,rfl⟩:=aiz.1 hb;have:=h4 i hi;unfold isD at this;unfold dgI;rw[decide_eq_true (by omega),decide_eq_true (by omega)];rfl
 ·rintro h
  have hd:=Yi h;obtain⟨⟨h1,h2,h3⟩,_⟩:=h;refine⟨⟨h1,h2⟩,?_,fun i hi=>hd.2 _ (aiz.2 ⟨i,hi,rfl⟩)⟩
  rintro⟨a,b⟩
  rcases h3 with h3|h3
  ·omega
  ·exact h3 (by rw[a];rfl)
def ahQ (l:List UInt8) (a:Int):Int:=l.foldl (fun n b=>10*n+((b.toNat:Int)-48)) a
theorem aix:∀(l:List UInt8) (a:Nat),(∀b∈l,48≤b.toNat∧b.toNat≤57)→∃n:Nat,Go.Lib.decFrom a l=some n∧(n:Int)=ahQ l a:=by
 intro l;induction l with
 |nil=>intro a _;exact⟨a,rfl,rfl⟩
 |cons b r ih=>
  intro a h;have hb:=h b (by simp)
  obtain⟨n,h1,h2⟩:=ih (a*10+(b.toNat-48)) fun x hx=>h x (by simp[hx])
  refine⟨n,?_,?_⟩
  ·unfold Go.Lib.decFrom Go.Lib.digitVal
   rw[if_pos (by simpa using hb)]
   exact h1
  ·rw[h2]
   unfold ahQ;rw[akh];refine congrArg (fun x=>r.foldl _ x) ?_;omega
theorem ahE {l:List UInt8} (hl:l≠[]) (h:∀b∈l,48≤b.toNat∧b.toNat≤57):∃n:Nat,Go.Lib.decNat l=some n∧(n:Int)=ahQ l 0:=by
 unfold Go.Lib.decNat;rw[if_neg (by simpa using hl)]
 exact aix l 0 h
theorem aio (z:ByteArray):TS z z.size=ahQ z.data.toList 0:=by
 unfold TS ahQ;rw[←dz,af5]
theorem aiA (s:ByteArray):preB s kMi=true↔0<s.size∧s.data.getD 0 0=45:=by
 unfold preB Go.Lib.hasPrefix;have hl:=dz s;have ha:∀h:0<s.size,s.data.toList[0]? =some (s.data.getD 0 0):=fun h=>eG h;generalize s.data.toList=L at hl ha
 cases L with
 |nil=>simp at hl;simp[agT];omega
 |cons b r=>
  have h0:0<s.size:=by simp at hl;omega
  have:=Option.some.inj (ha h0);show(agT [45] (b::r))=true↔_;simp[agT,←this,h0];exact eq_comm
theorem ajQ {s:ByteArray} (h:preB s kMi=false):jZ s kMi=s:=by
 unfold preB at h;unfold jZ Go.Lib.trimPrefix;rw[h];rfl
theorem ajA {s:ByteArray} (h:preB s kMi=true):jZ s kMi=s.extract 1 s.size:=by
 unfold preB at h;unfold jZ Go.Lib.trimPrefix;rw[if_pos h];apply ByteArray.ext;rw[ByteArray.data_extract];apply akm;show s.data.toList.drop 1=_;rw[akr];show _=List.take (s.size-1) (s.data.toList.drop 1);rw[akp];rw[agV,dz];omega
theorem aip {s:ByteArray} (h:preB s kMi=true):(jZ s kMi).data.toList=s.data.toList.drop 1:=by
 unfold preB at h;unfold jZ Go.Lib.trimPrefix;rw[if_pos h];rfl
theorem ajB (s:ByteArray) (sg:Bool):aho s sg=fI s sg:=by
 unfold fI aho;by_cases h1:sg=true∧1<s.size∧s.data.getD 0 0=45∧s.data.getD 1 0≠48
 ·have hp:preB s kMi=true:=(aiA s).2 ⟨by omega,h1.2.2.1⟩
  have ec:=ajA hp;have el:=aip hp;have akf:ahv s sg=s.extract 1 s.size:=if_pos h1;have es:ahN s sg= -1:=if_pos h1;have e0:=eG (z:=s) (i:=0) (by omega)
  have e1:=eG (z:=s) (i:=1) h1.2.1;rw[h1.2.2.1]at e0;have eL:s.data.toList=45::s.data.toList.drop 1:=by
   generalize s.data.toList=L at e0
   cases L with
   |nil=>simp at e0
   |cons b r=>simp at e0;rw[e0];rfl
  rw[akf,es,←ec];by_cases hd:Az (jZ s kMi)
  ·have hnb:¬Mt s sg:=fun⟨_,b⟩=>by
    rcases b with b|b
    ·rw[h1.1]at b;cases b
    ·rw[b]at el
     rw[eL,←el]at e1;exact h1.2.2.2 (Option.some.inj e1).symm
   have hda:=Yi hd;rw[if_pos (ahy.2 hd),if_pos ⟨hd,hnb⟩,aio];rw[el]at hda;obtain⟨n,n1,n2⟩:=ahE hda.1 hda.2;rw[eL,el];show some (-1*ahQ (agI 1 s.data.toList) 0)=Option.map (fun m:Nat=> -(m:Int)) (Go.Lib.decNat (agI 1 s.data.toList));rw[n1,←n2];show some (-1*(n:Int))=some (-(n:Int));congr 1;omega
  ·rw[if_neg (fun h=>hd (ahy.1 h)),if_neg (fun h=>hd h.1)]
 ·have akf:ahv s sg=s:=if_neg h1
  have es:ahN s sg=1:=if_neg h1;rw[akf,es];by_cases hp:preB s kMi=true
  ·have hp2:=(aiA s).1 hp
   have n1:¬okS s:=fun h=>by
    have:=h.2.2 0 hp2.1;rw[hp2.2]at this;exact absurd this (by decide)
   rw[if_neg n1,if_neg]
   rintro⟨hd,hb⟩
   have hsg:sg=true:=by
    cases sg with
    |true=>rfl
    |false=>exact absurd ⟨hp,.inl rfl⟩ hb
   have hda:=Yi hd;have el:=aip hp;have hsz:1<s.size:=by
    rcases Nat.lt_or_ge 1 s.size with h|h
    ·exact h
    ·exfalso
     refine hda.1 ?_;rw[el,List.drop_eq_nil_iff,dz];exact h
   have h48:s.data.getD 1 0=48:=by
    by_cases e:s.data.getD 1 0=48
    ·exact e
    ·exact absurd ⟨hsg,hsz,hp2.2,e⟩ h1
   have e1:=eG (z:=s) (i:=1) hsz;rw[h48]at e1;have hz0:0<(jZ s kMi).size:=hd.1.n0;have e2:=eG hz0;rw[el,aks,e1]at e2;have e3:=(Option.some.inj e2).symm;rcases hd.1.z0 with z1|z1
   ·refine hb ⟨hp,.inr ?_⟩
    apply ByteArray.ext;apply akm;have hl:=dz (jZ s kMi);have e4:=eG hz0;rw[e3]at e4;generalize(jZ s kMi).data.toList=M at hl e4⊢
    match M,hl with
    | [x],_=>simp at e4;rw[e4]
    | [],hl=>simp at hl;omega
    |x::y::r,hl=>simp at hl;omega
   ·exact z1 (by rw[e3];rfl)
  ·have hp:preB s kMi=false:=by simpa using hp
   rw[ajQ hp];have hnb:¬Mt s sg:=fun⟨b,_⟩=>by rw[hp]at b;cases b
   by_cases hd:Az s
   ·have hda:=Yi hd
    obtain⟨n,n1,n2⟩:=ahE hda.1 hda.2;rw[if_pos (ahy.2 hd),if_pos ⟨hd,hnb⟩,aio,←n2];cases hL:s.data.toList with
    |nil=>exact absurd hL hda.1
    |cons b r=>
     have hb:=hda.2 b (by rw[hL];simp)
     rw[hL]at n1;unfold Go.Lib.atoi;have b1:(b==45)=false:=by rw[beq_eq_false_iff_ne];rintro rfl;exact absurd hb (by decide)
     have b2:(b==43)=false:=by rw[beq_eq_false_iff_ne];rintro rfl;exact absurd hb (by decide)
     simp only[b1,b2,Bool.false_eq_true,if_false];rw[n1];show some (1*(n:Int))=some (n:Int);congr 1;omega
   ·rw[if_neg (fun h=>hd (ahy.1 h)),if_neg (fun h=>hd h.1)]
def aiR:PSp:=fun xs K=>match xs with
 | [.str s,.bp sg]=>VC (s.size≤1000000)∧((VC (fI s sg=none)→K (.tup [.int .i64 0,.bool false]))∧∀n,VC (fI s sg=some n)→K (.tup [.int .i64 n,.bool true]))
 |_=>False
theorem ajC:POK Tryz.prog 163 aiR:=by
 intro xs K hk;unfold aiR at hk;split at hk
 ·obtain⟨⟨h⟩,h1,h2⟩:=hk
  have hs:=ahZ _ ‹Bool› h;rw[ajB]at hs;refine⟨_,?_,hs⟩;cases e:fI _ _ with
  |none=>exact h1 ⟨e⟩
  |some n=>exact h2 n ⟨e⟩
 ·exact hk.elim
noncomputable def dw (s w:ByteArray) (m:Int):Option (List Int):=if 0≤m∧((dD 32 s).length:Int)≠m+1 then none else bZ s w
def ah9 (o:Option (List Int)):PV:=match o with
 |none=>.tup [.nils,.bool false]
 |some l=>.tup [.isl (.ints .i64 l) .none,.bool true]
theorem Jd:Sup (bF [PV.nils,PV.bool false]) (ah9 none):=by all_goals(refine Sup.via ?_;repeat'((conv=>whnf);first|intro _|apply aI|with_reducible exact vM rfl|exact⟨⟩|apply nM|apply fM);all_goals((try apply vM);(try simp only[vq]at*);try omega);all_goals(try(simp[CL.sub];done)))
theorem aiB (l:List Int):Sup (bF [PV.isl (.ints .i64 l) .none,PV.bool true]) (ah9 (some l)):=by all_goals(refine Sup.via ?_;repeat'((conv=>whnf);first|intro _|apply aI|with_reducible exact vM rfl|exact⟨⟩|apply nM|apply fM);all_goals((try apply vM);(try simp only[vq]at*);try omega);all_goals(try(simp[CL.sub];done)))
theorem aiC:Sup (bF [PV.nils,PV.bool true]) (ah9 (some [])):=by all_goals(refine Sup.via ?_;repeat'((conv=>whnf);first|intro _|apply aI|with_reducible exact vM rfl|exact⟨⟩|apply nM|apply fM);all_goals((try apply vM);(try simp only[vq]at*);try omega);all_goals(try(simp[CL.sub];done)))
noncomputable def aj7:CPT:=aA 116 (aB ahx) (aA 163 (aB aiR) noC)
theorem ahr:aW Tryz.prog aj7:=aj (au ahY) (aj (au ajC) aD)
theorem aiS (s w:ByteArray) (m:Int) (hs:s.size≤1000000) (hm:m≤1000000):aF Tryz.prog 117 [.str s,.str w,.int .i64 m] (ah9 (dw s w m)):=by
 have hl:=yc 32 s;have hz:∀j,j<(dD 32 s).length→((dD 32 s).getD j .empty).size≤1000000:=fun j hj=>Nat.le_trans (Ch (uS hj)) hs;obtain⟨W,hW⟩:∃W,dD 32 s=W:=⟨_,rfl⟩;have hu:dD (UInt8.ofNat (agt 32)) s=W:=hW;rw[hW]at hl hz;by_cases hmm:0≤m∧(W.length:Int)≠m+1
 ·rw[show dw s w m=none by unfold dw;rw[hW,if_pos hmm]]
  refine av (md:=1) (rf:=[]) mixed ak ahr Tryz.func117 (by rfl) (by rfl) (by rfl) ?_
  repeat'((conv=>whnf);first|(intro hq;(try simp only[vw]at hq);try first|exact absurd hq (by decide)|exfalso;omega)|apply aI|with_reducible exact vM rfl|exact⟨⟩|apply nM|apply fM)
  all_goals((try apply vM);(try simp only[vq]at*);try omega)
  all_goals(try rw[hu]at*)
  all_goals(try first|omega|exact Jd|(exfalso;omega))
  all_goals skip
 by_cases hw:W.getD 0 .empty=w
 case neg=>
  rw[show dw s w m=none by unfold dw bZ;rw[hW,if_neg hmm,if_neg (fun e=>hw e.1)]]
  refine av (md:=1) (rf:=[]) mixed ak ahr Tryz.func117 (by rfl) (by rfl) (by rfl) ?_
  repeat'((conv=>whnf);first|(intro hq;(try simp only[vw]at hq);try first|exact absurd hq (by decide)|exfalso;omega)|apply aI|with_reducible exact vM rfl|exact⟨⟩|apply nM|apply fM)
  all_goals((try apply vM);(try simp only[vq]at*);try omega)
  all_goals(try rw[hu]at*)
  all_goals(try first|omega|exact Jd|(exfalso;omega)|(exfalso;contradiction))
  all_goals skip
 obtain⟨sg,hsg⟩:∃sg,decide (w=iY)=sg:=⟨_,rfl⟩;have hdr:∀j,(W.drop 1).getD j .empty=W.getD (1+j) .empty:=fun j=>by simp[aeo,aks,Nat.add_comm]
 have hno:∀j,1≤j→j<W.length→fI (W.getD j .empty) sg=none→dw s w m=none:=fun j h1 hj e=>by
  unfold dw bZ;rw[hW,if_neg hmm,hsg,if_neg]
  rintro⟨_,h⟩
  have:=h (j-1) (by rw[agV];omega)
  rw[hdr,show 1+(j-1)=j by omega,e]at this
  exact absurd this (by decide)
 have hyes:(∀j,1≤j→j<W.length→(fI (W.getD j .empty) sg).isSome=true)→dw s w m=some (numsL sg (W.drop 1)):=fun h=>by
  have hk:okW sg (W.drop 1):=fun j hj=>by
   rw[agV]at hj;have:=h (1+j) (by omega) (by omega)
   rw[←hdr]at this;exact this
  unfold dw bZ;rw[hW,if_neg hmm,hsg,if_pos ⟨hw,hk⟩]
 obtain⟨akg,hnL⟩:∃akg:Nat→List Int,akg=fun i=>numsL sg ((W.drop 1).take (i-1)):=⟨_,rfl⟩;have nll:∀i,1≤i→i≤W.length→(akg i).length=i-1:=fun i h1 h=>by rw[hnL];simp only[numsL,af0,ae0,agV];omega
 have nls:∀i n,1≤i→i<W.length→fI (W.getD i .empty) sg=some n→akg (i+1)=akg i++[n]:=fun i n h1 hi e=>by
  rw[hnL];simp only[numsL];rw[show i+1-1=(i-1)+1 by omega,af3,af4]
  have:(W.drop 1)[i-1]? =some (W.getD i .empty):=by
   rw[aks,show 1+(i-1)=i by omega,aeo,aev hi];rfl
  rw[this,akq,aen,e];rfl
 have nl1:akg 1=[]:=by rw[hnL];simp[numsL]
 have nle:akg W.length=numsL sg (W.drop 1):=by rw[hnL];simp only[];rw[akp (by rw[agV];exact aea _)]
 refine av (md:=1) (rf:=[]) mixed ak ahr Tryz.func117 (by rfl) (by rfl) (by rfl) ?_
 repeat'((conv=>whnf);first|(intro hq;(try simp only[vw]at hq);try first|exact absurd hq (by decide)|exfalso;omega)|apply aI|with_reducible exact vM rfl|exact⟨⟩|apply nM|apply fM)
 all_goals((try apply vM);(try simp only[vq]at*);try omega)
 all_goals(try rw[hu]at*)
 all_goals(try first|omega|exact Jd|(exfalso;omega)|(exfalso;contradiction))
 ·skip
  conv=>whnf
  refine xw (X:=Nat) (fun i=>2≤i∧i≤W.length∧∀j,1≤j→j<i→(fI (W.getD j .empty) sg).isSome=true) (fun i=>[(10,.int .i64 i),(9,.isl (.ints .i64 (akg i)) (.own 5)),(37,.any)]) (fun i=>[(5,.tok 1 (i-1))]) (fun i=>W.length-i) W.length ⟨aK,mixed,ak,ahr,aQ⟩ (by rfl) ?_ ?_
  ·by_cases h1:1<W.length
   ·have hz1:(W.getD (agt 1) .empty).size≤1000000:=hz 1 h1
    have hno1:fI (W.getD (agt 1) .empty) sg=none→dw s w m=none:=hno 1 (aea _) h1
    repeat'((conv=>whnf);first|(intro hq;(try simp only[vw]at hq);try first|exact absurd hq (by decide)|exfalso;omega)|apply aI|with_reducible exact vM rfl|exact⟨⟩|apply nM|apply fM)
    all_goals((try apply vM);(try simp only[vq]at*);try omega)
    all_goals(try rw[hsg]at*)
    all_goals(try first|omega|exact hz1|(rw[hno1 hq.get];exact Jd))
    rename_i n;have hqg:fI (W.getD 1 .empty) sg=some n:=hq.get;refine⟨2,[(9,5)],⟨⟨by omega,by omega,fun j h2 h3=>?_⟩,by omega⟩,?_⟩
    ·rw[show j=1 by omega,hqg];rfl
    rw[nls 1 n (aea _) h1 hqg,nl1]
    repeat'((conv=>whnf);first|intro _|apply aI|with_reducible exact vM rfl|exact⟨⟩|apply nM|apply fM)
    all_goals((try apply vM);(try simp only[vq]at*);try omega)
    all_goals skip
   ·have hd:W.drop 1=[]:=akt (by omega)
    have hy:=hyes fun j a b=>by omega
    rw[hd]at hy
    repeat'((conv=>whnf);first|(intro hq;(try simp only[vw]at hq);try first|exact absurd hq (by decide)|exfalso;omega)|apply aI|with_reducible exact vM rfl|exact⟨⟩|apply nM|apply fM)
    all_goals((try apply vM);(try simp only[vq]at*);try omega)
    all_goals(try first|omega|(rw[hy];exact aiC))
  ·intro i ⟨hi2,hi,hS⟩
   have hli:=nll i (by omega) hi
   by_cases hlt:i<W.length
   ·have hz1:=hz i hlt
    have hno1:=hno i (by omega) hlt
    repeat'((conv=>whnf);first|(intro hq;(try simp only[vw]at hq);try first|exact absurd hq (by decide)|exfalso;omega)|apply aI|with_reducible exact vM rfl|exact⟨⟩|apply nM|apply fM)
    all_goals((try apply vM);(try simp only[vq]at*);try omega)
    all_goals(try rw[hsg]at*)
    all_goals(try first|omega|exact hz1|(rw[hno1 hq.get];exact Jd)|(rw[afu,ad4,adY,hli];omega))
    rename_i n;refine⟨i+1,[],⟨⟨by omega,by omega,fun j h2 h3=>?_⟩,by omega⟩,?_⟩
    ·by_cases e:j=i
     ·rw[e,hq.get];rfl
     ·exact hS j h2 (by omega)
    rw[nls i n (by omega) hlt hq.get,show i+1-1=i-1+1 by omega]
    repeat'((conv=>whnf);first|intro _|apply aI|with_reducible exact vM rfl|exact⟨⟩|apply nM|apply fM)
    all_goals((try apply vM);(try simp only[vq]at*);try omega)
    all_goals skip
   ·have:i=W.length:=by omega
    subst this;have hy:=hyes hS;rw[←nle]at hy
    repeat'((conv=>whnf);first|(intro hq;(try simp only[vw]at hq);try first|exact absurd hq (by decide)|exfalso;omega)|apply aI|with_reducible exact vM rfl|exact⟨⟩|apply nM|apply fM)
    all_goals((try apply vM);(try simp only[vq]at*);try omega)
    all_goals(try first|omega|(rw[hy];exact aiB _))
 ·skip
  conv=>whnf
  refine xw (X:=Nat) (fun i=>2≤i∧i≤W.length∧∀j,1≤j→j<i→(fI (W.getD j .empty) sg).isSome=true) (fun i=>[(10,.int .i64 i),(9,.isl (.ints .i64 (akg i)) (.own 5)),(37,.any)]) (fun i=>[(5,.tok 1 (i-1))]) (fun i=>W.length-i) W.length ⟨aK,mixed,ak,ahr,aQ⟩ (by rfl) ?_ ?_
  ·by_cases h1:1<W.length
   ·have hz1:(W.getD (agt 1) .empty).size≤1000000:=hz 1 h1
    have hno1:fI (W.getD (agt 1) .empty) sg=none→dw s w m=none:=hno 1 (aea _) h1
    repeat'((conv=>whnf);first|(intro hq;(try simp only[vw]at hq);try first|exact absurd hq (by decide)|exfalso;omega)|apply aI|with_reducible exact vM rfl|exact⟨⟩|apply nM|apply fM)
    all_goals((try apply vM);(try simp only[vq]at*);try omega)
    all_goals(try rw[hsg]at*)
    all_goals(try first|omega|exact hz1|(rw[hno1 hq.get];exact Jd))
    rename_i n;have hqg:fI (W.getD 1 .empty) sg=some n:=hq.get;refine⟨2,[(9,5)],⟨⟨by omega,by omega,fun j h2 h3=>?_⟩,by omega⟩,?_⟩
    ·rw[show j=1 by omega,hqg];rfl
    rw[nls 1 n (aea _) h1 hqg,nl1]
    repeat'((conv=>whnf);first|intro _|apply aI|with_reducible exact vM rfl|exact⟨⟩|apply nM|apply fM)
    all_goals((try apply vM);(try simp only[vq]at*);try omega)
    all_goals skip
   ·have hd:W.drop 1=[]:=akt (by omega)
    have hy:=hyes fun j a b=>by omega
    rw[hd]at hy
    repeat'((conv=>whnf);first|(intro hq;(try simp only[vw]at hq);try first|exact absurd hq (by decide)|exfalso;omega)|apply aI|with_reducible exact vM rfl|exact⟨⟩|apply nM|apply fM)
    all_goals((try apply vM);(try simp only[vq]at*);try omega)
    all_goals(try first|omega|(rw[hy];exact aiC))
  ·intro i ⟨hi2,hi,hS⟩
   have hli:=nll i (by omega) hi
   by_cases hlt:i<W.length
   ·have hz1:=hz i hlt
    have hno1:=hno i (by omega) hlt
    repeat'((conv=>whnf);first|(intro hq;(try simp only[vw]at hq);try first|exact absurd hq (by decide)|exfalso;omega)|apply aI|with_reducible exact vM rfl|exact⟨⟩|apply nM|apply fM)
    all_goals((try apply vM);(try simp only[vq]at*);try omega)
    all_goals(try rw[hsg]at*)
    all_goals(try first|omega|exact hz1|(rw[hno1 hq.get];exact Jd)|(rw[afu,ad4,adY,hli];omega))
    rename_i n;refine⟨i+1,[],⟨⟨by omega,by omega,fun j h2 h3=>?_⟩,by omega⟩,?_⟩
    ·by_cases e:j=i
     ·rw[e,hq.get];rfl
     ·exact hS j h2 (by omega)
    rw[nls i n (by omega) hlt hq.get,show i+1-1=i-1+1 by omega]
    repeat'((conv=>whnf);first|intro _|apply aI|with_reducible exact vM rfl|exact⟨⟩|apply nM|apply fM)
    all_goals((try apply vM);(try simp only[vq]at*);try omega)
    all_goals skip
   ·have:i=W.length:=by omega
    subst this;have hy:=hyes hS;rw[←nle]at hy
    repeat'((conv=>whnf);first|(intro hq;(try simp only[vw]at hq);try first|exact absurd hq (by decide)|exfalso;omega)|apply aI|with_reducible exact vM rfl|exact⟨⟩|apply nM|apply fM)
    all_goals((try apply vM);(try simp only[vq]at*);try omega)
    all_goals(try first|omega|(rw[hy];exact aiB _))
def aiq:PSp:=fun xs K=>match xs with
 | [.str s,.str w,.int .i64 m]=>VC (s.size≤1000000∧m≤1000000)∧((VC (dw s w m=none)→K (.tup [.nils,.bool false]))∧∀l,VC (dw s w m=some l)→K (.tup [.isl (.ints .i64 l) .none,.bool true]))
 |_=>False
theorem aji:POK Tryz.prog 117 aiq:=by
 intro xs K hk;unfold aiq at hk;split at hk
 ·obtain⟨⟨h,h'⟩,h1,h2⟩:=hk
  refine⟨_,?_,aiS _ _ _ h h'⟩;cases e:dw _ _ _ with
  |none=>exact h1 ⟨e⟩
  |some n=>exact h2 n ⟨e⟩
 ·exact hk.elim
end Go.Eng.YtcechbdgokjmgaaGreatDoor
namespace Go.Eng.YtcechbdgokjmgaaGreatDoor
open Go.Proofs Go.RowKit
set_option linter.unusedSimpArgs false
set_option linter.unusedVariables false
set_option maxHeartbeats 0
set_option maxRecDepth 100000
theorem ajl (x w:ByteArray):dw x w 1=match bZ x w with|some l=>if l.length=1 then some l else none|none=>none:=by
 have hl:=yc 32 x;unfold dw;by_cases h:((dD 32 x).length:Int)=1+1
 ·rw[if_neg (fun a=>a.2 h)]
  cases e:bZ x w with
  |none=>rfl
  |some l=>
   have:l.length=1:=by
    unfold bZ at e;split at e
    ·rw[←Option.some.inj e];unfold numsL;rw[af0,agV];omega
    ·cases e
   simp only[this,if_true]
 ·rw[if_pos ⟨by decide,h⟩]
  cases e:bZ x w with
  |none=>rfl
  |some l=>
   have:l.length≠1:=by
    unfold bZ at e;split at e
    ·rw[←Option.some.inj e];unfold numsL;rw[af0,agV];omega
    ·cases e
   simp only[this,if_false]
theorem aiT (x w:ByteArray):dw x w (-1)=bZ x w:=by
 unfold dw;rw[if_neg (fun a=>absurd a.1 (by decide))]
theorem rev_last {L:List UInt8} {n:Nat} (hl:L.length=n+1) {b:UInt8} (h:L[n]? =some b):L=L.take n++[b]:=by
 have e:L.take (n+1)=L:=akp (by omega)
 rw[af3,h]at e;exact e.symm
theorem ajD (s:ByteArray):Fg s kNl=true↔0<s.size∧s.data.getD (s.size-1) 0=10:=by
 unfold Fg Go.Lib.hasSuffix;show List.isSuffixOf [10] s.data.toList=true↔_;rw[List.isSuffixOf_iff_suffix];have hl:=dz s;constructor
 ·rintro⟨t,ht⟩
  have h0:s.size=t.length+1:=by rw[←hl,←ht];simp
  refine⟨by omega,?_⟩
  have:=eG (z:=s) (i:=s.size-1) (by omega)
  rw[←ht,show s.size-1=t.length by omega]at this
  rw[show s.size-1=t.length by omega]
  simpa using this.symm
 ·rintro⟨h0,h1⟩
  have:=eG (z:=s) (i:=s.size-1) (by omega)
  rw[h1]at this;exact⟨_,(rev_last (n:=s.size-1) (by omega) this).symm⟩
theorem ajE {s:ByteArray} (h:Fg s kNl=true):jo s kNl=s.extract 0 (s.size-1):=by
 unfold Fg at h;unfold jo Go.Lib.trimSuffix;rw[if_pos h];apply ByteArray.ext;rw[ByteArray.data_extract];apply akm;show s.data.toList.take (s.data.toList.length-1)=_;rw[akr,dz];simp
noncomputable def aj8:CPT:=aA 18 (aB ME) (aA 116 (aB ahx) (aA 117 (aB aiq) noC))
theorem ahz:aW Tryz.prog aj8:=aj (au Px) (aj (au ahY) (aj (au aji) aD))
theorem rN1 {x w:ByteArray} {l:List Int} (h:dw x w 1=some l):bZ x w=some l∧l.length=1:=by
 rw[ajl]at h;cases e:bZ x w with
 |none=>rw[e]at h;cases h
 |some k=>
  rw[e]at h;simp only at h;by_cases h1:k.length=1
  ·rw[if_pos h1]at h;cases h;exact⟨rfl,h1⟩
  ·rw[if_neg h1]at h;cases h
theorem rN0 {x w:ByteArray} (h:dw x w 1=none):bZ x w=none∨∃l,bZ x w=some l∧l.length≠1:=by
 rw[ajl]at h;cases e:bZ x w with
 |none=>exact .inl rfl
 |some k=>
  rw[e]at h;simp only at h;by_cases h1:k.length=1
  ·rw[if_pos h1]at h;cases h
  ·exact .inr ⟨k,rfl,h1⟩
theorem ajV {c:Int} {L:List (List Int)} {sum:Int} {gv:List Int} {d:Bool} {x:ByteArray} (h:dw x FP 1=none):(nxt ⟨c,L,sum,gv,0,d⟩ x).1=false:=by
 unfold nxt;rw[if_pos (by simp),if_pos rfl]
 rcases rN0 h with e|⟨l,e,hl⟩
 ·rw[e]
 ·rw[e];simp only;rw[if_pos hl]
theorem ajW {c:Int} {L:List (List Int)} {sum:Int} {gv:List Int} {d:Bool} {x:ByteArray} {l:List Int} (h:dw x FP 1=some l):nxt ⟨c,L,sum,gv,0,d⟩ x=(true,⟨l.getD 0 0,L,sum,gv,1,d⟩):=by
 obtain⟨e,hl⟩:=rN1 h;unfold nxt;rw[if_pos (by simp),if_pos rfl,e]
 simp only;rw[if_neg (by omega),if_pos trivial];rfl
theorem ajX {c:Int} {L:List (List Int)} {sum:Int} {gv:List Int} {d:Bool} {x:ByteArray} (h:dw x iY 1=none):(nxt ⟨c,L,sum,gv,1,d⟩ x).1=false:=by
 unfold nxt;rw[if_pos (show(1:Int)+1≤2 by decide),if_neg (show¬(1:Int)=0 by decide)]
 rcases rN0 h with e|⟨l,e,hl⟩
 ·rw[e]
 ·rw[e];simp only;rw[if_pos hl]
theorem ajY {c:Int} {L:List (List Int)} {sum:Int} {gv:List Int} {d:Bool} {x:ByteArray} {l:List Int} (h:dw x iY 1=some l):nxt ⟨c,L,sum,gv,1,d⟩ x=(true,⟨c,L,l.getD 0 0,gv,2,d⟩):=by
 obtain⟨e,hl⟩:=rN1 h;unfold nxt;rw[if_pos (show(1:Int)+1≤2 by decide),if_neg (show¬(1:Int)=0 by decide),e]
 simp only;rw[if_neg (by omega),if_neg (by decide)];rfl
theorem ajZ {c:Int} {L:List (List Int)} {sum:Int} {gv:List Int} {n:Int} {x:ByteArray} (hn:2≤n):(nxt ⟨c,L,sum,gv,n,true⟩ x).1=false:=by
 unfold nxt;rw[if_neg (by simp only;omega),if_pos rfl]
theorem aj0 {c:Int} {L:List (List Int)} {sum:Int} {gv:List Int} {n:Int} {x:ByteArray} {l:List Int} (hn:2≤n) (h:dw x DF (-1)=some l):nxt ⟨c,L,sum,gv,n,false⟩ x=(true,⟨c,L++[l],sum,gv,n+1,false⟩):=by
 rw[aiT]at h;unfold nxt;rw[if_neg (by simp only;omega),if_neg (by simp),h]
theorem aj1 {c:Int} {L:List (List Int)} {sum:Int} {gv:List Int} {n:Int} {x:ByteArray} {l:List Int} (hn:2≤n) (h1:dw x DF (-1)=none) (h:dw x uT (-1)=some l):nxt ⟨c,L,sum,gv,n,false⟩ x=(true,⟨c,L,sum,l,n+1,true⟩):=by
 rw[aiT]at h h1;unfold nxt;rw[if_neg (by simp only;omega),if_neg (by simp),h1]
 simp only;rw[h]
theorem aj2 {c:Int} {L:List (List Int)} {sum:Int} {gv:List Int} {n:Int} {x:ByteArray} (hn:2≤n) (h1:dw x DF (-1)=none) (h:dw x uT (-1)=none):(nxt ⟨c,L,sum,gv,n,false⟩ x).1=false:=by
 rw[aiT]at h h1;unfold nxt;rw[if_neg (by simp only;omega),if_neg (by simp),h1]
 simp only;rw[h]
theorem aiU (s:ByteArray) (hs:s.size≤1000000):aF Tryz.prog 45 [.str s] (abn (M0 s)):=by
 unfold M0;by_cases h4:4096<(s.size:Int)
 ·have he:vB s=25:=by unfold vB;rw[if_pos h4];rfl
  rw[he,if_pos (by decide)]
  refine eD (md:=1) (rf:=[]) mixed ak ahz Tryz.func45 (by rfl) (by rfl) (by rfl) ?_
  repeat'((conv=>whnf);first|(intro hq;(try simp only[vw]at hq);try first|exact absurd hq (by decide)|exfalso;omega)|apply aI|with_reducible exact vM rfl|exact⟨⟩|apply nM|apply fM)
  all_goals((try apply vM);(try simp only[vq]at*);try omega)
  all_goals first|omega|exact zO _ _|skip
 have hsi:=ajD s;cases hf:Fg s kNl with
 |false=>
  have he:vB s=27:=by unfold vB;rw[if_neg h4,hf];rfl
  have hnf:¬(0<s.size∧s.data.getD (s.size-1) 0=10):=fun e=>by rw[hsi.2 e]at hf;cases hf
  have hnf':(s.size:Int)=0∨((s.data.getD ((s.size:Int)-1).toNat 0).toNat:Int)≠10:=by
   by_cases e:s.size=0
   ·left;omega
   ·right
    rw[show((s.size:Int)-1).toNat=s.size-1 by omega]
    exact fun a=>hnf ⟨by omega,UInt8.toNat_inj.1 (Int.ofNat.inj a)⟩
  rw[he,if_pos (by decide)]
  refine eD (md:=1) (rf:=[]) mixed ak ahz Tryz.func45 (by rfl) (by rfl) (by rfl) ?_
  repeat'((conv=>whnf);first|(intro hq;(try simp only[vw]at hq);try first|exact absurd hq (by decide)|exfalso;omega)|apply aI|with_reducible exact vM rfl|exact⟨⟩|apply nM|apply fM)
  all_goals((try apply vM);(try simp only[vq]at*);try omega)
  all_goals first|exact zO _ _|(exfalso;rcases hnf' with a|a<;>contradiction)|omega|skip
 |true=>
 obtain⟨h0,hlast⟩:=hsi.1 hf;have he:vB s=0:=by unfold vB;rw[if_neg h4,hf];rfl
 have htr:=ajE hf;have hts:(jo s kNl).size≤s.size:=by rw[htr,ByteArray.size_extract];omega
 rw[he,if_neg (by decide)]
 have hG:iI s=rdG rd0 (dD 10 (jo s kNl)):=rfl;have hln:=yc 10 (jo s kNl);have hsz:∀j,j<(dD 10 (jo s kNl)).length→((dD 10 (jo s kNl)).getD j .empty).size≤4096:=fun j hj=>by
  have:=Ch (uS hj);omega
 obtain⟨W,hW⟩:∃W,dD 10 (jo s kNl)=W:=⟨_,rfl⟩;have hW':dD (UInt8.ofNat (agt 10)) (s.extract 0 ((s.size:Int)-1).toNat)=W:=by
  rw[show((s.size:Int)-1).toNat=s.size-1 by omega,←htr];exact hW
 rw[hW]at hG hln hsz;have h10:((s.data.getD ((s.size:Int)-1).toNat 0).toNat:Int)=10:=by rw[show((s.size:Int)-1).toNat=s.size-1 by omega,hlast];rfl
 have hxs:(s.extract 0 ((s.size:Int)-1).toNat).size≤1000000:=by rw[ByteArray.size_extract];omega
 refine eD (md:=1) (rf:=[]) mixed ak ahz Tryz.func45 (by rfl) (by rfl) (by rfl) ?_
 repeat'((conv=>whnf);first|(intro hq;(try simp only[vw]at hq);try first|exact absurd hq (by decide)|exfalso;omega)|apply aI|with_reducible exact vM rfl|exact⟨⟩|apply nM|apply fM)
 all_goals((try apply vM);(try simp only[vq]at*);try omega)
 all_goals(try rw[hW'])
 all_goals(try first|omega|exact hxs|exact⟨hxs,by decide,by decide⟩)
 conv=>whnf
 obtain⟨V,hV⟩:∃V,(if(iI s).2=false then((0,[],0,[]),(iI s).1.line,24)else if(iI s).1.done=false then((0,[],0,[]),(iI s).1.line+1,24)else if pzE (iI s).1.c (iI s).1.L (iI s).1.sum (iI s).1.gv≠0 then((0,[],0,[]),0,pzE (iI s).1.c (iI s).1.L (iI s).1.sum (iI s).1.gv)else(((iI s).1.c,(iI s).1.L,(iI s).1.sum,(iI s).1.gv),0,0))=V:=⟨_,rfl⟩;rw[hV];refine aM (X:=Nat × Rd) (fun x=>x.1≤W.length∧SX x.2 x.1∧iI s=rdG x.2 (W.drop x.1)) (fun x=>[(8,.int .i64 x.1),(7,.bp x.2.done),(9,.any),(10,.any),(44,.any),(60,.any),(74,.any),(91,.any)]) (fun x=>[(5,.cells (.pv [.int .i64 x.2.c,.isl (.rows .i64 x.2.L) (.own 22),.int .i64 x.2.sum,.isl (.ints .i64 x.2.gv) .none]) false),(22,.tok 1 x.2.L.length)]) (fun x=>W.length-x.1) (0,rd0) ⟨aK,mixed,ak,ahz,aQ⟩ (by rfl) ⟨aeY _,⟨rfl,aea _,(fun x hx=>by cases hx),aeY _⟩,hG⟩ ?_ ?_
 ·repeat'((conv=>whnf);first|intro _|apply aI|with_reducible exact vM rfl|exact⟨⟩|apply nM|apply fM)
  all_goals((try apply vM);(try simp only[vq]at*);try omega)
  all_goals skip
 rintro⟨i,c,L,sum,gv,line,d⟩ ⟨hi,hr,hT⟩
 simp only at hi hr hT;obtain rfl:line=(i:Int):=hr.ln;have hr2:L.length≤i:=hr.ll;by_cases hlt:i<W.length
 ·have hsi:=hsz i hlt
  have hd:W.drop i=W.getD i .empty::W.drop (i+1):=by rw[aeo,aev hlt];simp
  have hok:=YI hr hsi;obtain⟨x,hx⟩:∃x,W.getD i .empty=x:=⟨_,rfl⟩;rw[hx]at hd hsi hok;rw[hd]at hT;unfold rdG at hT;have hbadN:(nxt ⟨c,L,sum,gv,i,d⟩ x).1=false→Sup (bF [PV.agg [.int .i64 0,.nils,.int .i64 0,.nils],.int .i64 ((i:Int)+1),.int .i64 24]) (abn V):=fun h=>by
   rw[if_neg (by rw[h];simp)]at hT
   have hln2:(nxt ⟨c,L,sum,gv,i,d⟩ x).2.line=(i:Int)+1:=hok.ln;rw[←hV,hT,if_pos rfl,hln2];exact zO _ _
  have hgoodN:∀r',nxt ⟨c,L,sum,gv,i,d⟩ x=(true,r')→SX r' (i+1)∧iI s=rdG r' (W.drop (i+1)):=fun r' h=>by
   rw[h]at hT hok;rw[if_pos rfl]at hT;exact⟨hok,hT⟩
  clear hT hV hok;by_cases h0:i=0
  ·subst h0
   repeat'((conv=>whnf);first|(intro hq;(try simp only[vw]at hq);try first|exact absurd hq (by decide)|exfalso;omega)|apply aI|with_reducible exact vM rfl|exact⟨⟩|apply nM|apply fM)
   all_goals((try apply vM);(try simp only[vq]at*);try omega)
   all_goals(try simp only[hx]at*)
   all_goals(try first|omega|(refine hbadN ?_;exact ajV hq.get))
   ·have:=(rN1 hq.get).2;omega
   ·have:=(rN1 hq.get).2;omega
   ·rename_i l
    obtain⟨g1,g2⟩:=hgoodN _ (ajW hq.get);refine⟨(1,⟨l.getD 0 0,L,sum,gv,1,d⟩),[],⟨⟨by simp only;omega,g1,g2⟩,by simp only;omega⟩,?_⟩
    repeat'((conv=>whnf);first|intro _|apply aI|with_reducible exact vM rfl|exact⟨⟩|apply nM|apply fM)
    all_goals((try apply vM);(try simp only[vq]at*);try omega)
    all_goals skip
  by_cases h1:i=1
  ·subst h1
   repeat'((conv=>whnf);first|(intro hq;(try simp only[vw]at hq);try first|exact absurd hq (by decide)|exfalso;omega)|apply aI|with_reducible exact vM rfl|exact⟨⟩|apply nM|apply fM)
   all_goals((try apply vM);(try simp only[vq]at*);try omega)
   all_goals(try simp only[hx]at*)
   all_goals(try first|omega|(refine hbadN ?_;exact ajX hq.get))
   ·have:=(rN1 hq.get).2;omega
   ·have:=(rN1 hq.get).2;omega
   ·rename_i l
    obtain⟨g1,g2⟩:=hgoodN _ (ajY hq.get);refine⟨(2,⟨c,L,l.getD 0 0,gv,2,d⟩),[],⟨⟨by simp only;omega,g1,g2⟩,by simp only;omega⟩,?_⟩
    repeat'((conv=>whnf);first|intro _|apply aI|with_reducible exact vM rfl|exact⟨⟩|apply nM|apply fM)
    all_goals((try apply vM);(try simp only[vq]at*);try omega)
    all_goals skip
  cases d with
  |true=>
   repeat'((conv=>whnf);first|(intro hq;(try simp only[vw]at hq);try first|exact absurd hq (by decide)|exfalso;omega)|apply aI|with_reducible exact vM rfl|exact⟨⟩|apply nM|apply fM)
   all_goals((try apply vM);(try simp only[vq]at*);try omega)
   all_goals(try simp only[hx]at*)
   all_goals(try first|omega|(refine hbadN ?_;exact ajZ (by omega)))
   all_goals skip
  |false=>
   repeat'((conv=>whnf);first|(intro hq;(try simp only[vw]at hq);try first|exact absurd hq (by decide)|exfalso;omega)|apply aI|with_reducible exact vM rfl|exact⟨⟩|apply nM|apply fM)
   all_goals((try apply vM);(try simp only[vq]at*);try omega)
   all_goals(try simp only[hx]at*)
   all_goals(try first|omega|(rw[afu,ad4,adY];omega))
   ·refine hbadN ?_
    exact aj2 (by omega) (VC.get ‹VC (dw x DF (-1)=none)›) hq.get
   ·rename_i l _
    obtain⟨g1,g2⟩:=hgoodN _ (aj1 (by omega) (VC.get ‹VC (dw x DF (-1)=none)›) hq.get)
    refine⟨(i+1,⟨c,L,sum,l,(i:Int)+1,true⟩),[],⟨⟨by simp only;omega,g1,g2⟩,by simp only;omega⟩,?_⟩
    repeat'((conv=>whnf);first|intro _|apply aI|with_reducible exact vM rfl|exact⟨⟩|apply nM|apply fM)
    all_goals((try apply vM);(try simp only[vq]at*);try omega)
    all_goals skip
   ·rename_i l
    obtain⟨g1,g2⟩:=hgoodN _ (aj0 (by omega) hq.get)
    refine⟨(i+1,⟨c,L++[l],sum,gv,(i:Int)+1,false⟩),[],⟨⟨by simp only;omega,g1,g2⟩,by simp only;omega⟩,?_⟩
    simp only[afu,ad4,adY]
    repeat'((conv=>whnf);first|intro _|apply aI|with_reducible exact vM rfl|exact⟨⟩|apply nM|apply fM)
    all_goals((try apply vM);(try simp only[vq]at*);try omega)
    all_goals skip
 have e:i=W.length:=by omega
 subst e;have hT2:iI s=(⟨c,L,sum,gv,W.length,d⟩,true):=by rw[hT,List.drop_length];rfl
 have hLN:bH L:=⟨by omega,hr.rw⟩
 have hgl:gv.length≤5000:=hr.gl;rw[hT2]at hV;simp only[Bool.true_eq_false,if_false]at hV;subst hV;cases d with
 |false=>
  rw[if_pos rfl]
  repeat'((conv=>whnf);first|(intro hq;(try simp only[vw]at hq);try first|exact absurd hq (by decide)|exfalso;omega)|apply aI|with_reducible exact vM rfl|exact⟨⟩|apply nM|apply fM)
  all_goals((try apply vM);(try simp only[vq]at*);try omega)
  all_goals first|omega|exact zO _ _|skip
 |true=>
  rw[if_neg (by simp)]
  by_cases hpz:pzE c L sum gv=0
  ·rw[if_neg (by rw[hpz];simp)]
   repeat'((conv=>whnf);first|(intro hq;(try simp only[vw]at hq);try first|exact absurd hq (by decide)|exfalso;omega)|apply aI|with_reducible exact vM rfl|exact⟨⟩|apply nM|apply fM)
   all_goals((try apply vM);(try simp only[vq]at*);try omega)
   all_goals first|exact⟨hLN,hgl⟩|exact Sup.of rfl|(exfalso;exact hq hpz)|omega|skip
  ·rw[if_pos hpz]
   repeat'((conv=>whnf);first|(intro hq;(try simp only[vw]at hq);try first|exact absurd hq (by decide)|exfalso;omega)|apply aI|with_reducible exact vM rfl|exact⟨⟩|apply nM|apply fM)
   all_goals((try apply vM);(try simp only[vq]at*);try omega)
   all_goals first|exact⟨hLN,hgl⟩|exact zO _ _|(exfalso;exact hq hpz)|(exfalso;exact hpz hq)|omega|skip
def aiV:PSp:=fun xs K=>match xs with
 | [.str s]=>VC (s.size≤1000000)∧K (abn (M0 s))
 |_=>False
theorem ajF:POK Tryz.prog 45 aiV:=by
 intro xs K h;unfold aiV at h;split at h
 ·exact⟨_,h.2,aiU _ h.1.get⟩
 ·exact h.elim
def air:PSp:=fun xs K=>match xs with
 | [.str s]=>VC (s.size≤1000000)∧K (abn (M0 s))
 |_=>False
theorem ajj:POK Tryz.prog 44 air:=by
 intro xs K h;unfold air at h;split at h
 ·exact⟨_,h.2,Qk _ h.1.get⟩
 ·exact h.elim
def aiW:PSp:=fun xs K=>match xs with
 | [.agg [.int .i64 c,.isl (.rows .i64 ls) .none,.int .i64 sum,.isl (.ints .i64 gv) .none]]=>VC (bH ls∧gv.length≤5000)∧K (.tup [.str (Ng c ls sum gv).1,.int .i64 (Ng c ls sum gv).2])
 |_=>False
theorem ajG:POK Tryz.prog 42 aiW:=by
 intro xs K h;unfold aiW at h;split at h
 ·exact⟨_,h.2,Nh _ _ _ _ h.1.get.1 h.1.get.2⟩
 ·exact h.elim
noncomputable def ahR (b1:Bool) (w:Int) (t:ByteArray) (e:Int) (T:ByteArray) (R:(Int × List (List Int) × Int × List Int) × Int × Int):CPT:=aA 17 (aB Qs) (aA 18 (aB (aco ME (.int .i64 w))) (aA 19 (aB Tz) (aA 41 (aB (aco BG (.bool b1))) (aA 42 (aB (aco aiW (.tup [.str t,.int .i64 e]))) (aA 43 (aB (aco ail (.str T))) (aA 44 (aB (aco air (abn R))) (aA 45 (aB (aco aiV (abn R))) (aA 46 (aB aiF) noC))))))))
theorem ahs (b1:Bool) (w:Int) (t:ByteArray) (e:Int) (T:ByteArray) (R:(Int × List (List Int) × Int × List Int) × Int × Int):aW Tryz.prog (ahR b1 w t e T R):=aj (au adE) (aj (au (adQ Px (.int .i64 w))) (aj (au abC) (aj (au (adQ Qu (.bool b1))) (aj (au (adQ ajG (.tup [.str t,.int .i64 e]))) (aj (au (adQ ajf (.str T))) (aj (au (adQ ajj (abn R))) (aj (au (adQ ajF (abn R))) (aj (au ajs) aD))))))))
theorem ajH (s:ByteArray):(M0 s).1.2.1.length≤1000000∧(∀i,((M0 s).1.2.1.getD i []).length≤2000000)∧(M0 s).1.2.2.2.length≤2000000:=by
 have hz:([]:List (List Int)).length≤1000000∧(∀i,(([]:List (List Int)).getD i []).length≤2000000)∧([]:List Int).length≤2000000:=⟨by decide,fun i=>by simp,by decide⟩
 unfold M0;split
 ·exact hz
 ·split
  ·exact hz
  ·split
   ·exact hz
   ·split
    ·exact hz
    ·rename_i h
     have hp:=dR.of (ae2.1 h);have hll:=hp.ll;have hgl:=hp.gl;have hc:=hp.c1;refine⟨by simp only;omega,fun i=>?_,by simp only;omega⟩
     simp only;by_cases hi:i<(iI s).1.L.length
     ·have:=(hp.ln i hi).len;omega
     ·rw[aeo,List.getElem?_eq_none (by omega)];simp
theorem ai5 (c:Int) (ls:List (List Int)) (sum:Int) (gv:List Int) (s:ByteArray) (hgm:gv.length≤9223372036854775807):aF Tryz.prog 6 [pzV c ls sum gv,.str s] (.bp true):=by
 obtain⟨R,hR⟩:∃R,M0 s=R:=⟨_,rfl⟩;have hbd:=ajH s;rw[hR]at hbd;obtain⟨⟨c',L',sum',gv'⟩,a,b⟩:=R;have q46:(c'=c'∧L'=L'∧sum'=sum'∧gv'=gv')∧L'.length≤1000000∧(∀i,(L'.getD i []).length≤2000000)∧gv'.length≤2000000:=⟨⟨rfl,rfl,rfl,rfl⟩,hbd⟩;cases hsh:vF ls gv with
 |false=>
  have hC:=ahs false 0 ⟨#[]⟩ 0 ⟨#[]⟩ ((0,[],0,[]),0,0);refine eD (md:=1) (rf:=[]) mixed ak hC Tryz.func6 (by rfl) (by rfl) (by rfl) ?_
  unfold ahR
  repeat'((conv=>whnf);first|(intro hq;(try simp only[vw]at hq);try first|exact absurd hq (by decide)|exfalso;omega)|apply aI|with_reducible exact vM rfl|exact⟨⟩|apply nM|apply fM)
  all_goals((try apply vM);(try simp only[vq]at*);try omega)
  all_goals(try first|exact adU hsh|exact mg _|exact adV he|exact⟨hL,by omega⟩|(rw[h1];exact mg _)|(rw[hR];exact mg _)|exact hp|exact q46|(exfalso;exact hq rfl)|omega)
 |true=>
 obtain⟨hL,hgl⟩:=YO hsh;by_cases hs8:800<(s.size:Int)
 ·have hC:=ahs true 0 ⟨#[]⟩ 0 ⟨#[]⟩ ((0,[],0,[]),0,0)
  refine eD (md:=1) (rf:=[]) mixed ak hC Tryz.func6 (by rfl) (by rfl) (by rfl) ?_
  unfold ahR
  repeat'((conv=>whnf);first|(intro hq;(try simp only[vw]at hq);try first|exact absurd hq (by decide)|exfalso;omega)|apply aI|with_reducible exact vM rfl|exact⟨⟩|apply nM|apply fM)
  all_goals((try apply vM);(try simp only[vq]at*);try omega)
  all_goals(try first|exact adU hsh|exact mg _|exact adV he|exact⟨hL,by omega⟩|(rw[h1];exact mg _)|(rw[hR];exact mg _)|exact hp|exact q46|(exfalso;exact hq rfl)|omega)
 have hs6:s.size≤1000000:=by omega
 obtain⟨w,he⟩:∃w,pzE c ls sum gv=w:=⟨_,rfl⟩;by_cases hw:w=0
 case neg=>
  have h1:Ng c ls sum gv=(⟨#[]⟩,w):=by unfold Ng;rw[he,if_pos hw]
  have hC:=ahs true w ⟨#[]⟩ w ⟨#[]⟩ ((c',L',sum',gv'),a,b);refine eD (md:=1) (rf:=[]) mixed ak hC Tryz.func6 (by rfl) (by rfl) (by rfl) ?_
  unfold ahR
  repeat'((conv=>whnf);first|(intro hq;(try simp only[vw]at hq);try first|exact absurd hq (by decide)|exfalso;omega)|apply aI|with_reducible exact vM rfl|exact⟨⟩|apply nM|apply fM)
  all_goals((try apply vM);(try simp only[vq]at*);try omega)
  all_goals(try first|exact adU hsh|exact mg _|exact adV he|exact⟨hL,by omega⟩|(rw[h1];exact mg _)|(rw[hR];exact mg _)|exact hp|exact q46|(exfalso;exact hq rfl)|omega)
  all_goals skip
 subst hw;have hp:=dR.of he;obtain⟨T,hT⟩:∃T,vE c ls sum gv=T:=⟨_,rfl⟩;by_cases hTs:4096<T.size
 ·have h1:Ng c ls sum gv=(⟨#[]⟩,25):=by unfold Ng;rw[he,if_neg (by simp),hT,if_pos hTs]
  have hC:=ahs true 0 ⟨#[]⟩ 25 T ((c',L',sum',gv'),a,b);refine eD (md:=1) (rf:=[]) mixed ak hC Tryz.func6 (by rfl) (by rfl) (by rfl) ?_
  unfold ahR
  repeat'((conv=>whnf);first|(intro hq;(try simp only[vw]at hq);try first|exact absurd hq (by decide)|exfalso;omega)|apply aI|with_reducible exact vM rfl|exact⟨⟩|apply nM|apply fM)
  all_goals((try apply vM);(try simp only[vq]at*);try omega)
  all_goals(try first|exact adU hsh|exact mg _|exact adV he|exact⟨hL,by omega⟩|(rw[h1];exact mg _)|(rw[hR];exact mg _)|exact hp|exact q46|(exfalso;exact hq rfl)|omega)
  all_goals(try(rw[hT];exact mg _))
 have h1:Ng c ls sum gv=(T,0):=by unfold Ng;rw[he,if_neg (by simp),hT,if_neg hTs]
 have hC:=ahs true 0 T 0 T ((c',L',sum',gv'),a,b);refine eD (md:=1) (rf:=[]) mixed ak hC Tryz.func6 (by rfl) (by rfl) (by rfl) ?_
 unfold ahR
 repeat'((conv=>whnf);first|(intro hq;(try simp only[vw]at hq);try first|exact absurd hq (by decide)|exfalso;omega)|apply aI|with_reducible exact vM rfl|exact⟨⟩|apply nM|apply fM)
 all_goals((try apply vM);(try simp only[vq]at*);try omega)
 all_goals(try first|exact adU hsh|exact mg _|exact adV he|exact⟨hL,by omega⟩|(rw[h1];exact mg _)|(rw[hR];exact mg _)|exact hp|exact q46|(exfalso;exact hq rfl)|omega)
 all_goals(try(rw[hT];exact mg _))
 all_goals skip
end Go.Eng.YtcechbdgokjmgaaGreatDoor
