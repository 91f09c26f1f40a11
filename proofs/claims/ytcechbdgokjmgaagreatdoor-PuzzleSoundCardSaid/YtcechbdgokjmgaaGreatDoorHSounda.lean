/- Contracts of functions that the law calls, and what the law says of them. Conditions stand in them. -/
import Derived.Test.YtcechbdgokjmgaaGreatDoorBg
open Bool renaming not_eq_true'→ag8,and_eq_true→aeA,or_eq_true→afs,false_eq_true→ad7,true_and→agO,false_and→agn,and_eq_false_iff→ajp
open Classical renaming byContradiction→ajo,not_not→ae2
open Int renaming le_refl→ajk,toNat_natCast→afg,tmod_nonneg→ajq
open List renaming foldl_cons→ajj,pairwise_cons→afE,mem_cons→afD,mem_filter→agh,any_eq_true→agC,mem_append→aep,mem_singleton→agL,mem_map→agQ,mem_range→afY,mergeSort_perm→ahi,length_eq_one_iff→ajl,eq_nil_of_length_eq_zero→ajm,all_eq_true→afI,any_eq_false→agD,getElem_of_mem→aeu,getD_eq_getElem?_getD→aeo,getElem?_eq_getElem→aev,pairwise_iff_getElem→ajn,length_take→ae0,take_length→af5,range→ael,length_map→af0,mem_append_left→aer,all_eq_false→ahh
open Nat renaming zero_add→aeC
namespace Go.Eng.YtcechbdgokjmgaaGreatDoor
open Go.Proofs
set_option linter.unusedSimpArgs false
set_option linter.unusedVariables false
set_option maxHeartbeats 0
set_option maxRecDepth 100000
structure ajg (c:Int) (ls:List (List Int)) (sum:Int) (s:St) (o:List Int) (x:Int):Prop where
 bd:bO c ls sum s
 rng:∀y∈o,0≤y∧y<c
 len:o.length≤16
 x: -2000000000≤x∧x≤2000000000
theorem ahZ (r:ByteArray):aF Tryz.prog 70 [.str r] (.int .i64 (aP r)):=by
 have hn:=pV;refine av (md:=1) (rf:=[]) mixed ak aD Tryz.func70 (by rfl) (by rfl) (by rfl) ?_
 repeat'((conv=>whnf);first|intro _|apply aI|with_reducible exact vM rfl|exact⟨⟩|apply nM|apply fM)
 all_goals((try apply vM);(try simp only[vq]at*);try omega)
 conv=>whnf
 refine aM (X:=Nat) (fun i=>i≤5∧∀j,0<j→j<i+1→nmG j≠r) (fun i=>[(4,.int .i64 i)]) (fun i=>[]) (fun i=>5-i) 0 ⟨aK,mixed,ak,aD,aQ⟩ (by rfl) ⟨by omega,fun j h0 hj=>by omega⟩ ?_ ?_
 ·repeat'((conv=>whnf);first|intro _|apply aI|with_reducible exact vM rfl|exact⟨⟩|apply nM|apply fM)
  all_goals((try apply vM);(try simp only[vq]at*);try omega)
 intro i ⟨hi,hok⟩;obtain rfl|rfl|rfl|rfl|rfl|rfl:i=0∨i=1∨i=2∨i=3∨i=4∨i=5:=by omega
 ·repeat'((conv=>whnf);first|(intro hq;(try simp only[vw]at hq);try first|exact absurd hq (by decide)|exfalso;omega)|apply aI|with_reducible exact vM rfl|exact⟨⟩|apply nM|apply fM)
  all_goals((try apply vM);(try simp only[vq]at*);try omega)
  all_goals(try omega)
  ·subst hq
   refine Sup.of (congrArg (PV.int .i64) ?_);exact(hn.1:aP (nmG 1)=1).symm
  refine⟨1,[],⟨⟨by omega,fun j h0 hj=>?_⟩,by omega⟩,?_⟩
  ·by_cases e:j=1
   ·subst e;exact hq
   ·exact hok j h0 (by omega)
  repeat'((conv=>whnf);first|intro _|apply aI|with_reducible exact vM rfl|exact⟨⟩|apply nM|apply fM)
  all_goals((try apply vM);(try simp only[vq]at*);try omega)
 ·repeat'((conv=>whnf);first|(intro hq;(try simp only[vw]at hq);try first|exact absurd hq (by decide)|exfalso;omega)|apply aI|with_reducible exact vM rfl|exact⟨⟩|apply nM|apply fM)
  all_goals((try apply vM);(try simp only[vq]at*);try omega)
  all_goals(try omega)
  ·subst hq
   refine Sup.of (congrArg (PV.int .i64) ?_);exact(hn.2.1:aP (nmG 2)=2).symm
  refine⟨2,[],⟨⟨by omega,fun j h0 hj=>?_⟩,by omega⟩,?_⟩
  ·by_cases e:j=2
   ·subst e;exact hq
   ·exact hok j h0 (by omega)
  repeat'((conv=>whnf);first|intro _|apply aI|with_reducible exact vM rfl|exact⟨⟩|apply nM|apply fM)
  all_goals((try apply vM);(try simp only[vq]at*);try omega)
 ·repeat'((conv=>whnf);first|(intro hq;(try simp only[vw]at hq);try first|exact absurd hq (by decide)|exfalso;omega)|apply aI|with_reducible exact vM rfl|exact⟨⟩|apply nM|apply fM)
  all_goals((try apply vM);(try simp only[vq]at*);try omega)
  all_goals(try omega)
  ·subst hq
   refine Sup.of (congrArg (PV.int .i64) ?_);exact(hn.2.2.1:aP (nmG 3)=3).symm
  refine⟨3,[],⟨⟨by omega,fun j h0 hj=>?_⟩,by omega⟩,?_⟩
  ·by_cases e:j=3
   ·subst e;exact hq
   ·exact hok j h0 (by omega)
  repeat'((conv=>whnf);first|intro _|apply aI|with_reducible exact vM rfl|exact⟨⟩|apply nM|apply fM)
  all_goals((try apply vM);(try simp only[vq]at*);try omega)
 ·repeat'((conv=>whnf);first|(intro hq;(try simp only[vw]at hq);try first|exact absurd hq (by decide)|exfalso;omega)|apply aI|with_reducible exact vM rfl|exact⟨⟩|apply nM|apply fM)
  all_goals((try apply vM);(try simp only[vq]at*);try omega)
  all_goals(try omega)
  ·subst hq
   refine Sup.of (congrArg (PV.int .i64) ?_);exact(hn.2.2.2.1:aP (nmG 4)=4).symm
  refine⟨4,[],⟨⟨by omega,fun j h0 hj=>?_⟩,by omega⟩,?_⟩
  ·by_cases e:j=4
   ·subst e;exact hq
   ·exact hok j h0 (by omega)
  repeat'((conv=>whnf);first|intro _|apply aI|with_reducible exact vM rfl|exact⟨⟩|apply nM|apply fM)
  all_goals((try apply vM);(try simp only[vq]at*);try omega)
 ·repeat'((conv=>whnf);first|(intro hq;(try simp only[vw]at hq);try first|exact absurd hq (by decide)|exfalso;omega)|apply aI|with_reducible exact vM rfl|exact⟨⟩|apply nM|apply fM)
  all_goals((try apply vM);(try simp only[vq]at*);try omega)
  all_goals(try omega)
  ·subst hq
   refine Sup.of (congrArg (PV.int .i64) ?_);exact(hn.2.2.2.2:aP (nmG 5)=5).symm
  refine⟨5,[],⟨⟨by omega,fun j h0 hj=>?_⟩,by omega⟩,?_⟩
  ·by_cases e:j=5
   ·subst e;exact hq
   ·exact hok j h0 (by omega)
  repeat'((conv=>whnf);first|intro _|apply aI|with_reducible exact vM rfl|exact⟨⟩|apply nM|apply fM)
  all_goals((try apply vM);(try simp only[vq]at*);try omega)
 ·rw[Yh fun j h0 hj=>hok j h0 (by omega)]
  repeat'((conv=>whnf);first|(intro hq;(try simp only[vw]at hq);try first|exact absurd hq (by decide)|exfalso;omega)|apply aI|with_reducible exact vM rfl|exact⟨⟩|apply nM|apply fM)
  all_goals((try apply vM);(try simp only[vq]at*);try omega)
  exact Sup.of rfl
def ahC:PSp:=fun xs K=>match xs with
 | [.str r]=>VC (True)∧K (.int .i64 (aP r))
 |_=>False
theorem aie:POK Tryz.prog 70 ahC:=by
 intro xs K h;unfold ahC at h;split at h
 ·exact⟨_,h.2,ahZ _⟩
 ·exact h.elim
noncomputable def ajc:CPT:=aA 70 (aB ahC) noC
theorem aiF:aW Tryz.prog ajc:=aj (au aie) aD
theorem ahM (r:ByteArray):aF Tryz.prog 78 [.str r] (.bp (decide (aP r≤3))):=by
 refine av (md:=1) (rf:=[]) mixed ak aiF Tryz.func78 (by rfl) (by rfl) (by rfl) ?_
 repeat'((conv=>whnf);first|intro _|apply aI|with_reducible exact vM rfl|exact⟨⟩|apply nM|apply fM)
 all_goals((try apply vM);(try simp only[vq]at*);try omega)
 all_goals exact Sup.of rfl
theorem ah0 (g:Int) (h:1≤g∧g≤5):aF Tryz.prog 77 [.int .i64 g] (.str (nmG g.toNat)):=by
 obtain rfl|rfl|rfl|rfl|rfl:g=1∨g=2∨g=3∨g=4∨g=5:=by omega
 all_goals
  refine av (md:=1) (rf:=[]) mixed ak aD Tryz.func77 (by rfl) (by rfl) (by rfl) ?_
  repeat'((conv=>whnf);first|intro _|apply aI|with_reducible exact vM rfl|exact⟨⟩|apply nM|apply fM)
  all_goals((try apply vM);(try simp only[vq]at*);try omega)
  all_goals exact Sup.of rfl
structure ajh (c:Int) (ls:List (List Int)) (sum:Int) (s:St) (o used:List Int) (x:Int):Prop where
 bd:bO c ls sum s
 rng:∀y∈o,0≤y∧y<c
 len:o.length+used.length≤30
 x: -2000000000+16*(o.length:Int)≤x∧x≤2000000000
structure aji (c:Int) (ls:List (List Int)) (sum:Int) (s:St) (k:Int):Prop where
 bd:bO c ls sum s
 k:0≤k∧k<ls.length
def ah6 (r:List Dd × St × Int):List Dd × St × Int:=if r.2.2=21 then([],noS,21)else r
end Go.Eng.YtcechbdgokjmgaaGreatDoor
namespace Go.Eng.YtcechbdgokjmgaaGreatDoor
set_option linter.unusedSimpArgs false
set_option linter.unusedVariables false
def sF (g:Int→Int):List Int→Int
 | []=>0
 |x::r=>g x+sF g r
theorem ahD (g:Int→Int):∀(l:List Int) (a:Int),l.foldl (fun a x=>a+g x) a=a+sF g l:=by
 intro l;induction l with
 |nil=>intro a;simp[sF]
 |cons x r ih=>intro a;rw[ajj,ih];simp only[sF];omega
theorem ahV {g h:Int→Int}:∀{l:List Int},(∀x∈l,g x≤h x)→sF g l≤sF h l:=by
 intro l;induction l with
 |nil=>intro _;exact ajk _
 |cons x r ih=>
  intro hh;have h1:=hh x (by simp)
  have h2:=ih fun y hy=>hh y (by simp[hy])
  simp only[sF];omega
theorem ahq {g h:Int→Int} {l:List Int} (hh:∀x∈l,g x=h x):sF g l=sF h l:=by
 have h1:=ahV (g:=g) (h:=h) fun x hx=>by rw[hh x hx];exact ajk _
 have h2:=ahV (g:=h) (h:=g) fun x hx=>by rw[hh x hx];exact ajk _
 omega
theorem aif (g h:Int→Int):∀(l:List Int),sF (fun x=>g x+h x) l=sF g l+sF h l:=by
 intro l;induction l with
 |nil=>rfl
 |cons x r ih=>simp only[sF,ih];omega
theorem aii (g:Int→Int) (p:Int→Bool):∀(l:List Int),sF g (l.filter p)=sF (fun x=>if p x then g x else 0) l:=by
 intro l;induction l with
 |nil=>rfl
 |cons x r ih=>
  rw[List.filter_cons];cases hp:p x with
  |true=>rw[if_pos rfl];simp only[sF,ih,hp];rfl
  |false=>rw[if_neg (by simp)];simp only[sF,ih,hp];simp
theorem aiG:∀(l:List Int),sF (fun _=>0) l=0:=by
 intro l;induction l with
 |nil=>rfl
 |cons x r ih=>simp only[sF,ih];rfl
theorem aiV {y a:Int}:∀{l:List Int},l.Pairwise (·< ·)→y∈l→sF (fun x=>if x=y then a else 0) l=a:=by
 intro l;induction l with
 |nil=>intro _ h;simp at h
 |cons x r ih=>
  intro hp hy;have hp':=afE.1 hp;simp only[sF];by_cases e:x=y
  ·subst e
   have:sF (fun z=>if z=x then a else 0) r=sF (fun _=>0) r:=ahq fun z hz=>by
    have:=hp'.1 z hz;rw[if_neg (by omega)]
   rw[if_pos rfl,this,aiG];omega
  ·rw[if_neg e,ih hp'.2 (by rcases afD.1 hy with h|h;exact absurd h.symm e;exact h)];omega
theorem air (s:St):∀(l:List Int) (a:Int),l.foldl (fun a x=>if s.dc x.toNat then a-hd0 (s.cd x.toNat)else a) a=a-sF (fun x=>if s.dc x.toNat then hd0 (s.cd x.toNat)else 0) l:=by
 intro l;induction l with
 |nil=>intro a;simp[sF]
 |cons x r ih=>
  intro a;rw[ajj,ih];simp only[sF];split<;>omega
theorem aiW (s:St) (sum:Int) (l:List Int):rst s sum l=sum-sF (fun x=>if s.dc x.toNat then hd0 (s.cd x.toNat)else 0) l:=air s l sum
theorem aiH (s:St) (o:List Int):xQ s o=sF (fun y=>hd0 (s.cd y.toNat)) o:=by
 unfold xQ;rw[ahD (fun y=>hd0 (s.cd y.toNat))];omega
theorem aiI (s:St) (o:List Int):xR s o=sF (fun y=>ls0 (s.cd y.toNat)) o:=by
 unfold xR;rw[ahD (fun y=>ls0 (s.cd y.toNat))];omega
theorem aiJ (N l:List Int):mD N l=sF (fun x=>N.getD x.toNat 0) l:=by
 unfold mD;rw[ahD (fun x=>N.getD x.toNat 0)];omega
theorem aij (s:St) (l:List Int) (but:Int) (g:Int→Int):sF g (opn s l but)=sF (fun x=>if !(s.dc x.toNat)&&decide (x≠but)then g x else 0) l:=by
 unfold opn;exact aii g _ l
theorem dw {s:St} {l:List Int} {but z:Int}:z∈opn s l but↔z∈l∧s.dc z.toNat=false∧z≠but:=by
 unfold opn;rw[agh];simp
theorem aiX {s:St} {l:List Int} {but:Int} (h:l.Pairwise (·< ·)):(opn s l but).Pairwise (·< ·):=h.filter _
def ChF (s:St) (o used:List Int) (sum:Int) (h:Int→Int):Prop:=
 (∀y∈o,h y∈s.cd y.toNat∧h y∉used)∧(∀y∈o,∀z∈o,y≠z→h y≠h z)∧sF h o=sum
theorem aiK (s:St):∀(o used:List Int) (sum:Int),o.Pairwise (·< ·)→(chs s o used sum=true↔∃h,ChF s o used sum h):=by
 intro o;induction o with
 |nil=>
  intro used sum _;simp only[chs,decide_eq_true_eq,ChF];constructor
  ·rintro rfl
   exact⟨fun _=>0,fun y hy=>by simp at hy,fun y hy=>by simp at hy,rfl⟩
  ·rintro⟨h,_,_,h3⟩
   exact h3.symm
 |cons y r ih=>
  intro used sum hp;have hp':=afE.1 hp;simp only[chs,agC,agh,ag8,decide_eq_false_iff_not];constructor
  ·rintro⟨x,⟨hx,hu⟩,hc⟩
   obtain⟨h,h1,h2,h3⟩:=(ih _ _ hp'.2).1 hc;have hne:∀z∈r,z≠y:=fun z hz=>by have:=hp'.1 z hz;omega
   refine⟨fun z=>if z=y then x else h z,fun z hz=>?_,fun z hz w hw hzw=>?_,?_⟩
   ·rcases afD.1 hz with rfl|hz
    ·simp only[if_true];exact⟨hx,hu⟩
    ·simp only[if_neg (hne z hz)]
     exact⟨(h1 z hz).1,fun hm=>(h1 z hz).2 (by simp[hm])⟩
   ·rcases afD.1 hz with rfl|hz2<;>rcases afD.1 hw with rfl|hw2
    ·exact absurd rfl hzw
    ·simp only[if_true,if_neg (hne w hw2)]
     exact fun e=>(h1 w hw2).2 (by simp[←e])
    ·simp only[if_true,if_neg (hne z hz2)]
     exact fun e=>(h1 z hz2).2 (by simp[e])
    ·simp only[if_neg (hne z hz2),if_neg (hne w hw2)]
     exact h2 z hz2 w hw2 hzw
   ·simp only[sF,if_true]
    have:sF (fun z=>if z=y then x else h z) r=sF h r:=ahq fun z hz=>by simp only[if_neg (hne z hz)]
    rw[this,h3];omega
  ·rintro⟨h,h1,h2,h3⟩
   refine⟨h y,h1 y (by simp),(ih _ _ hp'.2).2 ⟨h,fun z hz=>⟨(h1 z (by simp[hz])).1,fun hm=>?_⟩,fun z hz w hw=>h2 z (by simp[hz]) w (by simp[hw]),?_⟩⟩
   ·rcases aep.1 hm with hm|hm
    ·exact(h1 z (by simp[hz])).2 hm
    ·have:=hp'.1 z hz
     exact h2 z (by simp[hz]) y (by simp) (by omega) (agL.1 hm)
   ·simp only[sF]at h3;omega
structure aho (c:Int) (ls:List (List Int)) (sum:Int) (f:List Int):Prop where
 len:(f.length:Int)=c
 nrm:nO f=true
 sum:∀i,i<ls.length→mD f (ls.getD i [])=sum
structure Alw (s:St) (f:List Int):Prop where
 len:s.cs.length=f.length
 mem:∀i,i<f.length→f.getD i 0∈s.cd i
theorem aho.rng {c:Int} {ls:List (List Int)} {sum:Int} {f:List Int} (h:aho c ls sum f) {i:Nat} (hi:i<f.length):1≤f.getD i 0∧f.getD i 0≤c:=by
 have h1:=Bn h.nrm (f.getD i 0) (pW hi);have:=h.len;omega
theorem aho.inj {c:Int} {ls:List (List Int)} {sum:Int} {f:List Int} (h:aho c ls sum f) {i j:Nat} (hi:i<f.length) (hj:j<f.length) (e:f.getD i 0=f.getD j 0):i=j:=by
 have hn:=abl h.nrm;rw[JI hi,JI hj]at e;exact(List.getElem_inj hn).1 e
theorem aho.sur {c:Int} {ls:List (List Int)} {sum:Int} {f:List Int} (h:aho c ls sum f) {x:Int} (hx:1≤x∧x≤c):∃i,i<f.length∧f.getD i 0=x:=by
 have hl:=h.len;have h1:x∈fG f:=by
  rw[Qh h.nrm];exact agQ.2 ⟨(x-1).toNat,afY.2 (by omega),by omega⟩
 have h2:x∈f:=(ahi f _).mem_iff.1 h1;obtain⟨i,hi,rfl⟩:=(iG _ x).1 h2;exact⟨i,hi,rfl⟩
theorem Alw.dec {c:Int} {ls:List (List Int)} {sum:Int} {s:St} {f:List Int} (hB:bO c ls sum s) (hA:Alw s f) {i:Nat} (hi:i<f.length) (hd:s.dc i=true):s.cd i=[f.getD i 0]:=by
 have h1:=hB.dec i (by rw[hA.len];exact hi) hd
 obtain⟨z,hz⟩:=ajl.1 h1;have:=hA.mem i hi;rw[hz,agL]at this;rw[hz,this]
theorem ahW {c:Int} {ls:List (List Int)} {sum:Int} {s:St} {f:List Int} (hB:bO c ls sum s) (hA:Alw s f) (hf:aho c ls sum f) {k:Nat} (hk:k<ls.length):
 rst s sum (ls.getD k [])=sF (fun x=>if !(s.dc x.toNat)then f.getD x.toNat 0 else 0) (ls.getD k []):=by
 have h1:=hf.sum k hk;rw[aiJ]at h1;rw[aiW];have h2:sF (fun x=>f.getD x.toNat 0) (ls.getD k [])=sF (fun x=>(if s.dc x.toNat then hd0 (s.cd x.toNat)else 0)+(if !(s.dc x.toNat)then f.getD x.toNat 0 else 0)) (ls.getD k []):=ahq fun x hx=>by
  have hr:=(hB.ln k hk).rng x hx;have hl:=hf.len;cases hd:s.dc x.toNat with
  |true=>
   rw[hA.dec hB (by omega) hd]
   simp[hd0]
  |false=>simp
 rw[aif]at h2;omega
theorem ahx {c:Int} {ls:List (List Int)} {sum:Int} {s:St} {f:List Int} (hB:bO c ls sum s) (hA:Alw s f) (hf:aho c ls sum f) {k:Nat} (hk:k<ls.length) {y:Int} (hy:y∈ls.getD k []) (hd:s.dc y.toNat=false):
 rst s sum (ls.getD k [])=f.getD y.toNat 0+sF (fun x=>f.getD x.toNat 0) (opn s (ls.getD k []) y):=by
 rw[ahW hB hA hf hk,aij];have h1:sF (fun x=>if !(s.dc x.toNat)then f.getD x.toNat 0 else 0) (ls.getD k [])=sF (fun x=>(if x=y then f.getD y.toNat 0 else 0)+(if !(s.dc x.toNat)&&decide (x≠y)then f.getD x.toNat 0 else 0)) (ls.getD k []):=ahq fun x hx=>by
  by_cases e:x=y
  ·subst e;simp[hd]
  ·simp[e]
 rw[h1,aif,aiV (hB.ln k hk).pw hy]
structure aht (c:Int) (ls:List (List Int)) (g:Nat) (y x k:Int):Prop where
 gg:1≤g∧g≤5
 yy:0≤y∧y<c
 xx:1≤x∧x≤c
 kk:lnG g=true→(0≤k∧k<ls.length)∧y∈ls.getD k.toNat []
theorem dz {g:Nat} {s:St} {sum:Int} {l:List Int} {y x:Int}:okJ g s sum l y x=true↔s.dc y.toNat=false∧x∈s.cd y.toNat∧jst g s sum l y x=true:=by
 unfold okJ;simp
theorem sound {c:Int} {ls:List (List Int)} {sum:Int} {s:St} {f:List Int} (hB:bO c ls sum s) (hA:Alw s f) (hf:aho c ls sum f) {g:Nat} {y x k:Int} (hL:aht c ls g y x k) (h:okJ g s sum (ls.getD k.toNat []) y x=true):
 g≤3↔f.getD y.toNat 0=x:=by
 obtain⟨hd,hx,hj⟩:=dz.1 h;have hc:=hB.c1;have hfl:=hf.len;have hsl:=hB.cl;have hyf:y.toNat<f.length:=by have:=hL.yy;omega
 have hfy:=hA.mem _ hyf;have hg:=hL.gg;obtain rfl|rfl|rfl|rfl|rfl:g=1∨g=2∨g=3∨g=4∨g=5:=by omega
 ·refine⟨fun _=>?_,fun _=>by omega⟩
  obtain⟨hk,hm⟩:=hL.kk rfl;have:=ahx hB hA hf (k:=k.toNat) (by omega) hm hd
  simp only[jst,xO,aeA,decide_eq_true_eq]at hj;rw[ajm hj.1]at this;simp only[sF]at this;omega
 ·refine⟨fun _=>?_,fun _=>by omega⟩
  simp only[jst,xP,decide_eq_true_eq]at hj;obtain⟨z,hz⟩:=ajl.1 hj;rw[hz,agL]at hx hfy;rw[hx,hfy]
 ·refine⟨fun _=>?_,fun _=>by omega⟩
  simp only[jst,qd,afI,afY,afs,decide_eq_true_eq,ag8,decide_eq_false_iff_not]at hj;obtain⟨i,hi,e⟩:=hf.sur hL.xx;have h1:=hA.mem i hi;rw[e]at h1;rcases hj i (by rw[hA.len];exact hi)with h2|h2
  ·rw[←h2];simpa using e
  ·exact absurd h1 h2
 ·refine⟨fun h=>by omega,fun e=>?_⟩
  exfalso
  obtain⟨hk,hm⟩:=hL.kk rfl;have h1:=ahx hB hA hf (k:=k.toNat) (by omega) hm hd
  have hr:=fun z (hz:z∈opn s (ls.getD k.toNat []) y)=>(hB.ln k.toNat (by omega)).rng z (dw.1 hz).1
  have hz:=fun z (hz:z∈opn s (ls.getD k.toNat []) y)=>hA.mem z.toNat (by have:=hr z hz;omega)
  have hasc:=fun z (hz:z∈opn s (ls.getD k.toNat []) y)=>(hB.asc z.toNat (by have:=hr z hz;omega)).1.pw
  have h2:xQ s (opn s (ls.getD k.toNat []) y)≤sF (fun x=>f.getD x.toNat 0) (opn s (ls.getD k.toNat []) y):=by
   rw[aiH];exact ahV fun z hzz=>adS (hasc z hzz) _ (hz z hzz)
  have h3:sF (fun x=>f.getD x.toNat 0) (opn s (ls.getD k.toNat []) y)≤xR s (opn s (ls.getD k.toNat []) y):=by
   rw[aiI];exact ahV fun z hzz=>aaN (hasc z hzz) _ (hz z hzz)
  simp only[jst,xS,afs,agC,decide_eq_true_eq]at hj;rcases hj with⟨z,hzz,e0⟩|hj
  ·have:=hz z hzz
   rw[e0]at this;simp at this
  ·omega
 ·refine⟨fun h=>by omega,fun e=>?_⟩
  exfalso
  obtain⟨hk,hm⟩:=hL.kk rfl;have h1:=ahx hB hA hf (k:=k.toNat) (by omega) hm hd
  have hr:=fun z (hz:z∈opn s (ls.getD k.toNat []) y)=>(hB.ln k.toNat (by omega)).rng z (dw.1 hz).1
  simp only[jst,xU,aeA,decide_eq_true_eq,ag8]at hj;have:chs s (opn s (ls.getD k.toNat []) y) [x] (rst s sum (ls.getD k.toNat [])-x)=true:=by
   refine(aiK s _ _ _ (aiX (hB.ln k.toNat (by omega)).pw)).2 ⟨fun z=>f.getD z.toNat 0,fun z hz=>⟨hA.mem _ (by have:=hr z hz;omega),fun hm=>?_⟩,fun z hz w hw hne e1=>?_,by omega⟩
   ·have h2:=hr z hz
    have:=hf.inj (i:=z.toNat) (j:=y.toNat) (by omega) hyf (by rw[e];exact agL.1 hm)
    exact(dw.1 hz).2.2 (by have:=hL.yy;omega)
   ·have h2:=hr z hz
    have h3:=hr w hw;have:=hf.inj (i:=z.toNat) (j:=w.toNat) (by omega) (by omega) e1
    omega
  rw[this]at hj;exact absurd hj.2 (by simp)
theorem ahw {c:Int} {ls:List (List Int)} {sum:Int} {s:St} {f:List Int} (hB:bO c ls sum s) (hA:Alw s f) (hf:aho c ls sum f) {g:Nat} {y x k:Int} (hL:aht c ls g y x k) (h:okJ g s sum (ls.getD k.toNat []) y x=true):Alw (apl g s y x) f:=by
 have hs:=sound hB hA hf hL h;have hc:=hB.c1;have hfl:=hf.len;have hsl:=hB.cl;have hy:=hL.yy;refine⟨AX.1.trans hA.len,fun i hi=>?_⟩;have hm:=hA.mem i hi;rw[aa0 (by omega) i (by omega)]
 by_cases hg:g≤3
 ·have hfy:=hs.1 hg
  rw[if_pos hg];split
  ·rename_i e;rw[e,hfy];simp
  ·rename_i e
   exact pq.2 ⟨hm,fun e1=>e (hf.inj hi (by omega) (by rw[e1,hfy]))⟩
 ·have hfy:f.getD y.toNat 0≠x:=fun e=>hg (hs.2 e)
  rw[if_neg hg];split
  ·rename_i e
   rw[e]at hm⊢;exact pq.2 ⟨hm,hfy⟩
  ·exact hm
theorem aiL {c:Int} {ls:List (List Int)} {sum:Int} {s:St} {f:List Int} (hB:bO c ls sum s) (hA:Alw s f) (hf:aho c ls sum f):brk c ls sum s=false:=by
 have hfl:=hf.len;have hcl:=hB.cl;unfold brk;simp only[Bool.or_eq_false_iff,Bool.not_eq_false',afI,afY,agC,agD,decide_eq_true_eq,aeA];refine⟨⟨fun i hi=>?_,fun l hl e=>?_⟩,fun l hl=>?_⟩
 ·obtain⟨j,hj,e⟩:=hf.sur (x:=(i:Int)+1) (by omega)
  have:=hA.mem j hj;rw[e]at this;exact⟨s.cd j,pW (by omega),this⟩
 ·obtain⟨j,hj,rfl⟩:=aeu hl
  have:=hA.mem j (by rw[←hA.len];exact hj)
  unfold St.cd at this;rw[aeo,aev hj]at this;simp only[Option.getD_some]at this;rw[e]at this;simp at this
 ·rintro⟨h1,h2⟩
  obtain⟨k,hk,rfl⟩:=aeu hl;have e:ls[k]=ls.getD k []:=by rw[aeo,aev hk];rfl
  rw[e]at h1 h2;rw[ahW hB hA hf hk]at h2;apply h2;have:sF (fun x=>f.getD x.toNat 0) (opn s (ls.getD k []) (-1))=0:=by rw[ajm h1];rfl
  rw[aij]at this;refine Eq.trans ?_ this;refine ahq fun x hx=>?_;have:=(hB.ln k hk).rng x hx;have h3:x≠ -1:=by omega
  simp[h3]
theorem aik {c:Int} {ls:List (List Int)} {sum:Int} {s:St} (hB:bO c ls sum s) {g:Nat} (hg:1≤g∧g≤5) {d:Dd} (hm:d∈gH g s sum ls):aht c ls d.g d.y d.x d.k∧okJ d.g s sum (ls.getD d.k.toNat []) d.y d.x=true:=by
 obtain⟨h1,h2,h3,h4⟩:=FV.1 hm;have hcl:=hB.cl;obtain⟨h5,h6,h7⟩:=dz.1 h4;have hA:=hB.asc d.y.toNat (by omega)
 subst h1;refine⟨⟨hg,by omega,?_,fun hl=>?_⟩,h4⟩
 ·have:=hA.1.rng _ h6;have:=hA.2 _ h6;omega
 ·rw[if_pos hl]at h3;exact h3
theorem ah3 {c:Int} {ls:List (List Int)} {sum:Int} {s:St} (hB:bO c ls sum s) {n:Nat} (hn:n≤5) {d:Dd} (hf:iH s sum ls n=some d):aht c ls d.g d.y d.x d.k∧okJ d.g s sum (ls.getD d.k.toNat []) d.y d.x=true∧d.g≤n:=by
 obtain⟨g,g1,g2,hm⟩:=FW hf;obtain⟨h1,h2⟩:=aik hB ⟨g1,by omega⟩ hm
 exact⟨h1,h2,by rw[(FV.1 hm).1];exact g2⟩
theorem ais {c:Int} {ls:List (List Int)} {sum:Int} {f:List Int} (hf:aho c ls sum f) {n:Nat} (hn:n≤5):∀(u:Nat) (s:St) (l:List Dd),bO c ls sum s→StI s→Alw s f→
 (pz c ls sum n u s l).2.2≠21∧Alw (pz c ls sum n u s l).2.1 f∧bO c ls sum (pz c ls sum n u s l).2.1:=by
 intro u;induction u with
 |zero=>exact fun s l hB hI hA=>⟨by simp[pz],hA,hB⟩
 |succ u ih=>
  intro s l hB hI hA;unfold pz;rw[aiL hB hA hf];simp only[ad7,if_false];split
  ·exact⟨by simp,hA,hB⟩
  ·split
   ·exact⟨by simp,hA,hB⟩
   ·rename_i d hd
    obtain⟨h1,h2,h3⟩:=ah3 hB hn hd;obtain⟨h4,h5,h6⟩:=dz.1 h2;obtain⟨h7,h8⟩:=FZ hB hI (g:=d.g) h1.yy h1.xx h4 h5;exact ih _ _ h7 h8 (ahw hB hA hf h1 h2)
def okP (ls:List (List Int)) (sum:Int) (f:List Int):Bool:=ls.all fun l=>!decide (l.getD (l.length-1) 0<f.length)||decide (mD f l=sum)
theorem aiY {l:List Int} (hp:l.Pairwise (·< ·)) {a:Int} (ha:∀x∈l,a≤x):∀i,i<l.length→a+i≤l.getD i 0:=by
 intro i;induction i with
 |zero=>intro hi;have:=ha _ (pW (d:=(0:Int)) hi);omega
 |succ i ih=>
  intro hi;have h1:=ih (by omega)
  have h2:=ajn.1 hp i (i+1) (by omega) hi (by omega)
  rw[JI (show i<l.length by omega)]at h1
  rw[JI hi];omega
theorem aiZ {l:List Int} (hp:l.Pairwise (·< ·)) {b:Int} (hb:∀x∈l,x≤b):∀d i,i+d+1=l.length→l.getD i 0+d≤b:=by
 intro d;induction d with
 |zero=>intro i hi;have:=hb _ (pW (l:=l) (d:=(0:Int)) (show i<l.length by omega));omega
 |succ d ih=>
  intro i hi;have h1:=ih (i+1) (by omega)
  have h2:=ajn.1 hp i (i+1) (by omega) (by omega) (by omega)
  rw[JI (show i+1<l.length by omega)]at h1
  rw[JI (show i<l.length by omega)];omega
theorem ai0 {F:List Int} (hn:F.Nodup) (hr:∀x∈F,1≤x∧x≤F.length):nO F=true:=by
 have hp:(fG F).Perm F:=ahi F _;have hs:(fG F).Pairwise (·≤ ·):=by
  have:=List.pairwise_mergeSort (le:=fun x y:Int=>decide (x≤y)) (fun a b c h1 h2=>by simp at*;omega) (fun a b=>by simp;omega) F
  exact this.imp fun h=>by simpa using h
 have hs2:(fG F).Pairwise (·< ·):=by
  have hn2:(fG F).Pairwise (·≠ ·):=hp.nodup_iff.2 hn;exact hs.imp₂ (fun a b h1 h2=>by omega) hn2
 have hlo:=aiY hs2 (a:=1) fun x hx=>(hr x (hp.mem_iff.1 hx)).1;have hhi:=aiZ hs2 (b:=F.length) fun x hx=>(hr x (hp.mem_iff.1 hx)).2;refine Qg fun i hi=>?_;have h1:=hlo i (by rw[mY];exact hi)
 have h2:=hhi (F.length-1-i) i (by rw[mY];omega)
 omega
structure ajd (c:Int) (ls:List (List Int)) (sum:Int) (gv F:List Int):Prop where
 s:aho c ls sum F
 g:∀i,i<gv.length→0<gv.getD i 0→gv.getD i 0=F.getD i 0
structure SrJ (c:Int) (ls:List (List Int)) (sum:Int) (gv:List Int) (f:Nat) (N U:List Int):Prop where
 fl:f≤gv.length
 nl:N.length=gv.length
 tl:∀j,gv.length-f≤j→j<gv.length→N.getD j 0=gv.getD j 0
 us:∀x:Int,1≤x→(x∈U↔x∈gv∨x∈N.take (gv.length-f))
 gd:∀i,i<gv.length-f→(0<gv.getD i 0→N.getD i 0=gv.getD i 0)∧(gv.getD i 0=0→N.getD i 0∉gv)
 pv:1≤gv.length-f→okP ls sum (N.take (gv.length-f-1))=true
end Go.Eng.YtcechbdgokjmgaaGreatDoor
namespace Go.Eng.YtcechbdgokjmgaaGreatDoor
open Go.Proofs
set_option linter.unusedSimpArgs false
set_option linter.unusedVariables false
set_option maxHeartbeats 0
set_option maxRecDepth 100000
theorem ah1 (l f:List Int) (h:l.length≤1000) (hl:∀x∈l,0≤x∧x<f.length) (hf:∀x∈f,0≤x∧x≤16):aF Tryz.prog 119 [.isl (.ints .i64 l) .none,.isl (.ints .i64 f) .none] (.int .i64 (mD f l)):=by
 refine av (md:=1) (rf:=[]) mixed ak aD Tryz.func119 (by rfl) (by rfl) (by rfl) ?_
 repeat'((conv=>whnf);first|(intro hq;(try simp only[vw]at hq);try first|exact absurd hq (by decide)|exfalso;omega)|apply aI|with_reducible exact vM rfl|exact⟨⟩|apply nM|apply fM)
 all_goals((try apply vM);(try simp only[vq]at*);try omega)
 conv=>whnf
 refine aM (X:=Nat) (fun i=>i≤l.length) (fun i=>[(6,.int .i64 i),(5,.int .i64 (mD f (l.take i)))]) (fun i=>[]) (fun i=>l.length-i) 0 ⟨aK,mixed,ak,aD,aQ⟩ (by rfl) (by omega) ?_ ?_
 ·repeat'((conv=>whnf);first|intro _|apply aI|with_reducible exact vM rfl|exact⟨⟩|apply nM|apply fM)
  all_goals((try apply vM);(try simp only[vq]at*);try omega)
  all_goals rfl
 intro i hi;have hbd:=wC hf (l.take i);rw[ae0]at hbd;by_cases hlt:i<l.length
 ·have hx:=hl _ (pW (d:=(0:Int)) hlt)
  have hxl:(l.getD i 0).toNat<f.length:=by omega
  have hfx:=hf _ (pW (d:=(0:Int)) hxl);have hap:=Gd f (l.take i) (l.getD i 0);rw[←dF hlt]at hap
  repeat'((conv=>whnf);first|(intro hq;(try simp only[vw]at hq);try first|exact absurd hq (by decide)|exfalso;omega)|apply aI|with_reducible exact vM rfl|exact⟨⟩|apply nM|apply fM)
  all_goals((try apply vM);(try simp only[vq]at*);try omega)
  all_goals(try omega)
  refine⟨i+1,[],⟨by omega,by omega⟩,?_⟩
  rw[hap]
  repeat'((conv=>whnf);first|intro _|apply aI|with_reducible exact vM rfl|exact⟨⟩|apply nM|apply fM)
  all_goals((try apply vM);(try simp only[vq]at*);try omega)
 ·have:i=l.length:=by omega
  subst this;rw[af5]
  repeat'((conv=>whnf);first|(intro hq;(try simp only[vw]at hq);try first|exact absurd hq (by decide)|exfalso;omega)|apply aI|with_reducible exact vM rfl|exact⟨⟩|apply nM|apply fM)
  all_goals((try apply vM);(try simp only[vq]at*);try omega)
  all_goals(try first|omega|exact Sup.of rfl)
def ahE:PSp:=fun xs K=>match xs with
 | [.isl (.ints .i64 l) .none,.isl (.ints .i64 f) .none]=>VC (l.length≤1000∧(∀x∈l,0≤x∧x<f.length)∧∀x∈f,0≤x∧x≤16)∧K (.int .i64 (mD f l))
 |_=>False
theorem ail:POK Tryz.prog 119 ahE:=by
 intro xs K h;unfold ahE at h;split at h
 ·exact⟨_,h.2,ah1 _ _ h.1.get.1 h.1.get.2.1 h.1.get.2.2⟩
 ·exact h.elim
theorem clD {b:Bool} (h:b=false) (h':b=true):False:=by rw[h]at h';cases h'
def csE (c:Int) (s:St):Int:=if(s.cs.length:Int)≠c∨(s.ds.length:Int)≠c then 2 else cO (fun i=>kL c (s.cd i) (s.dc i)) s.cs.length
theorem ait (c:Int) (ls:List (List Int)) (sum:Int) (gv:List Int) (s:St) (h1:s.cs.length≤1000000∧s.ds.length≤1000000) (h2:∀i,i<s.cs.length→(s.cs.getD i []).length≤1000000):aF Tryz.prog 49 [pzV c ls sum gv,stV s] (.int .i64 (csE c s)):=by
 by_cases hl:(s.cs.length:Int)≠c∨(s.ds.length:Int)≠c
 ·have he:csE c s=2:=if_pos hl
  rw[he];refine av (md:=1) (rf:=[]) mixed ak aD Tryz.func49 (by rfl) (by rfl) (by rfl) ?_
  repeat'((conv=>whnf);first|(intro hq;(try simp only[vw]at hq);try first|exact absurd hq (by decide)|exfalso;omega)|apply aI|with_reducible exact vM rfl|exact⟨⟩|apply nM|apply fM)
  all_goals((try apply vM);(try simp only[vq]at*);try omega)
  all_goals(try first|omega|exact Sup.of rfl)
 have he:csE c s=cO (fun i=>kL c (s.cd i) (s.dc i)) s.cs.length:=if_neg hl;have e1:(s.cs.length:Int)=c:=by omega
 have e2:(s.ds.length:Int)=c:=by omega
 refine av (md:=1) (rf:=[]) mixed ak aD Tryz.func49 (by rfl) (by rfl) (by rfl) ?_
 repeat'((conv=>whnf);first|(intro hq;(try simp only[vw]at hq);try first|exact absurd hq (by decide)|exfalso;omega)|apply aI|with_reducible exact vM rfl|exact⟨⟩|apply nM|apply fM)
 all_goals((try apply vM);(try simp only[vq]at*);try omega)
 all_goals(try omega)
 conv=>whnf
 refine aM (X:=Nat) (fun i=>i≤s.cs.length∧∀j,j<i→kL c (s.cd j) (s.dc j)=0) (fun i=>[(6,.int .i64 i)]) (fun i=>[]) (fun i=>s.cs.length-i) 0 ⟨aK,mixed,ak,aD,aQ⟩ (by rfl) ⟨by omega,fun j hj=>by omega⟩ ?_ ?_
 ·repeat'((conv=>whnf);first|intro _|apply aI|with_reducible exact vM rfl|exact⟨⟩|apply nM|apply fM)
  all_goals((try apply vM);(try simp only[vq]at*);try omega)
 intro i ⟨hi,hok⟩;by_cases hlt:i<s.cs.length
 case neg=>
  have:i=s.cs.length:=by omega
  subst this;rw[he,fO hok]
  repeat'((conv=>whnf);first|(intro hq;(try simp only[vw]at hq);try first|exact absurd hq (by decide)|exfalso;omega)|apply aI|with_reducible exact vM rfl|exact⟨⟩|apply nM|apply fM)
  all_goals((try apply vM);(try simp only[vq]at*);try omega)
  all_goals(try first|omega|exact Sup.of rfl)
 have hll:=h2 i hlt;have fin:∀e,kL c (s.cd i) (s.dc i)=e→e≠0→csE c s=e:=fun e a1 a2=>by
  rw[he];exact(dY hlt (by rw[a1];exact a2) hok).trans a1
 have nxt:kL c (s.cd i) (s.dc i)=0→∀j,j<i+1→kL c (s.cd j) (s.dc j)=0:=fun a j hj=>by
  by_cases e:j=i
  ·subst e;exact a
  ·exact hok j (by omega)
 have hcd:s.cd i=s.cs.getD i []:=rfl;have hdc:s.dc i=s.ds.getD i false:=rfl;rw[hcd,hdc]at fin nxt;obtain⟨l,hL⟩:∃l,s.cs.getD i []=l:=⟨_,rfl⟩;rw[hL]at fin nxt hll
 repeat'((conv=>whnf);first|(intro hq;(try simp only[vw]at hq);try first|exact absurd hq (by decide)|exfalso;omega)|apply aI|with_reducible exact vM rfl|exact⟨⟩|apply nM|apply fM)
 all_goals((try apply vM);(try simp only[vq]at*);try omega)
 all_goals(try omega)
 conv=>whnf
 refine aM (X:=Nat) (fun k=>k≤l.length∧∀j,j<k→1≤l.getD j 0∧l.getD j 0≤c) (fun k=>[(7,.isl (.ints .i64 l) .none),(8,.int .i64 k)]) (fun k=>[]) (fun k=>l.length-k) 0 ⟨aK,mixed,ak,aD,aQ⟩ (by rfl) ⟨by omega,fun j hj=>by omega⟩ ?_ ?_
 ·repeat'((conv=>whnf);first|intro _|apply aI|with_reducible exact vM rfl|exact⟨⟩|apply nM|apply fM)
  all_goals((try apply vM);(try simp only[vq]at*);try omega)
  all_goals first|exact hL|exact hL.symm|(rw[hL];done)|skip
 intro k ⟨hk,hkr⟩;by_cases hkl:k<l.length
 ·have hno:(l.getD k 0<1∨c<l.getD k 0)→csE c s=3:=fun a=>by
   refine fin 3 ?_ (by decide)
   have:l.any (jI 1 c)=true:=agC.2 ⟨l.getD k 0,pW hkl,by
    unfold jI;rcases a with a|a
    ·rw[decide_eq_true a];rfl
    ·rw[decide_eq_true a,Bool.or_true]⟩
   unfold kL;rw[this];rfl
  repeat'((conv=>whnf);first|(intro hq;(try simp only[vw]at hq);try first|exact absurd hq (by decide)|exfalso;omega)|apply aI|with_reducible exact vM rfl|exact⟨⟩|apply nM|apply fM)
  all_goals((try apply vM);(try simp only[vq]at*);try omega)
  all_goals(try omega)
  ·rw[hno (.inr hq)];exact Sup.of rfl
  ·refine⟨k+1,[],⟨⟨by omega,fun j hj=>?_⟩,by omega⟩,?_⟩
   ·by_cases e:j=k
    ·subst e;omega
    ·exact hkr j (by omega)
   repeat'((conv=>whnf);first|intro _|apply aI|with_reducible exact vM rfl|exact⟨⟩|apply nM|apply fM)
   all_goals((try apply vM);(try simp only[vq]at*);try omega)
  ·rw[hno (.inl hq)];exact Sup.of rfl
 have ek:k=l.length:=by omega
 subst ek;have hany:l.any (jI 1 c)=false:=by
  rw[agD];intro x hx;obtain⟨j,hj,rfl⟩:=(iG l x).1 hx;have:=hkr j hj;unfold jI;rw[decide_eq_false (by omega),decide_eq_false (by omega)];simp
 repeat'((conv=>whnf);first|(intro hq;(try simp only[vw]at hq);try first|exact absurd hq (by decide)|exfalso;omega)|apply aI|with_reducible exact vM rfl|exact⟨⟩|apply nM|apply fM)
 all_goals((try apply vM);(try simp only[vq]at*);try omega)
 all_goals(try omega)
 conv=>whnf
 refine aM (X:=Nat) (fun k=>1≤k∧(k≤l.length∨k=1)∧upB l k=true) (fun k=>[(7,.isl (.ints .i64 l) .none),(9,.int .i64 k)]) (fun k=>[]) (fun k=>l.length+1-k) 1 ⟨aK,mixed,ak,aD,aQ⟩ (by rfl) ⟨by omega,.inr rfl,by simp[upB]⟩ ?_ ?_
 ·repeat'((conv=>whnf);first|intro _|apply aI|with_reducible exact vM rfl|exact⟨⟩|apply nM|apply fM)
  all_goals((try apply vM);(try simp only[vq]at*);try omega)
 intro k ⟨hk1,hk2,hku⟩;have hus:=Sn l k;rw[hku,agO]at hus;by_cases hkl:k<l.length
 ·have ekk:((k:Int)-1).toNat=k-1:=by omega
  repeat'((conv=>whnf);first|(intro hq;(try simp only[vw]at hq);try first|exact absurd hq (by decide)|exfalso;omega)|apply aI|with_reducible exact vM rfl|exact⟨⟩|apply nM|apply fM)
  all_goals((try apply vM);(try simp only[vq]at*);try omega)
  all_goals(try omega)
  ·rw[ekk]at hq
   have h11:upB l l.length=false:=by
    cases e:upB l l.length with
    |false=>rfl
    |true=>
     have:=afI.1 e k (afY.2 hkl);rw[decide_eq_true_eq]at this;omega
   rw[fin 11 (by unfold kL;rw[hany,h11];rfl) (by decide)]
   exact Sup.of rfl
  ·rw[ekk]at hq
   refine⟨k+1,[],⟨⟨by omega,.inl (by omega),by rw[hus];exact decide_eq_true (.inr (by omega))⟩,by omega⟩,?_⟩
   repeat'((conv=>whnf);first|intro _|apply aI|with_reducible exact vM rfl|exact⟨⟩|apply nM|apply fM)
   all_goals((try apply vM);(try simp only[vq]at*);try omega)
 have hup:upB l l.length=true:=by
  by_cases e:k=l.length
  ·rw[←e];exact hku
  ·have:l.length=0:=by omega
   rw[this];rfl
 cases hd:s.ds.getD i false with
 |false=>
  have c0:kL c l false=0:=by unfold kL;rw[hany,hup];rfl
  rw[hd]at nxt
  repeat'((conv=>whnf);first|(intro hq;(try simp only[vw]at hq);try first|exact absurd hq (by decide)|exfalso;omega)|apply aI|with_reducible exact vM rfl|exact⟨⟩|apply nM|apply fM)
  all_goals((try apply vM);(try simp only[vq]at*);try omega)
  all_goals(try omega)
  all_goals(try(exfalso;refine clD hd ?_;assumption))
  refine⟨i+1,[],⟨⟨by omega,nxt c0⟩,by omega⟩,?_⟩
  repeat'((conv=>whnf);first|intro _|apply aI|with_reducible exact vM rfl|exact⟨⟩|apply nM|apply fM)
  all_goals((try apply vM);(try simp only[vq]at*);try omega)
 |true=>
  rw[hd]at nxt fin;by_cases hl1:l.length=1
  ·have c0:kL c l true=0:=by unfold kL;rw[hany,hup,decide_eq_false (fun e=>e hl1)];rfl
   repeat'((conv=>whnf);first|(intro hq;(try simp only[vw]at hq);try first|exact absurd hq (by decide)|exfalso;omega)|apply aI|with_reducible exact vM rfl|exact⟨⟩|apply nM|apply fM)
   all_goals((try apply vM);(try simp only[vq]at*);try omega)
   all_goals(try omega)
   all_goals(try(exfalso;refine clD ?_ hd;assumption))
   refine⟨i+1,[],⟨⟨by omega,nxt c0⟩,by omega⟩,?_⟩
   repeat'((conv=>whnf);first|intro _|apply aI|with_reducible exact vM rfl|exact⟨⟩|apply nM|apply fM)
   all_goals((try apply vM);(try simp only[vq]at*);try omega)
  ·have c0:kL c l true=29:=by unfold kL;rw[hany,hup,decide_eq_true hl1];rfl
   repeat'((conv=>whnf);first|(intro hq;(try simp only[vw]at hq);try first|exact absurd hq (by decide)|exfalso;omega)|apply aI|with_reducible exact vM rfl|exact⟨⟩|apply nM|apply fM)
   all_goals((try apply vM);(try simp only[vq]at*);try omega)
   all_goals(try omega)
   all_goals(try(exfalso;refine clD ?_ hd;assumption))
   rw[fin 29 c0 (by decide)]
   exact Sup.of rfl
def aiu:PSp:=fun xs K=>match xs with
 | [.agg [.int .i64 c,.isl (.rows .i64 ls) .none,.int .i64 sum,.isl (.ints .i64 gv) .none],.agg [.isl (.rows .i64 CS) .none,.isl (.bools DS) .none]]=>VC ((CS.length≤1000000∧DS.length≤1000000)∧∀i,i<CS.length→(CS.getD i []).length≤1000000)∧K (.int .i64 (csE c ⟨CS,DS⟩))
 |_=>False
theorem ai1:POK Tryz.prog 49 aiu:=by
 intro xs K h;unfold aiu at h;split at h
 ·exact⟨_,h.2,ait _ _ _ _ ⟨_,_⟩ h.1.get.1 h.1.get.2⟩
 ·exact h.elim
theorem ah4 {c:Int} {ls:List (List Int)} {sum:Int} {gv:List Int} {s:St} (h:pzE c ls sum gv=0):dx c ls sum gv s=csE c s:=by
 by_cases hl:(s.cs.length:Int)≠c∨(s.ds.length:Int)≠c
 ·have e:aG [pzE c ls sum gv,2]=2:=by rw[h];rfl
  rw[PW (x:=2) (by rw[e];simp) (by rw[if_pos hl]),e]
  exact(if_pos hl).symm
 ·rw[JM (by omega) (by omega) h]
  exact(if_neg hl).symm
def ahy (f:List Int):Bool:=(ael f.length).all fun k:Nat=>decide ((k:Int)+1∈f)
theorem aiM {α:Type} [DecidableEq α]:∀(l m:List α),l.Nodup→(∀x∈l,x∈m)→l.length≤m.length:=by
 intro l;induction l with
 |nil=>intro m _ _;simp
 |cons x r ih=>
  intro m hn hm;have hn':=afE.1 hn;have hx:=hm x (by simp)
  have:=ih (m.erase x) hn'.2 fun y hy=>(List.mem_erase_of_ne (fun e=>hn'.1 y hy e.symm)).2 (hm y (by simp[hy]))
  rw[List.length_erase_of_mem hx]at this;have:=List.length_pos_of_mem hx;simp only[List.length_cons];omega
def ahr (n:Nat):List Int:=(ael n).map fun k:Nat=>(k:Int)+1
theorem aiv (n:Nat):(ahr n).Nodup:=by
 unfold ahr;rw[List.Nodup,List.pairwise_map];exact List.pairwise_lt_range.imp fun h e=>by omega
theorem ahL {n:Nat} {x:Int}:x∈ahr n↔1≤x∧x≤n:=by
 unfold ahr;rw[agQ];constructor
 ·rintro⟨k,hk,rfl⟩
  have:=afY.1 hk;omega
 ·intro h
  exact⟨(x-1).toNat,afY.2 (by omega),by omega⟩
theorem aiN {l:List Int} {j:Nat} {x:Int} (hj:j<l.length) (hx:x∈l) (h:x=l.getD j 0→∃i,i<l.length∧i≠j∧l.getD i 0=x):x∈l.eraseIdx j:=by
 obtain⟨i,hi,e⟩:=(iG l x).1 hx;rw[List.mem_eraseIdx_iff_getElem];by_cases q:i=j
 ·obtain⟨k,h1,h2,h3⟩:=h (by rw[←e,q])
  exact⟨k,h1,h2,by rw[←JI h1];exact h3⟩
 ·exact⟨i,hi,q,by rw[←JI hi];exact e⟩
theorem ahF {f:List Int}:ahy f=true↔nO f=true:=by
 constructor
 ·intro h
  have hs:∀x∈ahr f.length,x∈f:=fun x hx=>by
   have h1:=ahL.1 hx;have:=afI.1 h (x-1).toNat (afY.2 (by omega))
   rw[decide_eq_true_eq,show(((x-1).toNat:Nat):Int)+1=x by omega]at this
   exact this
  have key:∀j,j<f.length→(∀x∈ahr f.length,x=f.getD j 0→∃i,i<f.length∧i≠j∧f.getD i 0=x)→False:=fun j hj hx=>by
   have:=aiM (ahr f.length) (f.eraseIdx j) (aiv _) fun x hm=>aiN hj (hs x hm) (hx x hm);rw[List.length_eraseIdx_of_lt hj]at this;simp only[ahr,af0,List.length_range]at this;omega
  refine ai0 ?_ fun x hx=>?_
  ·rw[List.Nodup,ajn]
   intro i j hi hj hij e;exact key j hj fun x hx e1=>⟨i,hi,by omega,by rw[e1,JI hi,JI hj];exact e⟩
  ·obtain⟨j,hj,rfl⟩:=(iG f x).1 hx
   refine ajo fun hno=>key j hj fun x hx e1=>?_;have:=ahL.1 hx;exact absurd (by rw[e1]at this;exact this) hno
 ·intro h
  refine afI.2 fun k hk=>decide_eq_true ?_;have hk:=afY.1 hk;have h1:(k:Int)+1∈fG f:=by
   rw[Qh h];exact agQ.2 ⟨k,afY.2 hk,rfl⟩
  exact(ahi f _).mem_iff.1 h1
theorem ain (f:List Int) (h:f.length≤1000000):aF Tryz.prog 54 [.isl (.ints .i64 f) .none] (.bp (ahy f)):=by
 refine av (md:=1) (rf:=[]) mixed ak aD Tryz.func54 (by rfl) (by rfl) (by rfl) ?_
 repeat'((conv=>whnf);first|(intro hq;(try simp only[vw]at hq);try first|exact absurd hq (by decide)|exfalso;omega)|apply aI|with_reducible exact vM rfl|exact⟨⟩|apply nM|apply fM)
 all_goals((try apply vM);(try simp only[vq]at*);try omega)
 conv=>whnf
 refine aM (X:=Nat) (fun n=>n≤f.length∧∀k,k<n→(k:Int)+1∈f) (fun n=>[(3,.int .i64 ((n:Int)+1))]) (fun n=>[]) (fun n=>f.length-n) 0 ⟨aK,mixed,ak,aD,aQ⟩ (by rfl) ⟨by omega,fun k hk=>by omega⟩ ?_ ?_
 ·repeat'((conv=>whnf);first|intro _|apply aI|with_reducible exact vM rfl|exact⟨⟩|apply nM|apply fM)
  all_goals((try apply vM);(try simp only[vq]at*);try omega)
 intro n ⟨hn,hok⟩;by_cases hlt:n<f.length
 case neg=>
  have e:ahy f=true:=afI.2 fun k hk=>decide_eq_true (hok k (by have:=afY.1 hk;omega))
  rw[e]
  repeat'((conv=>whnf);first|(intro hq;(try simp only[vw]at hq);try first|exact absurd hq (by decide)|exfalso;omega)|apply aI|with_reducible exact vM rfl|exact⟨⟩|apply nM|apply fM)
  all_goals((try apply vM);(try simp only[vq]at*);try omega)
  all_goals(try first|omega|exact dK true)
 repeat'((conv=>whnf);first|(intro hq;(try simp only[vw]at hq);try first|exact absurd hq (by decide)|exfalso;omega)|apply aI|with_reducible exact vM rfl|exact⟨⟩|apply nM|apply fM)
 all_goals((try apply vM);(try simp only[vq]at*);try omega)
 all_goals(try omega)
 conv=>whnf
 refine aM (X:=Nat) (fun i=>i≤f.length) (fun i=>[(5,.int .i64 i),(4,.bp (decide ((n:Int)+1∈f.take i)))]) (fun i=>[]) (fun i=>f.length-i) 0 ⟨aK,mixed,ak,aD,aQ⟩ (by rfl) (by omega) ?_ ?_
 ·repeat'((conv=>whnf);first|intro _|apply aI|with_reducible exact vM rfl|exact⟨⟩|apply nM|apply fM)
  all_goals((try apply vM);(try simp only[vq]at*);try omega)
  all_goals(try(simp;done))
 intro i hi;by_cases hli:i<f.length
 ·have ht:=dF hli
  have hin:(n:Int)+1∈f.take i→decide ((n:Int)+1∈f.take (i+1))=true:=fun a=>decide_eq_true (by rw[ht];exact aer _ a)
  have hout:(n:Int)+1∉f.take i→decide ((n:Int)+1∈f.take (i+1))=decide (f.getD i 0=(n:Int)+1):=fun a=>by
   rw[ht];by_cases e:f.getD i 0=(n:Int)+1
   ·rw[decide_eq_true e,decide_eq_true (by rw[e];simp)]
   ·rw[decide_eq_false e,decide_eq_false (by rw[aep,agL];rintro(q|q);exact a q;exact e q.symm)]
  repeat'((conv=>whnf);first|(intro hq;(try simp only[vw]at hq);try first|exact absurd hq (by decide)|exfalso;omega)|apply aI|with_reducible exact vM rfl|exact⟨⟩|apply nM|apply fM)
  all_goals((try apply vM);(try simp only[vq]at*);try omega)
  all_goals(try omega)
  ·refine⟨i+1,[],⟨by omega,by omega⟩,?_⟩
   rw[hout hq]
   repeat'((conv=>whnf);first|intro _|apply aI|with_reducible exact vM rfl|exact⟨⟩|apply nM|apply fM)
   all_goals((try apply vM);(try simp only[vq]at*);try omega)
  ·refine⟨i+1,[],⟨by omega,by omega⟩,?_⟩
   rw[decide_eq_true (show(n:Int)+1∈f.take (i+1) by rw[ht];exact aer _ hq)]
   repeat'((conv=>whnf);first|intro _|apply aI|with_reducible exact vM rfl|exact⟨⟩|apply nM|apply fM)
   all_goals((try apply vM);(try simp only[vq]at*);try omega)
 have:i=f.length:=by omega
 subst this;rw[af5]
 repeat'((conv=>whnf);first|(intro hq;(try simp only[vw]at hq);try first|exact absurd hq (by decide)|exfalso;omega)|apply aI|with_reducible exact vM rfl|exact⟨⟩|apply nM|apply fM)
 all_goals((try apply vM);(try simp only[vq]at*);try omega)
 all_goals(try omega)
 ·rw[show ahy f=false from ahh.2 ⟨n,afY.2 hlt,by rw[decide_eq_false hq];simp⟩]
  exact dK false
 ·refine⟨n+1,[],⟨⟨by omega,fun k hk=>?_⟩,by omega⟩,?_⟩
  ·by_cases e:k=n
   ·subst e;exact hq
   ·exact hok k (by omega)
  repeat'((conv=>whnf);first|intro _|apply aI|with_reducible exact vM rfl|exact⟨⟩|apply nM|apply fM)
  all_goals((try apply vM);(try simp only[vq]at*);try omega)
def ah7:PSp:=fun xs K=>match xs with
 | [.isl (.ints .i64 f) .none]=>VC (f.length≤1000000)∧K (.bp (ahy f))
 |_=>False
theorem aiO:POK Tryz.prog 54 ah7:=by
 intro xs K h;unfold ah7 at h;split at h
 ·exact⟨_,h.2,ain _ h.1.get⟩
 ·exact h.elim
def ahp (c:Int) (ls:List (List Int)) (sum:Int) (gv f:List Int):Bool:=decide ((f.length:Int)=c)&&(ahy f&&((ael f.length).all (fun i=>!(decide (0<gv.getD i 0)&&decide (gv.getD i 0≠f.getD i 0)))&&ls.all fun l=>decide (mD f l=sum)))
noncomputable def aje:CPT:=aA 54 (aB ah7) (aA 119 (aB ahE) noC)
theorem ahs:aW Tryz.prog aje:=aj (au aiO) (aj (au ail) aD)
theorem ah2 (c:Int) (ls:List (List Int)) (sum:Int) (gv f:List Int) (h:dR c ls sum gv):aF Tryz.prog 48 [pzV c ls sum gv,.isl (.ints .i64 f) .none] (.bp (ahp c ls sum gv f)):=by
 have hc:=h.c1;have hgl:=h.gl;have no:ahp c ls sum gv f=false→Sup (bF [PV.bool false]) (.bp (ahp c ls sum gv f)):=fun e=>by rw[e];exact dK false
 by_cases h1:(f.length:Int)=c
 case neg=>
  have e:ahp c ls sum gv f=false:=by unfold ahp;rw[decide_eq_false h1];rfl
  refine av (md:=1) (rf:=[]) mixed ak ahs Tryz.func48 (by rfl) (by rfl) (by rfl) ?_
  repeat'((conv=>whnf);first|(intro hq;(try simp only[vw]at hq);try first|exact absurd hq (by decide)|exfalso;omega)|apply aI|with_reducible exact vM rfl|exact⟨⟩|apply nM|apply fM)
  all_goals((try apply vM);(try simp only[vq]at*);try omega)
  all_goals(try first|omega|exact no e)
 cases hn:ahy f with
 |false=>
  have e:ahp c ls sum gv f=false:=by unfold ahp;rw[hn,agn,Bool.and_false]
  refine av (md:=1) (rf:=[]) mixed ak ahs Tryz.func48 (by rfl) (by rfl) (by rfl) ?_
  repeat'((conv=>whnf);first|(intro hq;(try simp only[vw]at hq);try first|exact absurd hq (by decide)|exfalso;omega)|apply aI|with_reducible exact vM rfl|exact⟨⟩|apply nM|apply fM)
  all_goals((try apply vM);(try simp only[vq]at*);try omega)
  all_goals(try first|omega|exact no e|(exfalso;exact clD hn hq)|exact absurd (hn.symm.trans hq) (by decide))
  all_goals skip
 |true=>
  have hfr:∀x∈f,0≤x∧x≤16:=fun x hx=>by have:=Bn (ahF.1 hn) x hx;omega
  have eG:ahp c ls sum gv f=((ael f.length).all (fun i=>!(decide (0<gv.getD i 0)&&decide (gv.getD i 0≠f.getD i 0)))&&ls.all fun l=>decide (mD f l=sum)):=by
   unfold ahp;rw[decide_eq_true h1,hn,agO,agO]
  refine av (md:=1) (rf:=[]) mixed ak ahs Tryz.func48 (by rfl) (by rfl) (by rfl) ?_
  repeat'((conv=>whnf);first|(intro hq;(try simp only[vw]at hq);try first|exact absurd hq (by decide)|exfalso;omega)|apply aI|with_reducible exact vM rfl|exact⟨⟩|apply nM|apply fM)
  all_goals((try apply vM);(try simp only[vq]at*);try omega)
  all_goals(try first|omega|exact absurd (hn.symm.trans hq) (by decide)|exact absurd (hq.symm.trans hn) (by decide))
  conv=>whnf
  refine aM (X:=Nat) (fun i=>i≤f.length∧∀j,j<i→¬(0<gv.getD j 0∧gv.getD j 0≠f.getD j 0)) (fun i=>[(5,.int .i64 i)]) (fun i=>[]) (fun i=>f.length-i) 0 ⟨aK,mixed,ak,ahs,aQ⟩ (by rfl) ⟨by omega,fun j hj=>by omega⟩ ?_ ?_
  ·repeat'((conv=>whnf);first|intro _|apply aI|with_reducible exact vM rfl|exact⟨⟩|apply nM|apply fM)
   all_goals((try apply vM);(try simp only[vq]at*);try omega)
  intro i ⟨hi,hok⟩;by_cases hlt:i<f.length
  ·have nxt:¬(0<gv.getD i 0∧gv.getD i 0≠f.getD i 0)→∀j,j<i+1→¬(0<gv.getD j 0∧gv.getD j 0≠f.getD j 0):=fun a j hj=>by
    by_cases e:j=i
    ·subst e;exact a
    ·exact hok j (by omega)
   repeat'((conv=>whnf);first|(intro hq;(try simp only[vw]at hq);try first|exact absurd hq (by decide)|exfalso;omega)|apply aI|with_reducible exact vM rfl|exact⟨⟩|apply nM|apply fM)
   all_goals((try apply vM);(try simp only[vq]at*);try omega)
   all_goals(try omega)
   ·refine no ?_
    rename_i hq2;rw[eG,ahh.2 ⟨i,afY.2 hlt,by rw[decide_eq_true hq2,decide_eq_true hq];simp⟩,agn]
   ·refine⟨i+1,[],⟨⟨by omega,nxt (fun a=>hq a.2)⟩,by omega⟩,?_⟩
    repeat'((conv=>whnf);first|intro _|apply aI|with_reducible exact vM rfl|exact⟨⟩|apply nM|apply fM)
    all_goals((try apply vM);(try simp only[vq]at*);try omega)
   ·refine⟨i+1,[],⟨⟨by omega,nxt (fun a=>hq a.1)⟩,by omega⟩,?_⟩
    repeat'((conv=>whnf);first|intro _|apply aI|with_reducible exact vM rfl|exact⟨⟩|apply nM|apply fM)
    all_goals((try apply vM);(try simp only[vq]at*);try omega)
  have e:i=f.length:=by omega
  subst e;have hA:(ael f.length).all (fun i=>!(decide (0<gv.getD i 0)&&decide (gv.getD i 0≠f.getD i 0)))=true:=afI.2 fun j hj=>by
   have h2:=hok j (afY.1 hj);rw[ag8,ajp,decide_eq_false_iff_not,decide_eq_false_iff_not];by_cases a:0<gv.getD j 0
   ·exact .inr fun b=>h2 ⟨a,b⟩
   ·exact .inl a
  rw[hA,agO]at eG
  repeat'((conv=>whnf);first|(intro hq;(try simp only[vw]at hq);try first|exact absurd hq (by decide)|exfalso;omega)|apply aI|with_reducible exact vM rfl|exact⟨⟩|apply nM|apply fM)
  all_goals((try apply vM);(try simp only[vq]at*);try omega)
  all_goals(try omega)
  conv=>whnf
  refine aM (X:=Nat) (fun i=>i≤ls.length∧∀j,j<i→mD f (ls.getD j [])=sum) (fun i=>[(6,.int .i64 i)]) (fun i=>[]) (fun i=>ls.length-i) 0 ⟨aK,mixed,ak,ahs,aQ⟩ (by rfl) ⟨by omega,fun j hj=>by omega⟩ ?_ ?_
  ·repeat'((conv=>whnf);first|intro _|apply aI|with_reducible exact vM rfl|exact⟨⟩|apply nM|apply fM)
   all_goals((try apply vM);(try simp only[vq]at*);try omega)
  intro i ⟨hi,hok2⟩;have hll:=h.ll;by_cases hlt:i<ls.length
  ·have hL:=h.ln i hlt
   have hlen:=hL.len;have hbd:=wC hfr (ls.getD i []);have hso:(ls.getD i []).length≤1000∧(∀x∈ls.getD i [],0≤x∧x<(f.length:Int))∧∀x∈f,0≤x∧x≤16:=⟨by omega,fun x hx=>by have:=hL.rng x hx;omega,hfr⟩
   repeat'((conv=>whnf);first|(intro hq;(try simp only[vw]at hq);try first|exact absurd hq (by decide)|exfalso;omega)|apply aI|with_reducible exact vM rfl|exact⟨⟩|apply nM|apply fM)
   all_goals((try apply vM);(try simp only[vq]at*);try omega)
   all_goals(try first|omega|exact hso)
   ·refine no ?_
    rw[eG];exact ahh.2 ⟨_,pW (d:=([]:List Int)) hlt,by rw[decide_eq_false hq];simp⟩
   ·refine⟨i+1,[],⟨⟨by omega,fun j hj=>?_⟩,by omega⟩,?_⟩
    ·by_cases e:j=i
     ·subst e;omega
     ·exact hok2 j (by omega)
    repeat'((conv=>whnf);first|intro _|apply aI|with_reducible exact vM rfl|exact⟨⟩|apply nM|apply fM)
    all_goals((try apply vM);(try simp only[vq]at*);try omega)
  have e:i=ls.length:=by omega
  subst e;have hT:ahp c ls sum gv f=true:=by
   rw[eG];refine afI.2 fun l hl=>decide_eq_true ?_;obtain⟨j,hj,rfl⟩:=aeu hl;have:=hok2 j hj;rw[aeo,aev hj]at this;exact this
  rw[hT]
  repeat'((conv=>whnf);first|(intro hq;(try simp only[vw]at hq);try first|exact absurd hq (by decide)|exfalso;omega)|apply aI|with_reducible exact vM rfl|exact⟨⟩|apply nM|apply fM)
  all_goals((try apply vM);(try simp only[vq]at*);try omega)
  all_goals(try first|omega|exact dK true)
theorem aiP {c:Int} {ls:List (List Int)} {sum:Int} {gv f:List Int} (h:dR c ls sum gv):ahp c ls sum gv f=true↔ajd c ls sum gv f:=by
 have hgl:=h.gl;unfold ahp;simp only[aeA,decide_eq_true_eq,afI,afY];constructor
 ·rintro⟨h1,h2,h3,h4⟩
  refine⟨⟨h1,ahF.1 h2,fun i hi=>h4 _ (pW hi)⟩,fun i hi hp=>?_⟩;have:=h3 i (by omega)
  rw[ag8,ajp,decide_eq_false_iff_not,decide_eq_false_iff_not]at this;rcases this with a|a
  ·exact absurd hp a
  ·exact ae2.1 a
 ·rintro⟨⟨h1,h2,h3⟩,h4⟩
  refine⟨h1,ahF.2 h2,fun i hi=>?_,fun l hl=>?_⟩
  ·rw[ag8,ajp,decide_eq_false_iff_not,decide_eq_false_iff_not]
   by_cases a:0<gv.getD i 0
   ·exact .inr fun b=>b (h4 i (by omega) a)
   ·exact .inl a
  ·obtain⟨j,hj,rfl⟩:=aeu hl
   have:=h3 j hj;rw[aeo,aev hj]at this;exact this
def ah8:PSp:=fun xs K=>match xs with
 | [.agg [.int .i64 c,.isl (.rows .i64 ls) .none,.int .i64 sum,.isl (.ints .i64 gv) .none],.isl (.ints .i64 f) .none]=>VC (dR c ls sum gv)∧K (.bp (ahp c ls sum gv f))
 |_=>False
theorem aiQ:POK Tryz.prog 48 ah8:=by
 intro xs K h;unfold ah8 at h;split at h
 ·exact⟨_,h.2,ah2 _ _ _ _ _ h.1.get⟩
 ·exact h.elim
noncomputable def ai2:CPT:=aA 19 (aB Tz) (aA 29 (aB Ns) noC)
theorem aio:aW Tryz.prog ai2:=aj (au abC) (aj (au YQ) aD)
theorem ah9 (c:Int) (ls:List (List Int)) (sum:Int) (gv:List Int):aF Tryz.prog 47 [pzV c ls sum gv] (.bp (Nr c ls sum gv 9 10)):=by
 refine av (md:=1) (rf:=[]) mixed ak aio Tryz.func47 (by rfl) (by rfl) (by rfl) ?_
 repeat'((conv=>whnf);first|(intro hq;(try simp only[vw]at hq);try first|exact absurd hq (by decide)|exfalso;omega)|apply aI|with_reducible exact vM rfl|exact⟨⟩|apply nM|apply fM)
 all_goals((try apply vM);(try simp only[vq]at*);try omega)
 all_goals first|omega|exact Sup.of rfl|skip
def ahX:PSp:=fun xs K=>match xs with
 | [.agg [.int .i64 c,.isl (.rows .i64 ls) .none,.int .i64 sum,.isl (.ints .i64 gv) .none]]=>VC (True)∧K (.bp (Nr c ls sum gv 9 10))
 |_=>False
theorem aiw:POK Tryz.prog 47 ahX:=by
 intro xs K h;unfold ahX at h;split at h
 ·exact⟨_,h.2,ah9 _ _ _ _⟩
 ·exact h.elim
theorem ai3 {c:Int} {ls:List (List Int)} {sum:Int} {gv:List Int} {k n:Nat} (h:Nr c ls sum gv k n=true) (hk:k≤5000) (hn:n≤1000000):pzE c ls sum gv=0∧bH ls∧c≤k∧(gv.length:Int)≤k:=by
 unfold Nr at h;simp only[aeA,decide_eq_true_eq]at h;have h1:=h.1;unfold vG at h1;simp only[aeA,decide_eq_true_eq]at h1;exact⟨h.2.2,TH h.1 hk hn,h1.2.2,h.2.1⟩
end Go.Eng.YtcechbdgokjmgaaGreatDoor
namespace Go.Eng.YtcechbdgokjmgaaGreatDoor
open Go.Proofs Go.RowKit
set_option linter.unusedSimpArgs false
set_option linter.unusedVariables false
set_option maxHeartbeats 0
set_option maxRecDepth 100000
def aix:PSp:=fun xs K=>match xs with
 | [.agg [.int .i64 c,.isl (.rows .i64 ls) .none,.int .i64 sum,.isl (.ints .i64 gv) .none],.int .i64 g]=>VC (bH ls∧gv.length≤5000)∧K (aa5 (su c ls sum gv g))
 |_=>False
theorem ai4:POK Tryz.prog 30 aix:=by
 intro xs K h;unfold aix at h;split at h
 ·exact⟨_,h.2,zL _ _ _ _ _ h.1.get.1 h.1.get.2⟩
 ·exact h.elim
theorem ajb {n:Int} (h:(Go.Lit.int Go.IntKind.u8 n).wf=true):0≤n∧n≤255:=by
 have h1:Go.IntKind.u8.min=0:=by decide
 have h2:Go.IntKind.u8.max=255:=by decide
 simp[Go.Lit.wf,h1,h2]at h;exact h
end Go.Eng.YtcechbdgokjmgaaGreatDoor
namespace Go.Eng.YtcechbdgokjmgaaGreatDoor
open Go.Proofs
set_option linter.unusedSimpArgs false
set_option linter.unusedVariables false
set_option maxHeartbeats 0
set_option maxRecDepth 100000
theorem ahG {c:Int} {ls:List (List Int)} {sum:Int} {s:St} (hB:bO c ls sum s) {g:Nat} (hg:1≤g∧g≤5) {d:Dd} (hm:d∈gH g s sum ls):d.g=g∧dL c ls (nmG g) d.y d.x d.k=0∧okJ g s sum (ls.getD d.k.toNat []) d.y d.x=true∧aht c ls g d.y d.x d.k:=by
 obtain⟨h1,h2,h3,h4⟩:=FV.1 hm;have hL:=(aik hB hg hm).1;rw[h1]at hL;refine⟨h1,?_,h4,hL⟩;have hgi:=aa8 hg;have hy:=hL.yy;have hx:=hL.xx;unfold dL;rw[hgi,if_neg (by omega),if_neg (by omega),if_neg (by omega)]
 by_cases e:g=2∨g=3
 ·rw[if_pos (by omega)]
  have:lnG g=false:=by rcases e with rfl|rfl<;>rfl
  rw[if_neg (by rw[this];simp)]at h3
  rw[if_neg (fun q=>q h3)]
 ·rw[if_neg (by omega)]
  have:lnG g=true:=by
   have:g=1∨g=4∨g=5:=by omega
   rcases this with rfl|rfl|rfl<;>rfl
  rw[if_pos this]at h3;rw[if_neg (fun q=>by rcases q with q|q|q;omega;omega;exact q h3.2)]
def Jd (c:Int) (ls:List (List Int)) (sum:Int):St→List Dd→Prop
 |_,[]=>True
 |s,d::r=>((1≤d.g∧d.g≤5)∧dL c ls (nmG d.g) d.y d.x d.k=0∧okJ d.g s sum (ls.getD d.k.toNat []) d.y d.x=true∧aht c ls d.g d.y d.x d.k)∧Jd c ls sum (apl d.g s d.y d.x) r
def trS (s:St) (l:List Dd):St:=l.foldl (fun s d=>apl d.g s d.y d.x) s
theorem Jd.take {c:Int} {ls:List (List Int)} {sum:Int}:∀(l:List Dd) (s:St) (k:Nat),Jd c ls sum s l→Jd c ls sum s (l.take k):=by
 intro l;induction l with
 |nil=>intro s k h;simp;exact h
 |cons d r ih=>
  intro s k h;cases k with
  |zero=>simp;exact trivial
  |succ k=>exact⟨h.1,ih _ k h.2⟩
theorem Jd.chk {c:Int} {ls:List (List Int)} {sum:Int}:∀(l:List Dd) (s:St) (i:Nat),Jd c ls sum s l→Gc c ls sum s i (l.map adn)=(trS s l,0,0):=by
 intro l;induction l with
 |nil=>intro s i _;rfl
 |cons d r ih=>
  intro s i h;obtain⟨⟨h1,h2,h3,_⟩,h4⟩:=h;have hgi:=aa8 h1;have hg:(aP (nmG d.g)).toNat=d.g:=by rw[hgi];rfl
  have e:vk c ls sum s (adn d)=0:=by
   unfold vk adn;rw[if_neg (by rw[h2];simp),hg,h3,if_pos rfl]
  rw[List.map_cons];unfold Gc;rw[if_neg (by rw[e];simp)]
  have:(aP (adn d).r).toNat=d.g:=hg;rw[this];exact ih _ _ h4
theorem Jd.ok {c:Int} {ls:List (List Int)} {sum:Int}:∀(l:List Dd) (s:St),bO c ls sum s→StI s→Jd c ls sum s l→bO c ls sum (trS s l)∧StI (trS s l):=by
 intro l;induction l with
 |nil=>intro s h1 h2 _;exact⟨h1,h2⟩
 |cons d r ih=>
  intro s h1 h2 h;obtain⟨⟨_,_,h3,hL⟩,h4⟩:=h;obtain⟨q1,q2,q3⟩:=dz.1 h3;obtain⟨h7,h8⟩:=FZ h1 h2 (g:=d.g) hL.yy hL.xx q1 q2;exact ih _ h7 h8 h4
theorem Jd.alw {c:Int} {ls:List (List Int)} {sum:Int} {f:List Int} (hf:aho c ls sum f):∀(l:List Dd) (s:St),bO c ls sum s→StI s→Jd c ls sum s l→Alw s f→Alw (trS s l) f:=by
 intro l;induction l with
 |nil=>intro s _ _ _ hA;exact hA
 |cons d r ih=>
  intro s h1 h2 h hA;obtain⟨⟨_,_,h3,hL⟩,h4⟩:=h;obtain⟨q1,q2,q3⟩:=dz.1 h3;obtain⟨h7,h8⟩:=FZ h1 h2 (g:=d.g) hL.yy hL.xx q1 q2;exact ih _ h7 h8 h4 (ahw h1 hA hf hL h3)
theorem aiR {c:Int} {ls:List (List Int)} {sum:Int} {n:Nat} (hn:n≤5):∀(u:Nat) (s:St) (l:List Dd),bO c ls sum s→StI s→(pz c ls sum n u s l).2.2≠21→∃r,(pz c ls sum n u s l).1=l++r∧Jd c ls sum s r:=by
 intro u;induction u with
 |zero=>intro s l _ _ _;exact⟨[],by simp[pz],trivial⟩
 |succ u ih=>
  intro s l hB hI h;unfold pz at h⊢;split
  ·rename_i hb;rw[if_pos hb]at h;exact absurd rfl h
  rename_i hb;rw[if_neg hb]at h;split
  ·exact⟨[],by simp,trivial⟩
  rename_i hd;rw[if_neg hd]at h;cases hf:iH s sum ls n with
  |none=>exact⟨[],by simp,trivial⟩
  |some d=>
   rw[hf]at h;obtain⟨g,g1,g2,hm⟩:=FW hf;obtain⟨h1,h2,h3,hL⟩:=ahG hB ⟨g1,by omega⟩ hm
   subst h1;obtain⟨q1,q2,q3⟩:=dz.1 h3;obtain⟨h7,h8⟩:=FZ hB hI (g:=d.g) hL.yy hL.xx q1 q2;obtain⟨r,e1,e2⟩:=ih (apl d.g s d.y d.x) (l++[d]) h7 h8 h;exact⟨d::r,by simp only;rw[e1,List.append_assoc];rfl,⟨⟨g1,by omega⟩,h2,h3,hL⟩,e2⟩
theorem aia {c:Int} {ls:List (List Int)} {sum:Int} {s:St} (h:bO c ls sum s):csE c s=0:=by
 have hcl:=h.cl;have hdl:=h.dl;unfold csE;rw[if_neg (by omega)]
 refine fO fun i hi=>?_;obtain⟨h1,h2⟩:=h.asc i hi;have hany:(s.cd i).any (jI 1 c)=false:=by
  rw[agD];intro x hx;have:=h1.rng x hx;have:=h2 x hx;unfold jI;rw[decide_eq_false (by omega),decide_eq_false (by omega)];simp
 have hup:upB (s.cd i) (s.cd i).length=true:=afI.2 fun k hk=>by
  have hk:=afY.1 hk;rw[decide_eq_true_eq];by_cases e:k=0
  ·exact .inl e
  ·right
   have:=ajn.1 h1.pw (k-1) k (by omega) hk (by omega)
   rw[JI (by omega),JI hk];exact this
 unfold kL;rw[hany,hup];cases hd:s.dc i with
 |false=>rfl
 |true=>rw[decide_eq_false (fun e=>e (h.dec i hi hd))];rfl
noncomputable def ajf:CPT:=aA 19 (aB Tz) (aA 24 (aB abD) (aA 49 (aB (aco aiu (.int .i64 0))) (aA 95 (aB Vv) noC)))
theorem ah5:aW Tryz.prog ajf:=aj (au abC) (aj (au adT) (aj (au (adQ ai1 (.int .i64 0))) (aj (au adP) aD)))
theorem ahY {c:Int} {ls:List (List Int)} {sum:Int} {s:St} (h:bO c ls sum s):(s.cs.length≤16∧s.ds.length≤16)∧∀i,(s.cs.getD i []).length≤16:=by
 have:=h.c1;have:=h.cl;have:=h.dl;refine⟨⟨by omega,by omega⟩,fun i=>?_⟩
 by_cases hi:i<s.cs.length
 ·exact Ap (h.asc i hi).1
 ·rw[aeo,List.getElem?_eq_none (by omega)];simp
theorem aib (c:Int) (ls:List (List Int)) (sum:Int) (gv:List Int) (s:St) (f:List Int) (hB:bO c ls sum s) (hA:Alw s f):aF Tryz.prog 60 [pzV c ls sum gv,stV s,.isl (.ints .i64 f) .none] (.bp true):=by
 have hcs:=aia hB;obtain⟨hl1,hl2⟩:=ahY hB;have hAl:=hA.len;refine av (md:=1) (rf:=[]) mixed ak ah5 Tryz.func60 (by rfl) (by rfl) (by rfl) ?_
 repeat'((conv=>whnf);first|(intro hq;(try simp only[vw]at hq);try first|exact absurd hq (by decide)|exfalso;omega)|apply aI|with_reducible exact vM rfl|exact⟨⟩|apply nM|apply fM)
 all_goals((try apply vM);(try simp only[vq]at*);try omega)
 all_goals(try first|exact adV hcs|exact⟨⟨by omega,by omega⟩,fun i _=>by have:=hl2 i;omega⟩|omega)
 conv=>whnf
 refine aM (X:=Nat) (fun i=>i≤f.length) (fun i=>[(7,.int .i64 i)]) (fun i=>[]) (fun i=>f.length-i) 0 ⟨aK,mixed,ak,ah5,aQ⟩ (by rfl) (by omega) ?_ ?_
 ·repeat'((conv=>whnf);first|intro _|apply aI|with_reducible exact vM rfl|exact⟨⟩|apply nM|apply fM)
  all_goals((try apply vM);(try simp only[vq]at*);try omega)
 intro i hi;by_cases hlt:i<f.length
 ·have hm:f.getD i 0∈s.cs.getD i []:=hA.mem i hlt
  have hl3:=hl2 i
  repeat'((conv=>whnf);first|(intro hq;(try simp only[vw]at hq);try first|exact absurd hq (by decide)|exfalso;omega)|apply aI|with_reducible exact vM rfl|exact⟨⟩|apply nM|apply fM)
  all_goals((try apply vM);(try simp only[vq]at*);try omega)
  all_goals(try omega)
  ·exact absurd hm hq
  ·refine⟨i+1,[],⟨by omega,by omega⟩,?_⟩
   repeat'((conv=>whnf);first|intro _|apply aI|with_reducible exact vM rfl|exact⟨⟩|apply nM|apply fM)
   all_goals((try apply vM);(try simp only[vq]at*);try omega)
 ·have:i=f.length:=by omega
  subst this
  repeat'((conv=>whnf);first|(intro hq;(try simp only[vw]at hq);try first|exact absurd hq (by decide)|exfalso;omega)|apply aI|with_reducible exact vM rfl|exact⟨⟩|apply nM|apply fM)
  all_goals((try apply vM);(try simp only[vq]at*);try omega)
  all_goals(try first|omega|exact dK true)
end Go.Eng.YtcechbdgokjmgaaGreatDoor
namespace Go.Eng.YtcechbdgokjmgaaGreatDoor
set_option linter.unusedSimpArgs false
set_option linter.unusedVariables false
structure LeS (t s:St):Prop where
 len:t.cs.length=s.cs.length
 cd:∀i,i<s.cs.length→∀x∈t.cd i,x∈s.cd i
 dc:∀i,i<s.cs.length→s.dc i=true→t.dc i=true
def NeS (t:St):Prop:=∀i,i<t.cs.length→1≤(t.cd i).length
structure TS (c:Int) (ls:List (List Int)) (sum:Int) (t s:St):Prop where
 bt:bO c ls sum t
 it:StI t
 ne:NeS t
 bs:bO c ls sum s
 le:LeS t s
theorem TS.at {c:Int} {ls:List (List Int)} {sum:Int} {t s:St} (h:TS c ls sum t s) {z:Int} (hz:0≤z∧z<c):z.toNat<t.cs.length∧z.toNat<s.cs.length:=by
 have:=h.bt.cl;have:=h.bs.cl;omega
theorem TS.hd {c:Int} {ls:List (List Int)} {sum:Int} {t s:St} (h:TS c ls sum t s) {z:Int} (hz:0≤z∧z<c):hd0 (t.cd z.toNat)∈t.cd z.toNat∧ls0 (t.cd z.toNat)∈t.cd z.toNat∧hd0 (s.cd z.toNat)≤hd0 (t.cd z.toNat)∧ls0 (t.cd z.toNat)≤ls0 (s.cd z.toNat):=by
 obtain⟨h1,h2⟩:=h.at hz;have h3:=h.ne _ h1;have h4:=vZ h3;have h5:=Ag h3;exact⟨h4,h5,adS (h.bs.asc _ h2).1.pw _ (h.le.cd _ h2 _ h4),aaN (h.bs.asc _ h2).1.pw _ (h.le.cd _ h2 _ h5)⟩
theorem TS.dec {c:Int} {ls:List (List Int)} {sum:Int} {t s:St} (h:TS c ls sum t s) {z:Int} (hz:0≤z∧z<c) (hd:s.dc z.toNat=true):t.dc z.toNat=true∧t.cd z.toNat=s.cd z.toNat:=by
 obtain⟨h1,h2⟩:=h.at hz;have h3:=h.le.dc _ h2 hd;refine⟨h3,?_⟩;have h4:=(h.bs.num hz hd).2.2;have h5:=(h.bt.num hz h3).2.2;have h6:=h.le.cd _ h2 _ (h.hd hz).1;rw[h4,agL]at h6;rw[h5,h4,h6]
theorem TS.opn {c:Int} {ls:List (List Int)} {sum:Int} {t s:St} (h:TS c ls sum t s) {l:List Int} (hl:∀z∈l,0≤z∧z<c) {y z:Int} (hz:z∈opn t l y):z∈opn s l y:=by
 obtain⟨h1,h2,h3⟩:=dw.1 hz;refine dw.2 ⟨h1,?_,h3⟩;cases hd:s.dc z.toNat with
 |false=>rfl
 |true=>rw[(h.dec (hl z h1) hd).1]at h2;cases h2
def mrg (t:St) (h:Int→Int) (z:Int):Int:=if t.dc z.toNat then hd0 (t.cd z.toNat)else h z
theorem TS.ch {c:Int} {ls:List (List Int)} {sum:Int} {t s:St} (h:TS c ls sum t s) {l:List Int} (hl:∀z∈l,0≤z∧z<c) {y x r:Int} (hy:0≤y∧y<c) (hx:x∈t.cd y.toNat)
 {H:Int→Int} (hH:∀z∈l,z≠y→t.dc z.toNat=false→H z∈t.cd z.toNat∧H z≠x) (hd:∀z∈l,∀w∈l,z≠y→w≠y→t.dc z.toNat=false→t.dc w.toNat=false→z≠w→H z≠H w) (hr:sF (mrg t H) (Eng.YtcechbdgokjmgaaGreatDoor.opn s l y)=r):
 ChF s (Eng.YtcechbdgokjmgaaGreatDoor.opn s l y) [x] r (mrg t H):=by
 have inm:∀z∈Eng.YtcechbdgokjmgaaGreatDoor.opn s l y,mrg t H z∈t.cd z.toNat:=fun z hz=>by
  obtain⟨h1,h2,h3⟩:=dw.1 hz;unfold mrg;split
  ·exact(h.hd (hl z h1)).1
  ·rename_i hd
   exact(hH z h1 h3 (by simpa using hd)).1
 have key:∀(z w:Int),0≤z∧z<c→0≤w∧w<c→z≠w→t.dc z.toNat=true→∀v∈t.cd w.toNat,hd0 (t.cd z.toNat)≠v:=fun z w hz hw hne hd v hv e=>by
  have:=h.it z.toNat w.toNat (h.at hz).1 (h.at hw).1 (by omega) hd
  rw[e]at this;exact this hv
 refine⟨fun z hz=>?_,fun z hz w hw hne=>?_,hr⟩
 ·obtain⟨h1,h2,h3⟩:=dw.1 hz
  refine⟨h.le.cd _ (h.at (hl z h1)).2 _ (inm z hz),fun hm=>?_⟩;rw[agL]at hm;unfold mrg at hm;split at hm
  ·rename_i hd1
   exact key z y (hl z h1) hy h3 hd1 x hx hm
  ·rename_i hd1
   exact(hH z h1 h3 (by simpa using hd1)).2 hm
 ·obtain⟨h1,h2,h3⟩:=dw.1 hz
  obtain⟨w1,w2,w3⟩:=dw.1 hw;cases ez:t.dc z.toNat with
  |true=>
   have:mrg t H z=hd0 (t.cd z.toNat):=by unfold mrg;rw[if_pos ez]
   rw[this];exact key z w (hl z h1) (hl w w1) hne ez _ (inm w hw)
  |false=>
   cases ew:t.dc w.toNat with
   |true=>
    have:mrg t H w=hd0 (t.cd w.toNat):=by unfold mrg;rw[if_pos ew]
    rw[this];exact fun e=>key w z (hl w w1) (hl z h1) (Ne.symm hne) ew _ (inm z hz) e.symm
   |false=>
    have e1:mrg t H z=H z:=by unfold mrg;rw[ez];rfl
    have e2:mrg t H w=H w:=by unfold mrg;rw[ew];rfl
    rw[e1,e2];exact hd z h1 w w1 h3 w3 ez ew hne
structure Unb (c:Int) (ls:List (List Int)) (sum:Int) (t:St):Prop where
 num:∀x:Int,1≤x→x≤c→∃i,i<t.cs.length∧x∈t.cd i
 ne:NeS t
 line:∀k,k<ls.length→opn t (ls.getD k []) (-1)=[]→rst t sum (ls.getD k [])=0
inductive Run (c:Int) (ls:List (List Int)) (sum:Int) (n:Nat):St→St→Prop
 |refl (s:St):Run c ls sum n s s
 |step {s t:St} {g:Nat} {y x k:Int}:aht c ls g y x k→g≤n→okJ g s sum (ls.getD k.toNat []) y x=true→Run c ls sum n (apl g s y x) t→Run c ls sum n s t
theorem Run.ok {c:Int} {ls:List (List Int)} {sum:Int} {n:Nat} {s t:St} (h:Run c ls sum n s t):bO c ls sum s→StI s→bO c ls sum t∧StI t:=by
 induction h with
 |refl s=>exact fun a b=>⟨a,b⟩
 |step hL _ hj _ ih=>
  intro hB hI;obtain⟨h4,h5,h6⟩:=dz.1 hj;obtain⟨h7,h8⟩:=FZ hB hI hL.yy hL.xx h4 h5;exact ih h7 h8
theorem LeS.refl (s:St):LeS s s:=⟨rfl,fun _ _ _ h=>h,fun _ _ h=>h⟩
theorem LeS.trans {r t s:St} (h:LeS r t) (h':LeS t s):LeS r s:=⟨h.len.trans h'.len,fun i hi x hx=>h'.cd i hi x (h.cd i (by rw[h'.len];exact hi) x hx),fun i hi hd=>h.dc i (by rw[h'.len];exact hi) (h'.dc i hi hd)⟩
theorem ai5 {c:Int} {ls:List (List Int)} {sum:Int} {s:St} (hB:bO c ls sum s) {g:Nat} {y x k:Int} (hL:aht c ls g y x k) (hj:okJ g s sum (ls.getD k.toNat []) y x=true):LeS (apl g s y x) s:=by
 obtain⟨h4,h5,h6⟩:=dz.1 hj;have hy:=hL.yy;have hcl:=hB.cl;have hdl:=hB.dl;refine⟨AX.1,fun i hi v hv=>?_,fun i hi hd=>?_⟩
 ·rw[aa0 (by omega) i hi]at hv
  split at hv
  ·split at hv
   ·rename_i e;subst e;rw[agL.1 hv];exact h5
   ·exact(pq.1 hv).1
  ·split at hv
   ·rename_i e;subst e;exact(pq.1 hv).1
   ·exact hv
 ·rw[aaZ (by omega)]
  split
  ·rfl
  ·exact hd
theorem Run.le {c:Int} {ls:List (List Int)} {sum:Int} {n:Nat} {s t:St} (h:Run c ls sum n s t):bO c ls sum s→StI s→LeS t s:=by
 induction h with
 |refl s=>exact fun _ _=>.refl s
 |step hL _ hj _ ih=>
  intro hB hI;obtain⟨h4,h5,h6⟩:=dz.1 hj;obtain⟨h7,h8⟩:=FZ hB hI hL.yy hL.xx h4 h5;exact(ih h7 h8).trans (ai5 hB hL hj)
theorem Run.one {c:Int} {ls:List (List Int)} {sum:Int} {n:Nat} {s t:St} {g:Nat} {y x k:Int} (h:Run c ls sum n s t) (hL:aht c ls g y x k) (hg:g≤n) (hj:okJ g t sum (ls.getD k.toNat []) y x=true):Run c ls sum n s (apl g t y x):=by
 induction h with
 |refl s=>exact .step hL hg hj (.refl _)
 |step a b d _ ih=>exact .step a b d (ih hj)
structure Ends (c:Int) (ls:List (List Int)) (sum:Int) (n:Nat) (s:St) (r:List Dd × St × Int):Prop where
 cases:(∃t,Run c ls sum n s t∧brk c ls sum t=true∧r.2.2=21)∨(Run c ls sum n s r.2.1∧brk c ls sum r.2.1=false∧((don r.2.1=true∧r.2.2=0)∨(don r.2.1=false∧iH r.2.1 sum ls n=none∧r.2.2=23)))
theorem aip {c:Int} {ls:List (List Int)} {sum:Int} {n:Nat} (hn:n≤5):∀(u:Nat) (s:St) (l:List Dd),bO c ls sum s→StI s→muS s<u→Ends c ls sum n s (pz c ls sum n u s l):=by
 intro u;induction u with
 |zero=>intro s l _ _ h;omega
 |succ u ih=>
  intro s l hB hI hmu;unfold pz;cases hb:brk c ls sum s with
  |true=>exact⟨.inl ⟨s,.refl s,hb,by simp⟩⟩
  |false=>
   simp only[ad7,if_false];cases hd:don s with
   |true=>exact⟨.inr ⟨by simpa using Run.refl s,by simpa using hb,.inl (by simpa using hd)⟩⟩
   |false=>
    simp only[ad7,if_false];cases hf:iH s sum ls n with
    |none=>exact⟨.inr ⟨.refl s,hb,.inr ⟨hd,hf,rfl⟩⟩⟩
    |some d=>
     simp only;obtain⟨h1,h2,h3⟩:=ah3 hB hn hf;obtain⟨h4,h5,h6⟩:=dz.1 h2;obtain⟨h7,h8⟩:=FZ hB hI (g:=d.g) h1.yy h1.xx h4 h5;have hcl:=hB.cl;have hdl:=hB.dl;have hy:=h1.yy;have hm:=aa2 (g:=d.g) (y:=d.y) (by omega) (by omega) h4 h5
     have:=(ih _ (l++[d]) h7 h8 (by omega)).cases
     refine⟨?_⟩;rcases this with⟨t,r1,r2⟩|⟨r1,r2⟩
     ·exact .inl ⟨t,.step h1 h3 h2 r1,r2⟩
     ·exact .inr ⟨.step h1 h3 h2 r1,r2⟩
theorem aiy {c:Int} {ls:List (List Int)} {sum:Int} {gv:List Int} (h:dR c ls sum gv) {n:Nat} (hn:n≤5):Ends c ls sum n (bgn c gv) (sol c ls sum gv n):=by
 have hB:=uY h;exact aip hn 273 _ [] hB (AY h) (by have:=aa3 hB;omega)
theorem aiS {c:Int} {ls:List (List Int)} {sum:Int} {gv f:List Int} (h:dR c ls sum gv) (hf:aho c ls sum f) (hg:∀i,i<gv.length→0<gv.getD i 0→gv.getD i 0=f.getD i 0):Alw (bgn c gv) f:=by
 have hl:=h.gl;have hfl:=hf.len;have hc:=h.c1;refine⟨by rw[jU.1];omega,fun i hi=>?_⟩
 have hig:i<gv.length:=by omega
 rw[PD hig];split
 ·rename_i h0
  rw[hg i hig h0];simp
 ·rename_i h0
  refine(AQ (by omega)).2 ⟨hf.rng hi,fun hm=>?_⟩
  obtain⟨j,hj,e⟩:=(iG _ _).1 hm;have h1:=hf.rng hi;have h2:=hg j hj (by omega)
  have:=hf.inj hi (by omega) (e.symm.trans h2)
  subst this;omega
end Go.Eng.YtcechbdgokjmgaaGreatDoor
namespace Go.Eng.YtcechbdgokjmgaaGreatDoor
open Go.Proofs Go.RowKit
set_option linter.unusedSimpArgs false
set_option linter.unusedVariables false
set_option maxHeartbeats 0
set_option maxRecDepth 100000
theorem aiz {n:Nat} {f g:Nat→List PV} (t:Tok) (h:∀i,i<n→f i=g i):Sup (.isl (.genr 4 n f) t) (.isl (.genr 4 n g) .none):=⟨fun{S w ι v} hr=>by
 have hg:∀j,j<n*4→(CL.genr 4 n f).get j=(CL.genr 4 n g).get j:=fun j hj=>by
  simp only[CL.get];rw[h (j / 4) (by omega)]
 cases hr with
 |islnil _ _ _ h=>exact .islnil _ _ _ h
 |isl _ _ _ b off cap h1 h2 h3 h4 h5=>
  exact .isl _ _ _ _ _ _ h1 h2 (fun j hj=>by rw[←hg j hj];exact h3 j hj) (fun h=>by cases h) (fun k h=>by cases h)⟩
def aic (l:List Dd) (T:Nat→St):PSp:=fun xs K=>match xs with
 | [.agg [.int .i64 c,.isl (.rows .i64 ls) .none,.int .i64 sum,.isl (.ints .i64 gv) .none],.isl (.genr 4 n f) .none]=>∃m:Nat,VC (n=m∧m≤l.length∧l.length≤1000∧(∀i,i<m→f i=ddC (l.getD i dd0))∧bH ls∧gv.length≤5000∧sI c ls sum gv ((l.take m).map adn)=(T m,0,0))∧K (.tup [stV (T m),.int .i64 0,.int .i64 0])
 |_=>False
theorem aiT (l:List Dd) (T:Nat→St):POK Tryz.prog 61 (aic l T):=by
 intro xs K hk;unfold aic at hk;split at hk
 ·rename_i c ls sum gv n f
  obtain⟨m,⟨rfl,h1,h2,h3,h4,h5,h6⟩,hk⟩:=hk;refine⟨_,hk,?_⟩;have hs:=ab0 c ls sum gv h4 h5 ((l.take n).map adn) (by rw[af0,ae0];omega)
  rw[h6]at hs;refine Nu hs rfl fun i hi=>?_
  match i,hi with
  |0,_=>exact mg _
  |1,_=>
   have e:(((l.take n).map adn).length)=n:=by rw[af0,ae0];omega
   show Sup (.isl (.genr 4 n f) .none) (.isl (.genr 4 ((l.take n).map adn).length _) .none);rw[e];refine aiz _ fun i hi=>?_;rw[h3 i hi];simp only[aeo,List.getElem?_map,List.getElem?_take_of_lt hi];cases l[i]? <;>rfl
 ·exact hk.elim
def aiA:PSp:=fun xs K=>match xs with
 | [.agg [.int .i64 c,.isl (.rows .i64 ls) .none,.int .i64 sum,.isl (.ints .i64 gv) .none],.agg [.isl (.rows .i64 CS) .none,.isl (.bools DS) .none],.agg [.str r,.int .i64 y,.int .i64 x,.int .i64 k]]=>∃s2:St,VC (bH ls∧gv.length≤5000∧StS ⟨CS,DS⟩∧apR c ls sum gv ⟨CS,DS⟩ r y x k=(s2,0))∧K (.tup [stV s2,.int .i64 0])
 |_=>False
theorem ai6:POK Tryz.prog 74 aiA:=by
 intro xs K hk;unfold aiA at hk;split at hk
 ·rename_i c ls sum gv CS DS r y x k
  obtain⟨s2,⟨h1,h2,h3,h4⟩,hk⟩:=hk;refine⟨_,hk,?_⟩;have:=abY c ls sum gv ⟨CS,DS⟩ h1 h2 h3 r y x k;rw[h4]at this;exact this
 ·exact hk.elim
def aiB:PSp:=fun xs K=>match xs with
 | [.agg [.int .i64 c,.isl (.rows .i64 ls) .none,.int .i64 sum,.isl (.ints .i64 gv) .none],.agg [.isl (.rows .i64 CS) .none,.isl (.bools DS) .none],.isl (.ints .i64 f) .none]=>VC (bO c ls sum ⟨CS,DS⟩∧Alw ⟨CS,DS⟩ f)∧K (.bool true)
 |_=>False
theorem aiU:Sup (.bp true) (.bool true):=adU rfl
theorem ai7:POK Tryz.prog 60 aiB:=by
 intro xs K hk;unfold aiB at hk;split at hk
 ·exact⟨_,hk.2,tZ (aib _ _ _ _ ⟨_,_⟩ _ hk.1.get.1 hk.1.get.2) aiU⟩
 ·exact hk.elim
def aiC:PSp:=fun xs K=>match xs with
 | [.int .i64 x]=>∃g:Nat,VC (x=(g:Int)∧1≤g∧g≤5)∧K (.str (nmG g))
 |_=>False
theorem ai8:POK Tryz.prog 77 aiC:=by
 intro xs K hk;unfold aiC at hk;split at hk
 ·obtain⟨g,⟨rfl,h1,h2⟩,hk⟩:=hk
  refine⟨_,hk,?_⟩;have:=ah0 (g:Int) ⟨by omega,by omega⟩
  rw[afg]at this;exact this
 ·exact hk.elim
def aiD:PSp:=fun xs K=>match xs with
 | [.agg [.int .i64 c,.isl (.rows .i64 ls) .none,.int .i64 sum,.isl (.ints .i64 gv) .none],.agg [.isl (.rows .i64 CS) .none,.isl (.bools DS) .none],.str r]=>∃A:List Dd,VC (bH ls∧gv.length≤5000∧StS ⟨CS,DS⟩∧SC c ls sum gv ⟨CS,DS⟩ r=(A,0))∧K (.tup [.isl (dlC A) .none,.int .i64 0])
 |_=>False
theorem ai9:POK Tryz.prog 67 aiD:=by
 intro xs K hk;unfold aiD at hk;split at hk
 ·rename_i c ls sum gv CS DS r
  obtain⟨A,⟨h1,h2,h3,h4⟩,hk⟩:=hk;refine⟨_,hk,?_⟩;have:=adl c ls sum gv ⟨CS,DS⟩ h1 h2 h3 r;rw[h4]at this;exact this
 ·exact hk.elim
def aiE:PSp:=fun xs K=>match xs with
 | [.str r]=>∃b:Bool,VC (decide (aP r≤3)=b)∧K (.bool b)
 |_=>False
theorem aja:POK Tryz.prog 78 aiE:=by
 intro xs K hk;unfold aiE at hk;split at hk
 ·obtain⟨b,⟨hb⟩,hk⟩:=hk
  exact⟨_,hk,tZ (ahM _) (adU hb)⟩
 ·exact hk.elim
noncomputable def ahA (b1 b2:Bool) (r:List Dd × St × Int) (l:List Dd) (T:Nat→St):CPT:=aA 17 (aB Qs) (aA 30 (aB (aco aix (aa5 r))) (aA 47 (aB (aco ahX (.bool b1))) (aA 48 (aB (aco ah8 (.bool b2))) (aA 60 (aB aiB) (aA 61 (aB (aic l T)) (aA 67 (aB aiD) (aA 74 (aB aiA) (aA 77 (aB aiC) (aA 78 (aB aiE) noC)))))))))
theorem ahz (b1 b2:Bool) (r:List Dd × St × Int) (l:List Dd) (T:Nat→St):aW Tryz.prog (ahA b1 b2 r l T):=aj (au adE) (aj (au (adQ ai4 (aa5 r))) (aj (au (adQ aiw (.bool b1))) (aj (au (adQ aiQ (.bool b2))) (aj (au ai7) (aj (au (aiT l T)) (aj (au ai9) (aj (au ai6) (aj (au ai8) (aj (au aja) aD)))))))))
theorem aiq (c:Int) (ls:List (List Int)) (sum:Int) (gv f:List Int) (g:Int) (hg:0≤g∧g≤255):aF Tryz.prog 13 [pzV c ls sum gv,.isl (.ints .i64 f) .none,.int .u8 g] (.bp true):=by
 cases hs:Nr c ls sum gv 9 10 with
 |false=>
  have hC:=ahz false false ([],noS,0) [] (fun _=>noS);refine eD (md:=1) (rf:=[]) mixed ak hC Tryz.func13 (by rfl) (by rfl) (by rfl) ?_
  unfold ahA
  repeat'((conv=>whnf);first|(intro hq;(try simp only[vw]at hq);try first|exact absurd hq (by decide)|exfalso;omega)|apply aI|with_reducible exact vM rfl|exact⟨⟩|apply nM|apply fM)
  all_goals((try apply vM);(try simp only[vq]at*);try omega)
  all_goals first|exact adU hs|exact mg _|omega
 |true=>
 obtain⟨he,hL,hc9,hgl⟩:=ai3 hs (by decide) (by decide)
 have hp:=dR.of he;cases hsl:ahp c ls sum gv f with
 |false=>
  have hC:=ahz true false ([],noS,0) [] (fun _=>noS);refine eD (md:=1) (rf:=[]) mixed ak hC Tryz.func13 (by rfl) (by rfl) (by rfl) ?_
  unfold ahA
  repeat'((conv=>whnf);first|(intro hq;(try simp only[vw]at hq);try first|exact absurd hq (by decide)|exfalso;omega)|apply aI|with_reducible exact vM rfl|exact⟨⟩|apply nM|apply fM)
  all_goals((try apply vM);(try simp only[vq]at*);try omega)
  all_goals first|exact adU hs|exact adU hsl|exact hp|exact mg _|omega
 |true=>
 have hS:=(aiP hp).1 hsl;have hf:=hS.s;have hB0:=uY hp;have hI0:=AY hp;have hA0:=aiS hp hS.s hS.g;obtain⟨n,hn⟩:∃n:Nat,1+g.tmod 5=(n:Int):=⟨(1+g.tmod 5).toNat,by have:=ajq 5 hg.1;omega⟩
 have hn5:1≤n∧n≤5:=by
  have h1:=ajq 5 hg.1;have h2:=Int.tmod_lt_of_pos g (show(0:Int)<5 by omega)
  omega
 have h1:∀r,ah6 (sol c ls sum gv n)=r→Sup (aa5 (su c ls sum gv (1+g.tmod 5))) (aa5 r):=fun r hr=>by
  have e3:fH n=0:=by unfold fH;rw[if_neg (by omega)]
  have:aG [pzE c ls sum gv,fH n]=0:=by rw[he,e3];rfl
  have e4:su c ls sum gv (n:Int)=ah6 (sol c ls sum gv n):=by unfold su;rw[this,if_neg (by simp),afg];rfl
  rw[hn,e4,hr];exact mg _
 obtain⟨a1,a2,a3⟩:=ais hf hn5.2 273 (bgn c gv) [] hB0 hI0 hA0;obtain⟨dl',j1,j2⟩:=aiR (c:=c) (ls:=ls) (sum:=sum) hn5.2 273 (bgn c gv) [] hB0 hI0 a1;have j3:=Sl (c:=c) (ls:=ls) (sum:=sum) (n:=n) 273 (bgn c gv) [];have h3:(sol c ls sum gv n).2.2=0∨(sol c ls sum gv n).2.2=23:=by
  rcases(aiy hp hn5.2).cases with⟨t',_,_,q⟩|⟨_,_,q3|⟨_,_,q6⟩⟩
  ·exact absurd q a1
  ·exact .inl q3.2
  ·exact .inr q6
 change(sol c ls sum gv n).2.2≠21 at a1;change Alw (sol c ls sum gv n).2.1 f at a2;change bO c ls sum (sol c ls sum gv n).2.1 at a3;change(sol c ls sum gv n).1=[]++dl' at j1;change(sol c ls sum gv n).1.length≤0+273 at j3;rw[List.nil_append]at j1;obtain⟨⟨dl,t,e⟩,hso⟩:∃r,sol c ls sum gv n=r:=⟨_,rfl⟩;have hr:ah6 (sol c ls sum gv n)=(dl,t,e):=by unfold ah6;rw[if_neg a1,hso]
 rw[hso]at a1 a2 a3 j1 h3 j3;simp only at a1 a2 a3 j1 h3 j3;subst j1;obtain⟨T,hT⟩:∃T:Nat→St,T=fun k=>trS (bgn c gv) (dl.take k):=⟨_,rfl⟩;have hTk:∀k,bO c ls sum (T k)∧StI (T k)∧Alw (T k) f∧sI c ls sum gv ((dl.take k).map adn)=(T k,0,0):=fun k=>by
  have hj:=Jd.take dl _ k j2;have h4:=Jd.ok _ _ hB0 hI0 hj;rw[hT];refine⟨h4.1,h4.2,Jd.alw hf _ _ hB0 hI0 hj hA0,?_⟩;unfold sI;rw[if_neg (by rw[he];simp)]
  exact Jd.chk _ _ _ hj
 have hC:=ahz true true (dl,t,e) dl T;rcases h3 with rfl|rfl
 ·skip
  refine eD (md:=1) (rf:=[]) mixed ak hC Tryz.func13 (by rfl) (by rfl) (by rfl) ?_
  unfold ahA
  repeat'((conv=>whnf);first|(intro hq;(try simp only[vw]at hq);try first|exact absurd hq (by decide)|exfalso;omega)|apply aI|with_reducible exact vM rfl|exact⟨⟩|apply nM|apply fM)
  all_goals((try apply vM);(try simp only[vq]at*);try omega)
  all_goals(try first|exact adU hs|exact adU hsl|exact hp|exact mg _|exact⟨hL,by omega⟩|exact h1 _ hr|exact⟨a3,a2⟩|omega)
  conv=>whnf
  refine aM (X:=Nat) (fun k=>k≤dl.length+1) (fun k=>[(10,.int .i64 k),(30,.any),(36,.any)]) (fun k=>[]) (fun k=>dl.length+1-k) 0 ⟨aK,mixed,ak,hC,aQ⟩ (by rfl) (by omega) ?_ ?_
  ·repeat'((conv=>whnf);first|intro _|apply aI|with_reducible exact vM rfl|exact⟨⟩|apply nM|apply fM)
   all_goals((try apply vM);(try simp only[vq]at*);try omega)
  intro k hk;obtain⟨k1,k2,k3,k4⟩:=hTk k;by_cases hkl:k≤dl.length
  case neg=>
   repeat'((conv=>whnf);first|(intro hq;(try simp only[vw]at hq);try first|exact absurd hq (by decide)|exfalso;omega)|apply aI|with_reducible exact vM rfl|exact⟨⟩|apply nM|apply fM)
   all_goals((try apply vM);(try simp only[vq]at*);try omega)
   all_goals(try first|omega|exact mg _)
  have hkf:∀i,i<k→(fun i=>ddC (dl.getD i dd0)) (0+i)=ddC (dl.getD i dd0):=fun i _=>by simp only[aeC]
  repeat'((conv=>whnf);first|refine Exists.intro (k) ?_|(intro hq;(try simp only[vw]at hq);try first|exact absurd hq (by decide)|exfalso;omega)|apply aI|with_reducible exact vM rfl|exact⟨⟩|apply nM|apply fM)
  all_goals((try apply vM);(try simp only[vq]at*);try omega)
  all_goals(try first|omega|exact⟨by omega,hkl,by omega,hkf,hL,by omega,k4⟩|exact⟨k1,k3⟩|exact mg _)
  have hsts:StS ⟨(T k).cs,(T k).ds⟩:=by obtain⟨q1,q2⟩:=ahY k1;exact⟨(show(T k).cs.length≤5000 by omega),(show(T k).ds.length≤5000 by omega),fun i=>(show((T k).cs.getD i []).length≤5000 by have:=q2 i;omega)⟩
  have hrea:dx c ls sum gv (T k)=0:=by rw[ah4 he];exact aia k1
  have hal:∀g,1≤g∧g≤5→SC c ls sum gv ⟨(T k).cs,(T k).ds⟩ (nmG g)=(gH g (T k) sum ls,0):=fun g hg=>by
   have hgi:=aa8 hg;unfold SC;rw[show dx c ls sum gv ⟨(T k).cs,(T k).ds⟩=0 from hrea,if_neg (by simp),hgi,if_neg (by omega),afg]
  have hap:∀g,1≤g∧g≤5→∀d∈gH g (T k) sum ls,apR c ls sum gv ⟨(T k).cs,(T k).ds⟩ (nmG d.g) d.y d.x d.k=(apl d.g (T k) d.y d.x,0)∧bO c ls sum (apl d.g (T k) d.y d.x)∧Alw (apl d.g (T k) d.y d.x) f∧d.g=g∧(0≤d.y∧d.y<c)∧(g≤3↔f.getD d.y.toNat 0=d.x):=fun g hg d hd=>by
   obtain⟨d1,d2,d3,d4⟩:=ahG k1 hg hd;subst d1;obtain⟨q1,q2,q3⟩:=dz.1 d3;have hgi:=aa8 hg;have hju:juR c ls sum gv ⟨(T k).cs,(T k).ds⟩ (nmG d.g) d.y d.x d.k=(true,0):=by
    unfold juR;rw[show dx c ls sum gv ⟨(T k).cs,(T k).ds⟩=0 from hrea,if_neg (by simp),d2,if_neg (by simp),hgi,afg]
    exact congrArg (fun b=>(b,(0:Int))) d3
   refine⟨?_,(FZ k1 k2 (g:=d.g) d4.yy d4.xx q1 q2).1,ahw k1 k3 hf d4 d3,rfl,d4.yy,sound k1 k3 hf d4 d3⟩;unfold apR;rw[hju,if_neg (by simp),if_pos rfl,hgi,afg]
  have hfc:=hf.len;obtain⟨u,hu⟩:∃u,T k=u:=⟨_,rfl⟩;rw[hu]at hsts hal hap⊢;conv=>whnf
  refine aM (X:=Nat) (fun i=>i≤5) (fun i=>[(14,.int .i64 ((i:Int)+1)),(63,.any),(68,.any)]) (fun i=>[]) (fun i=>5-i) 0 ⟨aK,mixed,ak,hC,aQ⟩ (by rfl) (by omega) ?_ ?_
  ·repeat'((conv=>whnf);first|intro _|apply aI|with_reducible exact vM rfl|exact⟨⟩|apply nM|apply fM)
   all_goals((try apply vM);(try simp only[vq]at*);try omega)
  intro i hi;by_cases hi5:i<5
  case neg=>
   repeat'((conv=>whnf);first|(intro hq;(try simp only[vw]at hq);try first|exact absurd hq (by decide)|exfalso;omega)|apply aI|with_reducible exact vM rfl|exact⟨⟩|apply nM|apply fM)
   all_goals((try apply vM);(try simp only[vq]at*);try omega)
   all_goals(try omega)
   refine⟨k+1,[],⟨by omega,by omega⟩,?_⟩
   repeat'((conv=>whnf);first|intro _|apply aI|with_reducible exact vM rfl|exact⟨⟩|apply nM|apply fM)
   all_goals((try apply vM);(try simp only[vq]at*);try omega)
  obtain⟨g1,hg1⟩:∃g1,i+1=g1:=⟨_,rfl⟩;have hg15:1≤g1∧g1≤5:=by omega
  have hal1:=hal g1 hg15;have hap1:=hap g1 hg15;have hAl:=Sz (by rw[←hu];exact k1:bO c ls sum u) g1
  obtain⟨A,hA⟩:∃A,gH g1 u sum ls=A:=⟨_,rfl⟩;rw[hA]at hal1 hap1 hAl
  repeat'((conv=>whnf);first|refine Exists.intro (g1) ?_|refine Exists.intro (A) ?_|(intro hq;(try simp only[vw]at hq);try first|exact absurd hq (by decide)|exfalso;omega)|apply aI|with_reducible exact vM rfl|exact⟨⟩|apply nM|apply fM)
  all_goals((try apply vM);(try simp only[vq]at*);try omega)
  all_goals(try first|omega|exact⟨by omega,by omega,by omega⟩|exact⟨hL,by omega,hsts,hal1⟩)
  conv=>whnf
  refine aM (X:=Nat) (fun j=>j≤A.length) (fun j=>[(17,.int .i64 j),(89,.any),(94,.any)]) (fun j=>[]) (fun j=>A.length-j) 0 ⟨aK,mixed,ak,hC,aQ⟩ (by rfl) (by omega) ?_ ?_
  ·repeat'((conv=>whnf);first|intro _|apply aI|with_reducible exact vM rfl|exact⟨⟩|apply nM|apply fM)
   all_goals((try apply vM);(try simp only[vq]at*);try omega)
  intro j hj;by_cases hjl:j<A.length
  case neg=>
   have:j=A.length:=by omega
   subst this
   repeat'((conv=>whnf);first|(intro hq;(try simp only[vw]at hq);try first|exact absurd hq (by decide)|exfalso;omega)|apply aI|with_reducible exact vM rfl|exact⟨⟩|apply nM|apply fM)
   all_goals((try apply vM);(try simp only[vq]at*);try omega)
   all_goals(try omega)
   refine⟨i+1,[],⟨by omega,by omega⟩,?_⟩
   rw[←hg1]
   repeat'((conv=>whnf);first|intro _|apply aI|with_reducible exact vM rfl|exact⟨⟩|apply nM|apply fM)
   all_goals((try apply vM);(try simp only[vq]at*);try omega)
  obtain⟨m1,m2,m3,m4,m5,m6⟩:=hap1 (A.getD j dd0) (pW hjl);obtain⟨s2,hs2⟩:∃s2,apl (A.getD j dd0).g u (A.getD j dd0).y (A.getD j dd0).x=s2:=⟨_,rfl⟩;rw[hs2]at m1 m2 m3;have hgi:=aa8 hg15;by_cases hg3:g1≤3
  ·have hfe:=m6.1 hg3
   repeat'((conv=>whnf);first|refine Exists.intro (s2) ?_|refine Exists.intro (true) ?_|(intro hq;(try simp only[vw]at hq);try first|exact absurd hq (by decide)|exfalso;omega)|apply aI|with_reducible exact vM rfl|exact⟨⟩|apply nM|apply fM)
   all_goals((try apply vM);(try simp only[vq]at*);try omega)
   all_goals(try first|omega|exact⟨hL,by omega,hsts,m1⟩|exact⟨m2,m3⟩|(rw[m4,hgi];omega)|rfl|(exfalso;rw[decide_eq_true hfe]at hq;exact absurd hq (by decide)))
   refine⟨j+1,[],⟨by omega,by omega⟩,?_⟩
   repeat'((conv=>whnf);first|intro _|apply aI|with_reducible exact vM rfl|exact⟨⟩|apply nM|apply fM)
   all_goals((try apply vM);(try simp only[vq]at*);try omega)
  ·have hfe:f.getD (A.getD j dd0).y.toNat 0≠(A.getD j dd0).x:=fun q=>hg3 (m6.2 q)
   repeat'((conv=>whnf);first|refine Exists.intro (s2) ?_|refine Exists.intro (false) ?_|(intro hq;(try simp only[vw]at hq);try first|exact absurd hq (by decide)|exfalso;omega)|apply aI|with_reducible exact vM rfl|exact⟨⟩|apply nM|apply fM)
   all_goals((try apply vM);(try simp only[vq]at*);try omega)
   all_goals(try first|omega|exact⟨hL,by omega,hsts,m1⟩|exact⟨m2,m3⟩|(rw[m4,hgi];omega)|rfl|(exfalso;rw[decide_eq_false hfe]at hq;exact absurd hq (by decide)))
   refine⟨j+1,[],⟨by omega,by omega⟩,?_⟩
   repeat'((conv=>whnf);first|intro _|apply aI|with_reducible exact vM rfl|exact⟨⟩|apply nM|apply fM)
   all_goals((try apply vM);(try simp only[vq]at*);try omega)
 ·skip
  refine eD (md:=1) (rf:=[]) mixed ak hC Tryz.func13 (by rfl) (by rfl) (by rfl) ?_
  unfold ahA
  repeat'((conv=>whnf);first|(intro hq;(try simp only[vw]at hq);try first|exact absurd hq (by decide)|exfalso;omega)|apply aI|with_reducible exact vM rfl|exact⟨⟩|apply nM|apply fM)
  all_goals((try apply vM);(try simp only[vq]at*);try omega)
  all_goals(try first|exact adU hs|exact adU hsl|exact hp|exact mg _|exact⟨hL,by omega⟩|exact h1 _ hr|exact⟨a3,a2⟩|omega)
  conv=>whnf
  refine aM (X:=Nat) (fun k=>k≤dl.length+1) (fun k=>[(10,.int .i64 k),(30,.any),(36,.any)]) (fun k=>[]) (fun k=>dl.length+1-k) 0 ⟨aK,mixed,ak,hC,aQ⟩ (by rfl) (by omega) ?_ ?_
  ·repeat'((conv=>whnf);first|intro _|apply aI|with_reducible exact vM rfl|exact⟨⟩|apply nM|apply fM)
   all_goals((try apply vM);(try simp only[vq]at*);try omega)
  intro k hk;obtain⟨k1,k2,k3,k4⟩:=hTk k;by_cases hkl:k≤dl.length
  case neg=>
   repeat'((conv=>whnf);first|(intro hq;(try simp only[vw]at hq);try first|exact absurd hq (by decide)|exfalso;omega)|apply aI|with_reducible exact vM rfl|exact⟨⟩|apply nM|apply fM)
   all_goals((try apply vM);(try simp only[vq]at*);try omega)
   all_goals(try first|omega|exact mg _)
  have hkf:∀i,i<k→(fun i=>ddC (dl.getD i dd0)) (0+i)=ddC (dl.getD i dd0):=fun i _=>by simp only[aeC]
  repeat'((conv=>whnf);first|refine Exists.intro (k) ?_|(intro hq;(try simp only[vw]at hq);try first|exact absurd hq (by decide)|exfalso;omega)|apply aI|with_reducible exact vM rfl|exact⟨⟩|apply nM|apply fM)
  all_goals((try apply vM);(try simp only[vq]at*);try omega)
  all_goals(try first|omega|exact⟨by omega,hkl,by omega,hkf,hL,by omega,k4⟩|exact⟨k1,k3⟩|exact mg _)
  have hsts:StS ⟨(T k).cs,(T k).ds⟩:=by obtain⟨q1,q2⟩:=ahY k1;exact⟨(show(T k).cs.length≤5000 by omega),(show(T k).ds.length≤5000 by omega),fun i=>(show((T k).cs.getD i []).length≤5000 by have:=q2 i;omega)⟩
  have hrea:dx c ls sum gv (T k)=0:=by rw[ah4 he];exact aia k1
  have hal:∀g,1≤g∧g≤5→SC c ls sum gv ⟨(T k).cs,(T k).ds⟩ (nmG g)=(gH g (T k) sum ls,0):=fun g hg=>by
   have hgi:=aa8 hg;unfold SC;rw[show dx c ls sum gv ⟨(T k).cs,(T k).ds⟩=0 from hrea,if_neg (by simp),hgi,if_neg (by omega),afg]
  have hap:∀g,1≤g∧g≤5→∀d∈gH g (T k) sum ls,apR c ls sum gv ⟨(T k).cs,(T k).ds⟩ (nmG d.g) d.y d.x d.k=(apl d.g (T k) d.y d.x,0)∧bO c ls sum (apl d.g (T k) d.y d.x)∧Alw (apl d.g (T k) d.y d.x) f∧d.g=g∧(0≤d.y∧d.y<c)∧(g≤3↔f.getD d.y.toNat 0=d.x):=fun g hg d hd=>by
   obtain⟨d1,d2,d3,d4⟩:=ahG k1 hg hd;subst d1;obtain⟨q1,q2,q3⟩:=dz.1 d3;have hgi:=aa8 hg;have hju:juR c ls sum gv ⟨(T k).cs,(T k).ds⟩ (nmG d.g) d.y d.x d.k=(true,0):=by
    unfold juR;rw[show dx c ls sum gv ⟨(T k).cs,(T k).ds⟩=0 from hrea,if_neg (by simp),d2,if_neg (by simp),hgi,afg]
    exact congrArg (fun b=>(b,(0:Int))) d3
   refine⟨?_,(FZ k1 k2 (g:=d.g) d4.yy d4.xx q1 q2).1,ahw k1 k3 hf d4 d3,rfl,d4.yy,sound k1 k3 hf d4 d3⟩;unfold apR;rw[hju,if_neg (by simp),if_pos rfl,hgi,afg]
  have hfc:=hf.len;obtain⟨u,hu⟩:∃u,T k=u:=⟨_,rfl⟩;rw[hu]at hsts hal hap⊢;conv=>whnf
  refine aM (X:=Nat) (fun i=>i≤5) (fun i=>[(14,.int .i64 ((i:Int)+1)),(63,.any),(68,.any)]) (fun i=>[]) (fun i=>5-i) 0 ⟨aK,mixed,ak,hC,aQ⟩ (by rfl) (by omega) ?_ ?_
  ·repeat'((conv=>whnf);first|intro _|apply aI|with_reducible exact vM rfl|exact⟨⟩|apply nM|apply fM)
   all_goals((try apply vM);(try simp only[vq]at*);try omega)
  intro i hi;by_cases hi5:i<5
  case neg=>
   repeat'((conv=>whnf);first|(intro hq;(try simp only[vw]at hq);try first|exact absurd hq (by decide)|exfalso;omega)|apply aI|with_reducible exact vM rfl|exact⟨⟩|apply nM|apply fM)
   all_goals((try apply vM);(try simp only[vq]at*);try omega)
   all_goals(try omega)
   refine⟨k+1,[],⟨by omega,by omega⟩,?_⟩
   repeat'((conv=>whnf);first|intro _|apply aI|with_reducible exact vM rfl|exact⟨⟩|apply nM|apply fM)
   all_goals((try apply vM);(try simp only[vq]at*);try omega)
  obtain⟨g1,hg1⟩:∃g1,i+1=g1:=⟨_,rfl⟩;have hg15:1≤g1∧g1≤5:=by omega
  have hal1:=hal g1 hg15;have hap1:=hap g1 hg15;have hAl:=Sz (by rw[←hu];exact k1:bO c ls sum u) g1
  obtain⟨A,hA⟩:∃A,gH g1 u sum ls=A:=⟨_,rfl⟩;rw[hA]at hal1 hap1 hAl
  repeat'((conv=>whnf);first|refine Exists.intro (g1) ?_|refine Exists.intro (A) ?_|(intro hq;(try simp only[vw]at hq);try first|exact absurd hq (by decide)|exfalso;omega)|apply aI|with_reducible exact vM rfl|exact⟨⟩|apply nM|apply fM)
  all_goals((try apply vM);(try simp only[vq]at*);try omega)
  all_goals(try first|omega|exact⟨by omega,by omega,by omega⟩|exact⟨hL,by omega,hsts,hal1⟩)
  conv=>whnf
  refine aM (X:=Nat) (fun j=>j≤A.length) (fun j=>[(17,.int .i64 j),(89,.any),(94,.any)]) (fun j=>[]) (fun j=>A.length-j) 0 ⟨aK,mixed,ak,hC,aQ⟩ (by rfl) (by omega) ?_ ?_
  ·repeat'((conv=>whnf);first|intro _|apply aI|with_reducible exact vM rfl|exact⟨⟩|apply nM|apply fM)
   all_goals((try apply vM);(try simp only[vq]at*);try omega)
  intro j hj;by_cases hjl:j<A.length
  case neg=>
   have:j=A.length:=by omega
   subst this
   repeat'((conv=>whnf);first|(intro hq;(try simp only[vw]at hq);try first|exact absurd hq (by decide)|exfalso;omega)|apply aI|with_reducible exact vM rfl|exact⟨⟩|apply nM|apply fM)
   all_goals((try apply vM);(try simp only[vq]at*);try omega)
   all_goals(try omega)
   refine⟨i+1,[],⟨by omega,by omega⟩,?_⟩
   rw[←hg1]
   repeat'((conv=>whnf);first|intro _|apply aI|with_reducible exact vM rfl|exact⟨⟩|apply nM|apply fM)
   all_goals((try apply vM);(try simp only[vq]at*);try omega)
  obtain⟨m1,m2,m3,m4,m5,m6⟩:=hap1 (A.getD j dd0) (pW hjl);obtain⟨s2,hs2⟩:∃s2,apl (A.getD j dd0).g u (A.getD j dd0).y (A.getD j dd0).x=s2:=⟨_,rfl⟩;rw[hs2]at m1 m2 m3;have hgi:=aa8 hg15;by_cases hg3:g1≤3
  ·have hfe:=m6.1 hg3
   repeat'((conv=>whnf);first|refine Exists.intro (s2) ?_|refine Exists.intro (true) ?_|(intro hq;(try simp only[vw]at hq);try first|exact absurd hq (by decide)|exfalso;omega)|apply aI|with_reducible exact vM rfl|exact⟨⟩|apply nM|apply fM)
   all_goals((try apply vM);(try simp only[vq]at*);try omega)
   all_goals(try first|omega|exact⟨hL,by omega,hsts,m1⟩|exact⟨m2,m3⟩|(rw[m4,hgi];omega)|rfl|(exfalso;rw[decide_eq_true hfe]at hq;exact absurd hq (by decide)))
   refine⟨j+1,[],⟨by omega,by omega⟩,?_⟩
   repeat'((conv=>whnf);first|intro _|apply aI|with_reducible exact vM rfl|exact⟨⟩|apply nM|apply fM)
   all_goals((try apply vM);(try simp only[vq]at*);try omega)
  ·have hfe:f.getD (A.getD j dd0).y.toNat 0≠(A.getD j dd0).x:=fun q=>hg3 (m6.2 q)
   repeat'((conv=>whnf);first|refine Exists.intro (s2) ?_|refine Exists.intro (false) ?_|(intro hq;(try simp only[vw]at hq);try first|exact absurd hq (by decide)|exfalso;omega)|apply aI|with_reducible exact vM rfl|exact⟨⟩|apply nM|apply fM)
   all_goals((try apply vM);(try simp only[vq]at*);try omega)
   all_goals(try first|omega|exact⟨hL,by omega,hsts,m1⟩|exact⟨m2,m3⟩|(rw[m4,hgi];omega)|rfl|(exfalso;rw[decide_eq_false hfe]at hq;exact absurd hq (by decide)))
   refine⟨j+1,[],⟨by omega,by omega⟩,?_⟩
   repeat'((conv=>whnf);first|intro _|apply aI|with_reducible exact vM rfl|exact⟨⟩|apply nM|apply fM)
   all_goals((try apply vM);(try simp only[vq]at*);try omega)
end Go.Eng.YtcechbdgokjmgaaGreatDoor
