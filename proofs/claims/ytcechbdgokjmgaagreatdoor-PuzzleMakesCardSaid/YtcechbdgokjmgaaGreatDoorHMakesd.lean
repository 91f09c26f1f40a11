/- Contracts of functions of the program: what each returns. Their conditions stand in them. -/
import Derived.Test.YtcechbdgokjmgaaGreatDoorHMakesc
open Bool renaming true_and→ai2,and_eq_true→agE,false_and→aiD,or_true→ajG
open Classical renaming not_not→aha
open Int renaming toNat_natCast→ahl
open List renaming range→agr,map_append→aik,mem_map→ai5,mem_range→ah5,filter_eq_nil_iff→ajM,mem_filter→aiw,flatMap_cons→ajN,length_map→aif,length_append→ahx,append_nil→aib,append_assoc→ajk,eq_nil_of_length_eq_zero→ajE,any_eq_true→aiR,all_eq_true→ahP,any_eq_false→aiS,getElem_of_mem→agx,getD_eq_getElem?_getD→agt,getElem?_eq_getElem→agy,take_length→ail,length_set→agT,take→aiW,drop→aiX
open Nat renaming le_trans→ah2,succ_mul→agf,mul_le_mul→ahk,le_refl→agh
namespace Go.Eng.YtcechbdgokjmgaaGreatDoor
open Go.Proofs
set_option linter.unusedSimpArgs false
set_option linter.unusedVariables false
set_option maxHeartbeats 0
set_option maxRecDepth 100000
def okX (g:Nat) (c:Int) (ls:List (List Int)) (sum:Int) (s:St) (k i x:Int):Bool:=decide (dz c ls (nmG g) i x k=0)&&okJ g s sum (ls.getD k.toNat []) i x
def upL (t:Nat):List Int:=(agr t).map fun n:Nat=>(n:Int)+1
def dS (g:Nat) (c:Int) (ls:List (List Int)) (sum:Int) (s:St) (k:Int) (i t:Nat):List Dd:=((upL t).filter fun x=>okX g c ls sum s k i x).map fun x=>⟨g,i,x,k⟩
def eO (g:Nat) (c:Int) (ls:List (List Int)) (sum:Int) (s:St) (k:Int) (n:Nat):List Dd:=(agr n).flatMap fun i=>dS g c ls sum s k i c.toNat
def gK (g:Nat) (c:Int) (ls:List (List Int)) (sum:Int) (s:St) (m:Nat):List Dd:=(agr m).flatMap fun j:Nat=>eO g c ls sum s (frG g+(j:Int)) c.toNat
theorem Wj (t:Nat):upL (t+1)=upL t++[(t:Int)+1]:=by unfold upL;rw[List.range_succ,aik];rfl
theorem LM {t:Nat} {x:Int}:x∈upL t↔1≤x∧x≤t:=by
 unfold upL;rw[ai5];constructor
 ·rintro⟨n,hn,rfl⟩
  have:=ah5.1 hn;omega
 ·intro h
  exact⟨(x-1).toNat,ah5.2 (by omega),by omega⟩
theorem ad9 (t:Nat):(upL t).Pairwise (·< ·):=by
 unfold upL;rw[List.pairwise_map];exact List.pairwise_lt_range.imp fun h=>by omega
theorem om {g:Nat} {c:Int} {ls:List (List Int)} {sum:Int} {s:St} {k:Int} {i t:Nat}:
 dS g c ls sum s k i (t+1)=dS g c ls sum s k i t++if okX g c ls sum s k i ((t:Int)+1)then [⟨g,i,(t:Int)+1,k⟩]else []:=by
 unfold dS;rw[Wj,List.filter_append,aik];congr 1;cases h:okX g c ls sum s k i ((t:Int)+1)<;>simp[h]
theorem abh {g:Nat} (hg:1≤g∧g≤5) {c:Int} {ls:List (List Int)} {sum:Int} {s:St} (h:bB c ls sum s) {k:Int} (hk:lnG g=true→0≤k∧k<ls.length) (hk':lnG g=false→k= -1) {i:Nat} (hi:(i:Int)<c):
 dS g c ls sum s k i c.toNat=vY g s sum (ls.getD k.toNat []) k i:=by
 have hgi:=R8 hg;have hc:=h.c1;have hcl:=h.cl;have hA:=h.asc i (by omega)
 have hln:lnG g=true↔¬(g=2∨g=3):=by
  unfold lnG;have:g=1∨g=2∨g=3∨g=4∨g=5:=by omega
  rcases this with rfl|rfl|rfl|rfl|rfl<;>decide
 have hded:∀x,1≤x→x≤c→(dz c ls (nmG g) i x k=0↔¬(lnG g=true∧(i:Int)∉ls.getD k.toNat [])):=fun x h1 h2=>by
  unfold dz;rw[hgi,if_neg (by omega),if_neg (by omega),if_neg (by omega)]
  cases hl:lnG g with
  |false=>
   have h3:¬¬(g=2∨g=3):=fun e=>by rw[hln.2 e]at hl;cases hl
   have h4:(g:Int)=2∨(g:Int)=3:=by rcases aha.1 h3 with e|e<;>omega
   rw[if_pos h4,hk' hl];simp
  |true=>
   have h3:=hln.1 hl;have h4:¬((g:Int)=2∨(g:Int)=3):=fun e=>h3 (by omega)
   have hkk:=hk hl;rw[if_neg h4];by_cases hm:(i:Int)∈ls.getD k.toNat []
   ·rw[if_neg (fun e=>by rcases e with e|e|e;omega;omega;exact e hm)];exact⟨fun _ e=>e.2 hm,fun _=>rfl⟩
   ·rw[if_pos (.inr (.inr hm))];exact⟨fun e=>absurd e (by decide),fun e=>absurd ⟨rfl,hm⟩ e⟩
 unfold dS vY;cases hd:s.dc i with
 |true=>
  rw[ajM.2 (fun x hx=>by unfold okX okJ;rw[ahl,hd];simp)]
  rfl
 |false=>
  by_cases hb:lnG g=true∧(i:Int)∉ls.getD k.toNat []
  ·rw[ajM.2 (fun x hx=>by
    have:=LM.1 hx;unfold okX;rw[decide_eq_false (fun e=>(hded x this.1 (by omega)).1 e hb)];simp)]
   rw[hb.1,decide_eq_false hb.2];rfl
  ·have e1:(lnG g&&!decide ((i:Int)∈ls.getD k.toNat []))=false:=by
    cases hl:lnG g with
    |false=>rfl
    |true=>
     have:(i:Int)∈ls.getD k.toNat []:=aha.1 fun e=>hb ⟨hl,e⟩;rw[decide_eq_true this];rfl
   rw[e1,Bool.or_false,if_neg (by simp)]
   congr 1
   refine KJ ((ad9 _).filter _) (hA.1.pw.filter _) fun x=>?_;rw[aiw,aiw,LM];unfold okX okJ;rw[ahl,hd,Bool.not_false,ai2,agE,agE,decide_eq_true_eq,decide_eq_true_eq];constructor
   ·rintro⟨_,_,h2,h3⟩;exact⟨h2,h3⟩
   ·rintro⟨h2,h3⟩
    have r1:=hA.1.rng x h2;have r2:=hA.2 x h2;exact⟨⟨r1.1,by omega⟩,(hded x r1.1 r2).2 hb,h2,h3⟩
theorem rY {α β:Type} {f g:α→List β}:∀{l:List α},(∀x∈l,f x=g x)→l.flatMap f=l.flatMap g:=by
 intro l;induction l with
 |nil=>intro _;rfl
 |cons x l ih=>intro h;rw[ajN,ajN,h x (List.mem_cons_self ..),ih fun y hy=>h y (List.mem_cons_of_mem _ hy)]
theorem abj {g:Nat} (hg:1≤g∧g≤5) {c:Int} {ls:List (List Int)} {sum:Int} {s:St} (h:bB c ls sum s):gK g c ls sum s (mG g ls)=jo g s sum ls:=by
 have hc:=h.c1;have hcl:=h.cl;unfold gK jo;refine rY fun j hj=>?_;have hj:=ah5.1 hj;unfold eO;rw[show c.toNat=s.cs.length by omega]
 refine rY fun i hi=>?_;have hi:=ah5.1 hi;rw[show s.cs.length=c.toNat by omega]
 refine abh hg h (fun e=>?_) (fun e=>?_) (by omega)
 ·unfold mG at hj;rw[if_pos e]at hj;unfold frG;rw[if_pos e];omega
 ·unfold mG at hj;rw[if_neg (by rw[e];simp)]at hj;unfold frG;rw[if_neg (by rw[e];simp)];omega
theorem lV {g:Nat} {c:Int} {ls:List (List Int)} {sum:Int} {s:St} {m:Nat}:gK g c ls sum s (m+1)=gK g c ls sum s m++eO g c ls sum s (frG g+(m:Int)) c.toNat:=by
 unfold gK;rw[gP]
theorem lW {g:Nat} {c:Int} {ls:List (List Int)} {sum:Int} {s:St} {k:Int} {i:Nat}:eO g c ls sum s k (i+1)=eO g c ls sum s k i++dS g c ls sum s k i c.toNat:=by
 unfold eO;rw[gP]
theorem IX {g:Nat} {c:Int} {ls:List (List Int)} {sum:Int} {s:St} {k:Int} {i t:Nat}:(dS g c ls sum s k i t).length≤t:=by
 unfold dS;rw[aif];refine ah2 (List.length_filter_le _ _) ?_;unfold upL;simp
theorem IY {g:Nat} {c:Int} {ls:List (List Int)} {sum:Int} {s:St} {k:Int}:∀(n:Nat),(eO g c ls sum s k n).length≤n*c.toNat:=by
 intro n;induction n with
 |zero=>simp[eO]
 |succ n ih=>rw[lW,ahx,agf];have:=IX (g:=g) (c:=c) (ls:=ls) (sum:=sum) (s:=s) (k:=k) (i:=n) (t:=c.toNat);omega
theorem Wm {g:Nat} {c:Int} {ls:List (List Int)} {sum:Int} {s:St}:∀(m:Nat),(gK g c ls sum s m).length≤m*(c.toNat*c.toNat):=by
 intro n;induction n with
 |zero=>simp[gK]
 |succ n ih=>rw[lV,ahx,agf];have:=IY (g:=g) (c:=c) (ls:=ls) (sum:=sum) (s:=s) (k:=frG g+(n:Int)) c.toNat;omega
noncomputable def af0:CPT:=aA 64 (aB PL) (aA 75 (aB IU) noC)
theorem dP:aV Tryz.prog af0:=ak (au abf) (ak (au V7) aC)
theorem Ta (c:Int) (ls:List (List Int)) (sum:Int) (gv:List Int) (s:St) (hL:bH ls) (h:bB c ls sum s) (g:Nat) (hg:1≤g∧g≤5):
 aF Tryz.prog 71 [pzV c ls sum gv,stV s,.str (nmG g)] (.isl (dlC (jo g s sum ls)) .none):=by
 have hc:=h.c1;have hcl:=h.cl;have hll:=h.ll;rw[←abj hg h];have te40s:Gm.size=4:=by rfl
 have hbd:∀m,m≤128→(gK g c ls sum s m).length≤32768:=fun m hm=>ah2 (Wm m) (by
  have h1:c.toNat*c.toNat≤16*16:=ahk (by omega) (by omega)
  exact ah2 (ahk hm h1) (by decide))
 have hbl:∀k n,n≤16→(eO g c ls sum s k n).length≤256:=fun k n hn=>ah2 (IY n) (ah2 (ahk hn (show c.toNat≤16 by omega)) (by decide))
 have hbc:∀k i t,t≤16→(dS g c ls sum s k i t).length≤16:=fun k i t ht=>ah2 IX ht;obtain rfl|rfl|rfl|rfl|rfl:g=1∨g=2∨g=3∨g=4∨g=5:=by omega
 ·skip
  rw[show mG 1 ls=ls.length from rfl];refine av (md:=1) (rf:=[]) mixed aj dP Tryz.func71 (by rfl) (by rfl) (by rfl) ?_
  repeat'((conv=>whnf);first|(intro hq;(try simp only[vw]at hq);try first|exact absurd hq (by decide)|exfalso;omega)|apply aI|with_reducible exact vM rfl|exact⟨⟩|apply nM|apply fM)
  all_goals((try apply vM);(try simp only[vq]at*);try omega)
  conv=>whnf
  refine aJ (X:=Nat) (fun j=>j≤ls.length) (fun j=>[(10,.int .i64 ((0:Int)+(j:Int))),(7,.isl (.recs 4 ((gK 1 c ls sum s j).map ddC)) (.own 5))]) (fun j=>[(5,.tok 4 (gK 1 c ls sum s j).length)]) (fun j=>ls.length-j) 0 ⟨aG,mixed,aj,dP,aM⟩ (by rfl) (by omega) ?_ ?_
  ·repeat'((conv=>whnf);first|intro _|apply aI|with_reducible exact vM rfl|exact⟨⟩|apply nM|apply fM)
   all_goals((try apply vM);(try simp only[vq]at*);try omega)
  intro j hj;have hbj:=hbd j (by omega)
  by_cases hlt:j<ls.length
  case neg=>
   have e:j=ls.length:=by omega
   subst e
   repeat'((conv=>whnf);first|(intro hq;(try simp only[vw]at hq);try first|exact absurd hq (by decide)|exfalso;omega)|apply aI|with_reducible exact vM rfl|exact⟨⟩|apply nM|apply fM)
   all_goals((try apply vM);(try simp only[vq]at*);try omega)
   all_goals(try omega)
   all_goals exact qB _ _
  have hbj1:=hbd (j+1) (by omega)
  have hsj:=lV (g:=1) (c:=c) (ls:=ls) (sum:=sum) (s:=s) (m:=j);rw[show frG 1=(0:Int)from rfl]at hsj;obtain⟨A,hA⟩:∃A,gK 1 c ls sum s j=A:=⟨_,rfl⟩;rw[hA]at hbj hsj⊢
  repeat'((conv=>whnf);first|(intro hq;(try simp only[vw]at hq);try first|exact absurd hq (by decide)|exfalso;omega)|apply aI|with_reducible exact vM rfl|exact⟨⟩|apply nM|apply fM)
  all_goals((try apply vM);(try simp only[vq]at*);try omega)
  all_goals(try omega)
  conv=>whnf
  refine aJ (X:=Nat) (fun i=>i≤c.toNat) (fun i=>[(11,.int .i64 (i:Int)),(7,.isl (.recs 4 ((A++eO 1 c ls sum s ((0:Int)+(j:Int)) i).map ddC)) (.own 5))]) (fun i=>[(5,.tok 4 (A++eO 1 c ls sum s ((0:Int)+(j:Int)) i).length)]) (fun i=>c.toNat-i) 0 ⟨aG,mixed,aj,dP,aM⟩ (by rfl) (by omega) ?_ ?_
  ·repeat'((conv=>whnf);first|intro _|apply aI|with_reducible exact vM rfl|exact⟨⟩|apply nM|apply fM)
   all_goals((try apply vM);(try simp only[vq]at*);try omega)
   all_goals(try(rw[show eO 1 c ls sum s ((0:Int)+(j:Int)) 0=[]from rfl,aib]))
  intro i hi;have hbi:=hbl ((0:Int)+(j:Int)) i (by omega)
  by_cases hli:i<c.toNat
  case neg=>
   have e:i=c.toNat:=by omega
   subst e
   repeat'((conv=>whnf);first|(intro hq;(try simp only[vw]at hq);try first|exact absurd hq (by decide)|exfalso;omega)|apply aI|with_reducible exact vM rfl|exact⟨⟩|apply nM|apply fM)
   all_goals((try apply vM);(try simp only[vq]at*);try omega)
   all_goals(try omega)
   refine⟨j+1,[],⟨by omega,by omega⟩,?_⟩
   rw[hsj]
   repeat'((conv=>whnf);first|intro _|apply aI|with_reducible exact vM rfl|exact⟨⟩|apply nM|apply fM)
   all_goals((try apply vM);(try simp only[vq]at*);try omega)
  have hsi:=lW (g:=1) (c:=c) (ls:=ls) (sum:=sum) (s:=s) (k:=(0:Int)+(j:Int)) (i:=i);obtain⟨R,hR⟩:∃R,eO 1 c ls sum s ((0:Int)+(j:Int)) i=R:=⟨_,rfl⟩;rw[hR]at hbi hsi⊢
  repeat'((conv=>whnf);first|(intro hq;(try simp only[vw]at hq);try first|exact absurd hq (by decide)|exfalso;omega)|apply aI|with_reducible exact vM rfl|exact⟨⟩|apply nM|apply fM)
  all_goals((try apply vM);(try simp only[vq]at*);try omega)
  all_goals(try omega)
  conv=>whnf
  refine aJ (X:=Nat) (fun t=>t≤c.toNat) (fun t=>[(12,.int .i64 ((t:Int)+1)),(7,.isl (.recs 4 ((A++R++dS 1 c ls sum s ((0:Int)+(j:Int)) i t).map ddC)) (.own 5))]) (fun t=>[(5,.tok 4 (A++R++dS 1 c ls sum s ((0:Int)+(j:Int)) i t).length)]) (fun t=>c.toNat-t) 0 ⟨aG,mixed,aj,dP,aM⟩ (by rfl) (by omega) ?_ ?_
  ·repeat'((conv=>whnf);first|intro _|apply aI|with_reducible exact vM rfl|exact⟨⟩|apply nM|apply fM)
   all_goals((try apply vM);(try simp only[vq]at*);try omega)
   all_goals(try(rw[show dS 1 c ls sum s ((0:Int)+(j:Int)) i 0=[]from rfl,aib]))
  intro t ht;have hbt:=hbc ((0:Int)+(j:Int)) i t (by omega)
  by_cases hlt:t<c.toNat
  case neg=>
   have e:t=c.toNat:=by omega
   subst e
   repeat'((conv=>whnf);first|(intro hq;(try simp only[vw]at hq);try first|exact absurd hq (by decide)|exfalso;omega)|apply aI|with_reducible exact vM rfl|exact⟨⟩|apply nM|apply fM)
   all_goals((try apply vM);(try simp only[vq]at*);try omega)
   all_goals(try omega)
   refine⟨i+1,[],⟨by omega,by omega⟩,?_⟩
   rw[hsi,←ajk]
   repeat'((conv=>whnf);first|intro _|apply aI|with_reducible exact vM rfl|exact⟨⟩|apply nM|apply fM)
   all_goals((try apply vM);(try simp only[vq]at*);try omega)
  have hst:=om (g:=1) (c:=c) (ls:=ls) (sum:=sum) (s:=s) (k:=(0:Int)+(j:Int)) (i:=i) (t:=t);have hlen:(A++R++dS 1 c ls sum s ((0:Int)+(j:Int)) i t).length≤40000:=by rw[ahx,ahx];omega
  obtain⟨C,hC⟩:∃C,dS 1 c ls sum s ((0:Int)+(j:Int)) i t=C:=⟨_,rfl⟩;rw[hC]at hst hlen⊢;have hgg:(aQ (nmG 1)).toNat=1:=by rw[jO.1];rfl
  repeat'((conv=>whnf);first|(intro hq;(try simp only[vw]at hq);try first|exact absurd hq (by decide)|exfalso;omega)|apply aI|with_reducible exact vM rfl|exact⟨⟩|apply nM|apply fM)
  all_goals((try apply vM);(try simp only[vq]at*);try omega)
  all_goals(try omega)
  ·exact⟨h,lD.of hq⟩
  ·exact(aif ..).symm
  ·rw[te40s];rfl
  ·rw[ahx,aif,te40s]
   show(A++R++C).length+1≤_;omega
  ·rename_i hd
   have hk1:okX 1 c ls sum s ((0:Int)+(j:Int)) i ((t:Int)+1)=true:=by
    unfold okX;rw[decide_eq_true hd,ai2,←hq,hgg]
   refine⟨t+1,[],⟨by omega,by omega⟩,?_⟩
   rw[hst,if_pos hk1,←ajk,aik,ahx]
   repeat'((conv=>whnf);first|intro _|apply aI|with_reducible exact vM rfl|exact⟨⟩|apply nM|apply fM)
   all_goals((try apply vM);(try simp only[vq]at*);try omega)
   all_goals(rw[te40s];refine congrArg (CL.recs 4) ?_;rw[aik (l₁:=A++R++C)];rfl)
  ·rename_i hd
   have hk1:okX 1 c ls sum s ((0:Int)+(j:Int)) i ((t:Int)+1)=false:=by
    unfold okX;rw[decide_eq_true hd,ai2,←hq,hgg]
   refine⟨t+1,[],⟨by omega,by omega⟩,?_⟩
   rw[hst,hk1,if_neg (by simp),aib]
   repeat'((conv=>whnf);first|intro _|apply aI|with_reducible exact vM rfl|exact⟨⟩|apply nM|apply fM)
   all_goals((try apply vM);(try simp only[vq]at*);try omega)
  ·have hk1:okX 1 c ls sum s ((0:Int)+(j:Int)) i ((t:Int)+1)=false:=by
    unfold okX;rw[decide_eq_false hq,aiD]
   refine⟨t+1,[],⟨by omega,by omega⟩,?_⟩
   rw[hst,hk1,if_neg (by simp),aib]
   repeat'((conv=>whnf);first|intro _|apply aI|with_reducible exact vM rfl|exact⟨⟩|apply nM|apply fM)
   all_goals((try apply vM);(try simp only[vq]at*);try omega)
 ·skip
  rw[show mG 2 ls=1 from rfl];refine av (md:=1) (rf:=[]) mixed aj dP Tryz.func71 (by rfl) (by rfl) (by rfl) ?_
  repeat'((conv=>whnf);first|(intro hq;(try simp only[vw]at hq);try first|exact absurd hq (by decide)|exfalso;omega)|apply aI|with_reducible exact vM rfl|exact⟨⟩|apply nM|apply fM)
  all_goals((try apply vM);(try simp only[vq]at*);try omega)
  conv=>whnf
  refine aJ (X:=Nat) (fun j=>j≤1) (fun j=>[(10,.int .i64 ((-1:Int)+(j:Int))),(7,.isl (.recs 4 ((gK 2 c ls sum s j).map ddC)) (.own 5))]) (fun j=>[(5,.tok 4 (gK 2 c ls sum s j).length)]) (fun j=>1-j) 0 ⟨aG,mixed,aj,dP,aM⟩ (by rfl) (by omega) ?_ ?_
  ·repeat'((conv=>whnf);first|intro _|apply aI|with_reducible exact vM rfl|exact⟨⟩|apply nM|apply fM)
   all_goals((try apply vM);(try simp only[vq]at*);try omega)
  intro j hj;have hbj:=hbd j (by omega)
  by_cases hlt:j<1
  case neg=>
   have e:j=1:=by omega
   subst e
   repeat'((conv=>whnf);first|(intro hq;(try simp only[vw]at hq);try first|exact absurd hq (by decide)|exfalso;omega)|apply aI|with_reducible exact vM rfl|exact⟨⟩|apply nM|apply fM)
   all_goals((try apply vM);(try simp only[vq]at*);try omega)
   all_goals(try omega)
   all_goals exact qB _ _
  have hbj1:=hbd (j+1) (by omega)
  have hsj:=lV (g:=2) (c:=c) (ls:=ls) (sum:=sum) (s:=s) (m:=j);rw[show frG 2=(-1:Int)from rfl]at hsj;obtain⟨A,hA⟩:∃A,gK 2 c ls sum s j=A:=⟨_,rfl⟩;rw[hA]at hbj hsj⊢
  repeat'((conv=>whnf);first|(intro hq;(try simp only[vw]at hq);try first|exact absurd hq (by decide)|exfalso;omega)|apply aI|with_reducible exact vM rfl|exact⟨⟩|apply nM|apply fM)
  all_goals((try apply vM);(try simp only[vq]at*);try omega)
  all_goals(try omega)
  conv=>whnf
  refine aJ (X:=Nat) (fun i=>i≤c.toNat) (fun i=>[(11,.int .i64 (i:Int)),(7,.isl (.recs 4 ((A++eO 2 c ls sum s ((-1:Int)+(j:Int)) i).map ddC)) (.own 5))]) (fun i=>[(5,.tok 4 (A++eO 2 c ls sum s ((-1:Int)+(j:Int)) i).length)]) (fun i=>c.toNat-i) 0 ⟨aG,mixed,aj,dP,aM⟩ (by rfl) (by omega) ?_ ?_
  ·repeat'((conv=>whnf);first|intro _|apply aI|with_reducible exact vM rfl|exact⟨⟩|apply nM|apply fM)
   all_goals((try apply vM);(try simp only[vq]at*);try omega)
   all_goals(try(rw[show eO 2 c ls sum s ((-1:Int)+(j:Int)) 0=[]from rfl,aib]))
  intro i hi;have hbi:=hbl ((-1:Int)+(j:Int)) i (by omega)
  by_cases hli:i<c.toNat
  case neg=>
   have e:i=c.toNat:=by omega
   subst e
   repeat'((conv=>whnf);first|(intro hq;(try simp only[vw]at hq);try first|exact absurd hq (by decide)|exfalso;omega)|apply aI|with_reducible exact vM rfl|exact⟨⟩|apply nM|apply fM)
   all_goals((try apply vM);(try simp only[vq]at*);try omega)
   all_goals(try omega)
   refine⟨j+1,[],⟨by omega,by omega⟩,?_⟩
   rw[hsj]
   repeat'((conv=>whnf);first|intro _|apply aI|with_reducible exact vM rfl|exact⟨⟩|apply nM|apply fM)
   all_goals((try apply vM);(try simp only[vq]at*);try omega)
  have hsi:=lW (g:=2) (c:=c) (ls:=ls) (sum:=sum) (s:=s) (k:=(-1:Int)+(j:Int)) (i:=i);obtain⟨R,hR⟩:∃R,eO 2 c ls sum s ((-1:Int)+(j:Int)) i=R:=⟨_,rfl⟩;rw[hR]at hbi hsi⊢
  repeat'((conv=>whnf);first|(intro hq;(try simp only[vw]at hq);try first|exact absurd hq (by decide)|exfalso;omega)|apply aI|with_reducible exact vM rfl|exact⟨⟩|apply nM|apply fM)
  all_goals((try apply vM);(try simp only[vq]at*);try omega)
  all_goals(try omega)
  conv=>whnf
  refine aJ (X:=Nat) (fun t=>t≤c.toNat) (fun t=>[(12,.int .i64 ((t:Int)+1)),(7,.isl (.recs 4 ((A++R++dS 2 c ls sum s ((-1:Int)+(j:Int)) i t).map ddC)) (.own 5))]) (fun t=>[(5,.tok 4 (A++R++dS 2 c ls sum s ((-1:Int)+(j:Int)) i t).length)]) (fun t=>c.toNat-t) 0 ⟨aG,mixed,aj,dP,aM⟩ (by rfl) (by omega) ?_ ?_
  ·repeat'((conv=>whnf);first|intro _|apply aI|with_reducible exact vM rfl|exact⟨⟩|apply nM|apply fM)
   all_goals((try apply vM);(try simp only[vq]at*);try omega)
   all_goals(try(rw[show dS 2 c ls sum s ((-1:Int)+(j:Int)) i 0=[]from rfl,aib]))
  intro t ht;have hbt:=hbc ((-1:Int)+(j:Int)) i t (by omega)
  by_cases hlt:t<c.toNat
  case neg=>
   have e:t=c.toNat:=by omega
   subst e
   repeat'((conv=>whnf);first|(intro hq;(try simp only[vw]at hq);try first|exact absurd hq (by decide)|exfalso;omega)|apply aI|with_reducible exact vM rfl|exact⟨⟩|apply nM|apply fM)
   all_goals((try apply vM);(try simp only[vq]at*);try omega)
   all_goals(try omega)
   refine⟨i+1,[],⟨by omega,by omega⟩,?_⟩
   rw[hsi,←ajk]
   repeat'((conv=>whnf);first|intro _|apply aI|with_reducible exact vM rfl|exact⟨⟩|apply nM|apply fM)
   all_goals((try apply vM);(try simp only[vq]at*);try omega)
  have hst:=om (g:=2) (c:=c) (ls:=ls) (sum:=sum) (s:=s) (k:=(-1:Int)+(j:Int)) (i:=i) (t:=t);have hlen:(A++R++dS 2 c ls sum s ((-1:Int)+(j:Int)) i t).length≤40000:=by rw[ahx,ahx];omega
  obtain⟨C,hC⟩:∃C,dS 2 c ls sum s ((-1:Int)+(j:Int)) i t=C:=⟨_,rfl⟩;rw[hC]at hst hlen⊢;have hgg:(aQ (nmG 2)).toNat=2:=by rw[jO.2.1];rfl
  repeat'((conv=>whnf);first|(intro hq;(try simp only[vw]at hq);try first|exact absurd hq (by decide)|exfalso;omega)|apply aI|with_reducible exact vM rfl|exact⟨⟩|apply nM|apply fM)
  all_goals((try apply vM);(try simp only[vq]at*);try omega)
  all_goals(try omega)
  ·exact⟨h,lD.of hq⟩
  ·exact(aif ..).symm
  ·rw[te40s];rfl
  ·rw[ahx,aif,te40s]
   show(A++R++C).length+1≤_;omega
  ·rename_i hd
   have hk1:okX 2 c ls sum s ((-1:Int)+(j:Int)) i ((t:Int)+1)=true:=by
    unfold okX;rw[decide_eq_true hd,ai2,←hq,hgg]
   refine⟨t+1,[],⟨by omega,by omega⟩,?_⟩
   rw[hst,if_pos hk1,←ajk,aik,ahx]
   repeat'((conv=>whnf);first|intro _|apply aI|with_reducible exact vM rfl|exact⟨⟩|apply nM|apply fM)
   all_goals((try apply vM);(try simp only[vq]at*);try omega)
   all_goals(rw[te40s];refine congrArg (CL.recs 4) ?_;rw[aik (l₁:=A++R++C)];rfl)
  ·rename_i hd
   have hk1:okX 2 c ls sum s ((-1:Int)+(j:Int)) i ((t:Int)+1)=false:=by
    unfold okX;rw[decide_eq_true hd,ai2,←hq,hgg]
   refine⟨t+1,[],⟨by omega,by omega⟩,?_⟩
   rw[hst,hk1,if_neg (by simp),aib]
   repeat'((conv=>whnf);first|intro _|apply aI|with_reducible exact vM rfl|exact⟨⟩|apply nM|apply fM)
   all_goals((try apply vM);(try simp only[vq]at*);try omega)
  ·have hk1:okX 2 c ls sum s ((-1:Int)+(j:Int)) i ((t:Int)+1)=false:=by
    unfold okX;rw[decide_eq_false hq,aiD]
   refine⟨t+1,[],⟨by omega,by omega⟩,?_⟩
   rw[hst,hk1,if_neg (by simp),aib]
   repeat'((conv=>whnf);first|intro _|apply aI|with_reducible exact vM rfl|exact⟨⟩|apply nM|apply fM)
   all_goals((try apply vM);(try simp only[vq]at*);try omega)
 ·skip
  rw[show mG 3 ls=1 from rfl];refine av (md:=1) (rf:=[]) mixed aj dP Tryz.func71 (by rfl) (by rfl) (by rfl) ?_
  repeat'((conv=>whnf);first|(intro hq;(try simp only[vw]at hq);try first|exact absurd hq (by decide)|exfalso;omega)|apply aI|with_reducible exact vM rfl|exact⟨⟩|apply nM|apply fM)
  all_goals((try apply vM);(try simp only[vq]at*);try omega)
  conv=>whnf
  refine aJ (X:=Nat) (fun j=>j≤1) (fun j=>[(10,.int .i64 ((-1:Int)+(j:Int))),(7,.isl (.recs 4 ((gK 3 c ls sum s j).map ddC)) (.own 5))]) (fun j=>[(5,.tok 4 (gK 3 c ls sum s j).length)]) (fun j=>1-j) 0 ⟨aG,mixed,aj,dP,aM⟩ (by rfl) (by omega) ?_ ?_
  ·repeat'((conv=>whnf);first|intro _|apply aI|with_reducible exact vM rfl|exact⟨⟩|apply nM|apply fM)
   all_goals((try apply vM);(try simp only[vq]at*);try omega)
  intro j hj;have hbj:=hbd j (by omega)
  by_cases hlt:j<1
  case neg=>
   have e:j=1:=by omega
   subst e
   repeat'((conv=>whnf);first|(intro hq;(try simp only[vw]at hq);try first|exact absurd hq (by decide)|exfalso;omega)|apply aI|with_reducible exact vM rfl|exact⟨⟩|apply nM|apply fM)
   all_goals((try apply vM);(try simp only[vq]at*);try omega)
   all_goals(try omega)
   all_goals exact qB _ _
  have hbj1:=hbd (j+1) (by omega)
  have hsj:=lV (g:=3) (c:=c) (ls:=ls) (sum:=sum) (s:=s) (m:=j);rw[show frG 3=(-1:Int)from rfl]at hsj;obtain⟨A,hA⟩:∃A,gK 3 c ls sum s j=A:=⟨_,rfl⟩;rw[hA]at hbj hsj⊢
  repeat'((conv=>whnf);first|(intro hq;(try simp only[vw]at hq);try first|exact absurd hq (by decide)|exfalso;omega)|apply aI|with_reducible exact vM rfl|exact⟨⟩|apply nM|apply fM)
  all_goals((try apply vM);(try simp only[vq]at*);try omega)
  all_goals(try omega)
  conv=>whnf
  refine aJ (X:=Nat) (fun i=>i≤c.toNat) (fun i=>[(11,.int .i64 (i:Int)),(7,.isl (.recs 4 ((A++eO 3 c ls sum s ((-1:Int)+(j:Int)) i).map ddC)) (.own 5))]) (fun i=>[(5,.tok 4 (A++eO 3 c ls sum s ((-1:Int)+(j:Int)) i).length)]) (fun i=>c.toNat-i) 0 ⟨aG,mixed,aj,dP,aM⟩ (by rfl) (by omega) ?_ ?_
  ·repeat'((conv=>whnf);first|intro _|apply aI|with_reducible exact vM rfl|exact⟨⟩|apply nM|apply fM)
   all_goals((try apply vM);(try simp only[vq]at*);try omega)
   all_goals(try(rw[show eO 3 c ls sum s ((-1:Int)+(j:Int)) 0=[]from rfl,aib]))
  intro i hi;have hbi:=hbl ((-1:Int)+(j:Int)) i (by omega)
  by_cases hli:i<c.toNat
  case neg=>
   have e:i=c.toNat:=by omega
   subst e
   repeat'((conv=>whnf);first|(intro hq;(try simp only[vw]at hq);try first|exact absurd hq (by decide)|exfalso;omega)|apply aI|with_reducible exact vM rfl|exact⟨⟩|apply nM|apply fM)
   all_goals((try apply vM);(try simp only[vq]at*);try omega)
   all_goals(try omega)
   refine⟨j+1,[],⟨by omega,by omega⟩,?_⟩
   rw[hsj]
   repeat'((conv=>whnf);first|intro _|apply aI|with_reducible exact vM rfl|exact⟨⟩|apply nM|apply fM)
   all_goals((try apply vM);(try simp only[vq]at*);try omega)
  have hsi:=lW (g:=3) (c:=c) (ls:=ls) (sum:=sum) (s:=s) (k:=(-1:Int)+(j:Int)) (i:=i);obtain⟨R,hR⟩:∃R,eO 3 c ls sum s ((-1:Int)+(j:Int)) i=R:=⟨_,rfl⟩;rw[hR]at hbi hsi⊢
  repeat'((conv=>whnf);first|(intro hq;(try simp only[vw]at hq);try first|exact absurd hq (by decide)|exfalso;omega)|apply aI|with_reducible exact vM rfl|exact⟨⟩|apply nM|apply fM)
  all_goals((try apply vM);(try simp only[vq]at*);try omega)
  all_goals(try omega)
  conv=>whnf
  refine aJ (X:=Nat) (fun t=>t≤c.toNat) (fun t=>[(12,.int .i64 ((t:Int)+1)),(7,.isl (.recs 4 ((A++R++dS 3 c ls sum s ((-1:Int)+(j:Int)) i t).map ddC)) (.own 5))]) (fun t=>[(5,.tok 4 (A++R++dS 3 c ls sum s ((-1:Int)+(j:Int)) i t).length)]) (fun t=>c.toNat-t) 0 ⟨aG,mixed,aj,dP,aM⟩ (by rfl) (by omega) ?_ ?_
  ·repeat'((conv=>whnf);first|intro _|apply aI|with_reducible exact vM rfl|exact⟨⟩|apply nM|apply fM)
   all_goals((try apply vM);(try simp only[vq]at*);try omega)
   all_goals(try(rw[show dS 3 c ls sum s ((-1:Int)+(j:Int)) i 0=[]from rfl,aib]))
  intro t ht;have hbt:=hbc ((-1:Int)+(j:Int)) i t (by omega)
  by_cases hlt:t<c.toNat
  case neg=>
   have e:t=c.toNat:=by omega
   subst e
   repeat'((conv=>whnf);first|(intro hq;(try simp only[vw]at hq);try first|exact absurd hq (by decide)|exfalso;omega)|apply aI|with_reducible exact vM rfl|exact⟨⟩|apply nM|apply fM)
   all_goals((try apply vM);(try simp only[vq]at*);try omega)
   all_goals(try omega)
   refine⟨i+1,[],⟨by omega,by omega⟩,?_⟩
   rw[hsi,←ajk]
   repeat'((conv=>whnf);first|intro _|apply aI|with_reducible exact vM rfl|exact⟨⟩|apply nM|apply fM)
   all_goals((try apply vM);(try simp only[vq]at*);try omega)
  have hst:=om (g:=3) (c:=c) (ls:=ls) (sum:=sum) (s:=s) (k:=(-1:Int)+(j:Int)) (i:=i) (t:=t);have hlen:(A++R++dS 3 c ls sum s ((-1:Int)+(j:Int)) i t).length≤40000:=by rw[ahx,ahx];omega
  obtain⟨C,hC⟩:∃C,dS 3 c ls sum s ((-1:Int)+(j:Int)) i t=C:=⟨_,rfl⟩;rw[hC]at hst hlen⊢;have hgg:(aQ (nmG 3)).toNat=3:=by rw[jO.2.2.1];rfl
  repeat'((conv=>whnf);first|(intro hq;(try simp only[vw]at hq);try first|exact absurd hq (by decide)|exfalso;omega)|apply aI|with_reducible exact vM rfl|exact⟨⟩|apply nM|apply fM)
  all_goals((try apply vM);(try simp only[vq]at*);try omega)
  all_goals(try omega)
  ·exact⟨h,lD.of hq⟩
  ·exact(aif ..).symm
  ·rw[te40s];rfl
  ·rw[ahx,aif,te40s]
   show(A++R++C).length+1≤_;omega
  ·rename_i hd
   have hk1:okX 3 c ls sum s ((-1:Int)+(j:Int)) i ((t:Int)+1)=true:=by
    unfold okX;rw[decide_eq_true hd,ai2,←hq,hgg]
   refine⟨t+1,[],⟨by omega,by omega⟩,?_⟩
   rw[hst,if_pos hk1,←ajk,aik,ahx]
   repeat'((conv=>whnf);first|intro _|apply aI|with_reducible exact vM rfl|exact⟨⟩|apply nM|apply fM)
   all_goals((try apply vM);(try simp only[vq]at*);try omega)
   all_goals(rw[te40s];refine congrArg (CL.recs 4) ?_;rw[aik (l₁:=A++R++C)];rfl)
  ·rename_i hd
   have hk1:okX 3 c ls sum s ((-1:Int)+(j:Int)) i ((t:Int)+1)=false:=by
    unfold okX;rw[decide_eq_true hd,ai2,←hq,hgg]
   refine⟨t+1,[],⟨by omega,by omega⟩,?_⟩
   rw[hst,hk1,if_neg (by simp),aib]
   repeat'((conv=>whnf);first|intro _|apply aI|with_reducible exact vM rfl|exact⟨⟩|apply nM|apply fM)
   all_goals((try apply vM);(try simp only[vq]at*);try omega)
  ·have hk1:okX 3 c ls sum s ((-1:Int)+(j:Int)) i ((t:Int)+1)=false:=by
    unfold okX;rw[decide_eq_false hq,aiD]
   refine⟨t+1,[],⟨by omega,by omega⟩,?_⟩
   rw[hst,hk1,if_neg (by simp),aib]
   repeat'((conv=>whnf);first|intro _|apply aI|with_reducible exact vM rfl|exact⟨⟩|apply nM|apply fM)
   all_goals((try apply vM);(try simp only[vq]at*);try omega)
 ·skip
  rw[show mG 4 ls=ls.length from rfl];refine av (md:=1) (rf:=[]) mixed aj dP Tryz.func71 (by rfl) (by rfl) (by rfl) ?_
  repeat'((conv=>whnf);first|(intro hq;(try simp only[vw]at hq);try first|exact absurd hq (by decide)|exfalso;omega)|apply aI|with_reducible exact vM rfl|exact⟨⟩|apply nM|apply fM)
  all_goals((try apply vM);(try simp only[vq]at*);try omega)
  conv=>whnf
  refine aJ (X:=Nat) (fun j=>j≤ls.length) (fun j=>[(10,.int .i64 ((0:Int)+(j:Int))),(7,.isl (.recs 4 ((gK 4 c ls sum s j).map ddC)) (.own 5))]) (fun j=>[(5,.tok 4 (gK 4 c ls sum s j).length)]) (fun j=>ls.length-j) 0 ⟨aG,mixed,aj,dP,aM⟩ (by rfl) (by omega) ?_ ?_
  ·repeat'((conv=>whnf);first|intro _|apply aI|with_reducible exact vM rfl|exact⟨⟩|apply nM|apply fM)
   all_goals((try apply vM);(try simp only[vq]at*);try omega)
  intro j hj;have hbj:=hbd j (by omega)
  by_cases hlt:j<ls.length
  case neg=>
   have e:j=ls.length:=by omega
   subst e
   repeat'((conv=>whnf);first|(intro hq;(try simp only[vw]at hq);try first|exact absurd hq (by decide)|exfalso;omega)|apply aI|with_reducible exact vM rfl|exact⟨⟩|apply nM|apply fM)
   all_goals((try apply vM);(try simp only[vq]at*);try omega)
   all_goals(try omega)
   all_goals exact qB _ _
  have hbj1:=hbd (j+1) (by omega)
  have hsj:=lV (g:=4) (c:=c) (ls:=ls) (sum:=sum) (s:=s) (m:=j);rw[show frG 4=(0:Int)from rfl]at hsj;obtain⟨A,hA⟩:∃A,gK 4 c ls sum s j=A:=⟨_,rfl⟩;rw[hA]at hbj hsj⊢
  repeat'((conv=>whnf);first|(intro hq;(try simp only[vw]at hq);try first|exact absurd hq (by decide)|exfalso;omega)|apply aI|with_reducible exact vM rfl|exact⟨⟩|apply nM|apply fM)
  all_goals((try apply vM);(try simp only[vq]at*);try omega)
  all_goals(try omega)
  conv=>whnf
  refine aJ (X:=Nat) (fun i=>i≤c.toNat) (fun i=>[(11,.int .i64 (i:Int)),(7,.isl (.recs 4 ((A++eO 4 c ls sum s ((0:Int)+(j:Int)) i).map ddC)) (.own 5))]) (fun i=>[(5,.tok 4 (A++eO 4 c ls sum s ((0:Int)+(j:Int)) i).length)]) (fun i=>c.toNat-i) 0 ⟨aG,mixed,aj,dP,aM⟩ (by rfl) (by omega) ?_ ?_
  ·repeat'((conv=>whnf);first|intro _|apply aI|with_reducible exact vM rfl|exact⟨⟩|apply nM|apply fM)
   all_goals((try apply vM);(try simp only[vq]at*);try omega)
   all_goals(try(rw[show eO 4 c ls sum s ((0:Int)+(j:Int)) 0=[]from rfl,aib]))
  intro i hi;have hbi:=hbl ((0:Int)+(j:Int)) i (by omega)
  by_cases hli:i<c.toNat
  case neg=>
   have e:i=c.toNat:=by omega
   subst e
   repeat'((conv=>whnf);first|(intro hq;(try simp only[vw]at hq);try first|exact absurd hq (by decide)|exfalso;omega)|apply aI|with_reducible exact vM rfl|exact⟨⟩|apply nM|apply fM)
   all_goals((try apply vM);(try simp only[vq]at*);try omega)
   all_goals(try omega)
   refine⟨j+1,[],⟨by omega,by omega⟩,?_⟩
   rw[hsj]
   repeat'((conv=>whnf);first|intro _|apply aI|with_reducible exact vM rfl|exact⟨⟩|apply nM|apply fM)
   all_goals((try apply vM);(try simp only[vq]at*);try omega)
  have hsi:=lW (g:=4) (c:=c) (ls:=ls) (sum:=sum) (s:=s) (k:=(0:Int)+(j:Int)) (i:=i);obtain⟨R,hR⟩:∃R,eO 4 c ls sum s ((0:Int)+(j:Int)) i=R:=⟨_,rfl⟩;rw[hR]at hbi hsi⊢
  repeat'((conv=>whnf);first|(intro hq;(try simp only[vw]at hq);try first|exact absurd hq (by decide)|exfalso;omega)|apply aI|with_reducible exact vM rfl|exact⟨⟩|apply nM|apply fM)
  all_goals((try apply vM);(try simp only[vq]at*);try omega)
  all_goals(try omega)
  conv=>whnf
  refine aJ (X:=Nat) (fun t=>t≤c.toNat) (fun t=>[(12,.int .i64 ((t:Int)+1)),(7,.isl (.recs 4 ((A++R++dS 4 c ls sum s ((0:Int)+(j:Int)) i t).map ddC)) (.own 5))]) (fun t=>[(5,.tok 4 (A++R++dS 4 c ls sum s ((0:Int)+(j:Int)) i t).length)]) (fun t=>c.toNat-t) 0 ⟨aG,mixed,aj,dP,aM⟩ (by rfl) (by omega) ?_ ?_
  ·repeat'((conv=>whnf);first|intro _|apply aI|with_reducible exact vM rfl|exact⟨⟩|apply nM|apply fM)
   all_goals((try apply vM);(try simp only[vq]at*);try omega)
   all_goals(try(rw[show dS 4 c ls sum s ((0:Int)+(j:Int)) i 0=[]from rfl,aib]))
  intro t ht;have hbt:=hbc ((0:Int)+(j:Int)) i t (by omega)
  by_cases hlt:t<c.toNat
  case neg=>
   have e:t=c.toNat:=by omega
   subst e
   repeat'((conv=>whnf);first|(intro hq;(try simp only[vw]at hq);try first|exact absurd hq (by decide)|exfalso;omega)|apply aI|with_reducible exact vM rfl|exact⟨⟩|apply nM|apply fM)
   all_goals((try apply vM);(try simp only[vq]at*);try omega)
   all_goals(try omega)
   refine⟨i+1,[],⟨by omega,by omega⟩,?_⟩
   rw[hsi,←ajk]
   repeat'((conv=>whnf);first|intro _|apply aI|with_reducible exact vM rfl|exact⟨⟩|apply nM|apply fM)
   all_goals((try apply vM);(try simp only[vq]at*);try omega)
  have hst:=om (g:=4) (c:=c) (ls:=ls) (sum:=sum) (s:=s) (k:=(0:Int)+(j:Int)) (i:=i) (t:=t);have hlen:(A++R++dS 4 c ls sum s ((0:Int)+(j:Int)) i t).length≤40000:=by rw[ahx,ahx];omega
  obtain⟨C,hC⟩:∃C,dS 4 c ls sum s ((0:Int)+(j:Int)) i t=C:=⟨_,rfl⟩;rw[hC]at hst hlen⊢;have hgg:(aQ (nmG 4)).toNat=4:=by rw[jO.2.2.2.1];rfl
  repeat'((conv=>whnf);first|(intro hq;(try simp only[vw]at hq);try first|exact absurd hq (by decide)|exfalso;omega)|apply aI|with_reducible exact vM rfl|exact⟨⟩|apply nM|apply fM)
  all_goals((try apply vM);(try simp only[vq]at*);try omega)
  all_goals(try omega)
  ·exact⟨h,lD.of hq⟩
  ·exact(aif ..).symm
  ·rw[te40s];rfl
  ·rw[ahx,aif,te40s]
   show(A++R++C).length+1≤_;omega
  ·rename_i hd
   have hk1:okX 4 c ls sum s ((0:Int)+(j:Int)) i ((t:Int)+1)=true:=by
    unfold okX;rw[decide_eq_true hd,ai2,←hq,hgg]
   refine⟨t+1,[],⟨by omega,by omega⟩,?_⟩
   rw[hst,if_pos hk1,←ajk,aik,ahx]
   repeat'((conv=>whnf);first|intro _|apply aI|with_reducible exact vM rfl|exact⟨⟩|apply nM|apply fM)
   all_goals((try apply vM);(try simp only[vq]at*);try omega)
   all_goals(rw[te40s];refine congrArg (CL.recs 4) ?_;rw[aik (l₁:=A++R++C)];rfl)
  ·rename_i hd
   have hk1:okX 4 c ls sum s ((0:Int)+(j:Int)) i ((t:Int)+1)=false:=by
    unfold okX;rw[decide_eq_true hd,ai2,←hq,hgg]
   refine⟨t+1,[],⟨by omega,by omega⟩,?_⟩
   rw[hst,hk1,if_neg (by simp),aib]
   repeat'((conv=>whnf);first|intro _|apply aI|with_reducible exact vM rfl|exact⟨⟩|apply nM|apply fM)
   all_goals((try apply vM);(try simp only[vq]at*);try omega)
  ·have hk1:okX 4 c ls sum s ((0:Int)+(j:Int)) i ((t:Int)+1)=false:=by
    unfold okX;rw[decide_eq_false hq,aiD]
   refine⟨t+1,[],⟨by omega,by omega⟩,?_⟩
   rw[hst,hk1,if_neg (by simp),aib]
   repeat'((conv=>whnf);first|intro _|apply aI|with_reducible exact vM rfl|exact⟨⟩|apply nM|apply fM)
   all_goals((try apply vM);(try simp only[vq]at*);try omega)
 ·skip
  rw[show mG 5 ls=ls.length from rfl];refine av (md:=1) (rf:=[]) mixed aj dP Tryz.func71 (by rfl) (by rfl) (by rfl) ?_
  repeat'((conv=>whnf);first|(intro hq;(try simp only[vw]at hq);try first|exact absurd hq (by decide)|exfalso;omega)|apply aI|with_reducible exact vM rfl|exact⟨⟩|apply nM|apply fM)
  all_goals((try apply vM);(try simp only[vq]at*);try omega)
  conv=>whnf
  refine aJ (X:=Nat) (fun j=>j≤ls.length) (fun j=>[(10,.int .i64 ((0:Int)+(j:Int))),(7,.isl (.recs 4 ((gK 5 c ls sum s j).map ddC)) (.own 5))]) (fun j=>[(5,.tok 4 (gK 5 c ls sum s j).length)]) (fun j=>ls.length-j) 0 ⟨aG,mixed,aj,dP,aM⟩ (by rfl) (by omega) ?_ ?_
  ·repeat'((conv=>whnf);first|intro _|apply aI|with_reducible exact vM rfl|exact⟨⟩|apply nM|apply fM)
   all_goals((try apply vM);(try simp only[vq]at*);try omega)
  intro j hj;have hbj:=hbd j (by omega)
  by_cases hlt:j<ls.length
  case neg=>
   have e:j=ls.length:=by omega
   subst e
   repeat'((conv=>whnf);first|(intro hq;(try simp only[vw]at hq);try first|exact absurd hq (by decide)|exfalso;omega)|apply aI|with_reducible exact vM rfl|exact⟨⟩|apply nM|apply fM)
   all_goals((try apply vM);(try simp only[vq]at*);try omega)
   all_goals(try omega)
   all_goals exact qB _ _
  have hbj1:=hbd (j+1) (by omega)
  have hsj:=lV (g:=5) (c:=c) (ls:=ls) (sum:=sum) (s:=s) (m:=j);rw[show frG 5=(0:Int)from rfl]at hsj;obtain⟨A,hA⟩:∃A,gK 5 c ls sum s j=A:=⟨_,rfl⟩;rw[hA]at hbj hsj⊢
  repeat'((conv=>whnf);first|(intro hq;(try simp only[vw]at hq);try first|exact absurd hq (by decide)|exfalso;omega)|apply aI|with_reducible exact vM rfl|exact⟨⟩|apply nM|apply fM)
  all_goals((try apply vM);(try simp only[vq]at*);try omega)
  all_goals(try omega)
  conv=>whnf
  refine aJ (X:=Nat) (fun i=>i≤c.toNat) (fun i=>[(11,.int .i64 (i:Int)),(7,.isl (.recs 4 ((A++eO 5 c ls sum s ((0:Int)+(j:Int)) i).map ddC)) (.own 5))]) (fun i=>[(5,.tok 4 (A++eO 5 c ls sum s ((0:Int)+(j:Int)) i).length)]) (fun i=>c.toNat-i) 0 ⟨aG,mixed,aj,dP,aM⟩ (by rfl) (by omega) ?_ ?_
  ·repeat'((conv=>whnf);first|intro _|apply aI|with_reducible exact vM rfl|exact⟨⟩|apply nM|apply fM)
   all_goals((try apply vM);(try simp only[vq]at*);try omega)
   all_goals(try(rw[show eO 5 c ls sum s ((0:Int)+(j:Int)) 0=[]from rfl,aib]))
  intro i hi;have hbi:=hbl ((0:Int)+(j:Int)) i (by omega)
  by_cases hli:i<c.toNat
  case neg=>
   have e:i=c.toNat:=by omega
   subst e
   repeat'((conv=>whnf);first|(intro hq;(try simp only[vw]at hq);try first|exact absurd hq (by decide)|exfalso;omega)|apply aI|with_reducible exact vM rfl|exact⟨⟩|apply nM|apply fM)
   all_goals((try apply vM);(try simp only[vq]at*);try omega)
   all_goals(try omega)
   refine⟨j+1,[],⟨by omega,by omega⟩,?_⟩
   rw[hsj]
   repeat'((conv=>whnf);first|intro _|apply aI|with_reducible exact vM rfl|exact⟨⟩|apply nM|apply fM)
   all_goals((try apply vM);(try simp only[vq]at*);try omega)
  have hsi:=lW (g:=5) (c:=c) (ls:=ls) (sum:=sum) (s:=s) (k:=(0:Int)+(j:Int)) (i:=i);obtain⟨R,hR⟩:∃R,eO 5 c ls sum s ((0:Int)+(j:Int)) i=R:=⟨_,rfl⟩;rw[hR]at hbi hsi⊢
  repeat'((conv=>whnf);first|(intro hq;(try simp only[vw]at hq);try first|exact absurd hq (by decide)|exfalso;omega)|apply aI|with_reducible exact vM rfl|exact⟨⟩|apply nM|apply fM)
  all_goals((try apply vM);(try simp only[vq]at*);try omega)
  all_goals(try omega)
  conv=>whnf
  refine aJ (X:=Nat) (fun t=>t≤c.toNat) (fun t=>[(12,.int .i64 ((t:Int)+1)),(7,.isl (.recs 4 ((A++R++dS 5 c ls sum s ((0:Int)+(j:Int)) i t).map ddC)) (.own 5))]) (fun t=>[(5,.tok 4 (A++R++dS 5 c ls sum s ((0:Int)+(j:Int)) i t).length)]) (fun t=>c.toNat-t) 0 ⟨aG,mixed,aj,dP,aM⟩ (by rfl) (by omega) ?_ ?_
  ·repeat'((conv=>whnf);first|intro _|apply aI|with_reducible exact vM rfl|exact⟨⟩|apply nM|apply fM)
   all_goals((try apply vM);(try simp only[vq]at*);try omega)
   all_goals(try(rw[show dS 5 c ls sum s ((0:Int)+(j:Int)) i 0=[]from rfl,aib]))
  intro t ht;have hbt:=hbc ((0:Int)+(j:Int)) i t (by omega)
  by_cases hlt:t<c.toNat
  case neg=>
   have e:t=c.toNat:=by omega
   subst e
   repeat'((conv=>whnf);first|(intro hq;(try simp only[vw]at hq);try first|exact absurd hq (by decide)|exfalso;omega)|apply aI|with_reducible exact vM rfl|exact⟨⟩|apply nM|apply fM)
   all_goals((try apply vM);(try simp only[vq]at*);try omega)
   all_goals(try omega)
   refine⟨i+1,[],⟨by omega,by omega⟩,?_⟩
   rw[hsi,←ajk]
   repeat'((conv=>whnf);first|intro _|apply aI|with_reducible exact vM rfl|exact⟨⟩|apply nM|apply fM)
   all_goals((try apply vM);(try simp only[vq]at*);try omega)
  have hst:=om (g:=5) (c:=c) (ls:=ls) (sum:=sum) (s:=s) (k:=(0:Int)+(j:Int)) (i:=i) (t:=t);have hlen:(A++R++dS 5 c ls sum s ((0:Int)+(j:Int)) i t).length≤40000:=by rw[ahx,ahx];omega
  obtain⟨C,hC⟩:∃C,dS 5 c ls sum s ((0:Int)+(j:Int)) i t=C:=⟨_,rfl⟩;rw[hC]at hst hlen⊢;have hgg:(aQ (nmG 5)).toNat=5:=by rw[jO.2.2.2.2];rfl
  repeat'((conv=>whnf);first|(intro hq;(try simp only[vw]at hq);try first|exact absurd hq (by decide)|exfalso;omega)|apply aI|with_reducible exact vM rfl|exact⟨⟩|apply nM|apply fM)
  all_goals((try apply vM);(try simp only[vq]at*);try omega)
  all_goals(try omega)
  ·exact⟨h,lD.of hq⟩
  ·exact(aif ..).symm
  ·rw[te40s];rfl
  ·rw[ahx,aif,te40s]
   show(A++R++C).length+1≤_;omega
  ·rename_i hd
   have hk1:okX 5 c ls sum s ((0:Int)+(j:Int)) i ((t:Int)+1)=true:=by
    unfold okX;rw[decide_eq_true hd,ai2,←hq,hgg]
   refine⟨t+1,[],⟨by omega,by omega⟩,?_⟩
   rw[hst,if_pos hk1,←ajk,aik,ahx]
   repeat'((conv=>whnf);first|intro _|apply aI|with_reducible exact vM rfl|exact⟨⟩|apply nM|apply fM)
   all_goals((try apply vM);(try simp only[vq]at*);try omega)
   all_goals(rw[te40s];refine congrArg (CL.recs 4) ?_;rw[aik (l₁:=A++R++C)];rfl)
  ·rename_i hd
   have hk1:okX 5 c ls sum s ((0:Int)+(j:Int)) i ((t:Int)+1)=false:=by
    unfold okX;rw[decide_eq_true hd,ai2,←hq,hgg]
   refine⟨t+1,[],⟨by omega,by omega⟩,?_⟩
   rw[hst,hk1,if_neg (by simp),aib]
   repeat'((conv=>whnf);first|intro _|apply aI|with_reducible exact vM rfl|exact⟨⟩|apply nM|apply fM)
   all_goals((try apply vM);(try simp only[vq]at*);try omega)
  ·have hk1:okX 5 c ls sum s ((0:Int)+(j:Int)) i ((t:Int)+1)=false:=by
    unfold okX;rw[decide_eq_false hq,aiD]
   refine⟨t+1,[],⟨by omega,by omega⟩,?_⟩
   rw[hst,hk1,if_neg (by simp),aib]
   repeat'((conv=>whnf);first|intro _|apply aI|with_reducible exact vM rfl|exact⟨⟩|apply nM|apply fM)
   all_goals((try apply vM);(try simp only[vq]at*);try omega)
def PY:PSp:=fun xs K=>match xs with
 | [.agg [.int .i64 c,.isl (.rows .i64 ls) .none,.int .i64 sum,.isl (.ints .i64 gv) .none],.agg [.isl (.rows .i64 CS) .none,.isl (.bools DS) .none],.str r]=>
  ∃(g:Nat) (l:List Dd),VC (r=nmG g∧(1≤g∧g≤5)∧bH ls∧bB c ls sum ⟨CS,DS⟩∧jo g ⟨CS,DS⟩ sum ls=l)∧K (.isl (dlC l) .none)
 |_=>False
theorem abk:POK Tryz.prog 71 PY:=by
 intro xs K hk;unfold PY at hk;split at hk
 ·obtain⟨g,l,⟨rfl,hg,hL,h,rfl⟩,hk⟩:=hk
  exact⟨_,hk,Ta _ _ _ _ ⟨_,_⟩ hL h g hg⟩
 ·exact hk.elim
noncomputable def af2:CPT:=aA 71 (aB PY) (aA 77 (aB Cy) noC)
theorem LP:aV Tryz.prog af2:=ak (au abk) (ak (au SS) aC)
theorem Ke (c:Int) (ls:List (List Int)) (sum:Int) (gv:List Int) (s:St) (hL:bH ls) (h:bB c ls sum s) (n:Nat) (hn:n≤5):aF Tryz.prog 28 [pzV c ls sum gv,stV s,.int .i64 (n:Int)] (OL (gH s sum ls n)):=by
 have te40s:Gm.size=4:=by rfl
 refine av (md:=1) (rf:=[]) mixed aj LP Tryz.func28 (by rfl) (by rfl) (by rfl) ?_
 repeat'((conv=>whnf);first|(intro hq;(try simp only[vw]at hq);try first|exact absurd hq (by decide)|exfalso;omega)|apply aI|with_reducible exact vM rfl|exact⟨⟩|apply nM|apply fM)
 all_goals((try apply vM);(try simp only[vq]at*);try omega)
 conv=>whnf
 refine aJ (X:=Nat) (fun i=>i≤n∧gH s sum ls i=none) (fun i=>[(8,.int .i64 ((i:Int)+1))]) (fun i=>[]) (fun i=>n-i) 0 ⟨aG,mixed,aj,LP,aM⟩ (by rfl) ⟨by omega,rfl⟩ ?_ ?_
 ·repeat'((conv=>whnf);first|intro _|apply aI|with_reducible exact vM rfl|exact⟨⟩|apply nM|apply fM)
  all_goals((try apply vM);(try simp only[vq]at*);try omega)
 intro i ⟨hi,hok⟩;by_cases hlt:i<n
 ·obtain⟨i1,hi1⟩:∃i1:Nat,i1=i+1:=⟨_,rfl⟩
  have hgi:((i:Int)+1).toNat=i1:=by omega
  have hup:=fun d (hd:(jo (i+1) s sum ls).head? =some d)=>Li hok hd n (by omega)
  have hno:jo (i+1) s sum ls=[]→gH s sum ls (i+1)=none:=fun hA=>by unfold gH;rw[hok,hA];rfl
  rw[←hi1]at hup hno;obtain⟨dl,hA⟩:∃dl,jo i1 s sum ls=dl:=⟨_,rfl⟩;rw[hA]at hup hno
  repeat'((conv=>whnf);first|refine Exists.intro (i1) ?_|refine Exists.intro (dl) ?_|(intro hq;(try simp only[vw]at hq);try first|exact absurd hq (by decide)|exfalso;omega)|apply aI|with_reducible exact vM rfl|exact⟨⟩|apply nM|apply fM)
  all_goals((try apply vM);(try simp only[vq]at*);try omega)
  all_goals(try first|omega|exact⟨by rw[hgi],⟨by omega,by omega⟩,hL,h,hA⟩)
  ·rfl
  ·cases dl with
   |nil=>exact absurd (show(0:Int)<0 from hq) (by decide)
   |cons d l=>
    rw[hup d rfl];exact Ap _ _
  ·refine⟨[],⟨⟨by omega,hno (ajE (by omega))⟩,by omega⟩,?_⟩
   subst hi1
   repeat'((conv=>whnf);first|intro _|apply aI|with_reducible exact vM rfl|exact⟨⟩|apply nM|apply fM)
   all_goals((try apply vM);(try simp only[vq]at*);try omega)
 ·have:i=n:=by omega
  subst this;rw[hok]
  repeat'((conv=>whnf);first|(intro hq;(try simp only[vw]at hq);try first|exact absurd hq (by decide)|exfalso;omega)|apply aI|with_reducible exact vM rfl|exact⟨⟩|apply nM|apply fM)
  all_goals((try apply vM);(try simp only[vq]at*);try omega)
  exact Ap _ _
noncomputable def af3:CPT:=aA 95 (aB uf) (aA 96 (aB AQ) (aA 97 (aB AU) noC))
theorem rZ:aV Tryz.prog af3:=ak (au rM) (ak (au IL) (ak (au IQ) aC))
def uw (cs:List (List Int)) (x:Int):Bool:=cs.any fun l=>decide (x∈l)
theorem Wn (cs:List (List Int)) (l:List Int) (x:Int):uw (cs++[l]) x=(uw cs x||decide (x∈l)):=by unfold uw;rw[List.any_append];simp
theorem aeP {c:Int} {ls:List (List Int)} {sum:Int} {s:St} {k:Nat} (hk:k<c.toNat) (h:uw s.cs ((k:Int)+1)=false):brk c ls sum s=true:=by
 unfold brk;rw[List.all_eq_false.2 ⟨k,ah5.2 hk,by rw[show(s.cs.any fun l=>decide (((k:Int)+1)∈l))=false from h];simp⟩];rfl
theorem aeQ {c:Int} {ls:List (List Int)} {sum:Int} {s:St} {i:Nat} (hi:i<s.cs.length) (h:s.cs.getD i []=[]):brk c ls sum s=true:=by
 unfold brk;rw[aiR.2 ⟨s.cs.getD i [],iW hi,decide_eq_true h⟩,ajG];rfl
theorem aeR {c:Int} {ls:List (List Int)} {sum:Int} {s:St} {i:Nat} (hi:i<ls.length) (h:lbk sum s (ls.getD i [])=true):brk c ls sum s=true:=by
 unfold brk;rw[show(ls.any fun l=>decide ((opn s l (-1)).length=0)&&decide (rst s sum l≠0))=true from aiR.2 ⟨ls.getD i [],iW hi,h⟩,ajG]
theorem aeS {c:Int} {ls:List (List Int)} {sum:Int} {s:St} (h1:∀k,k<c.toNat→uw s.cs ((k:Int)+1)=true) (h2:∀i,i<s.cs.length→s.cs.getD i []≠[]) (h3:∀i,i<ls.length→lbk sum s (ls.getD i [])=false):brk c ls sum s=false:=by
 unfold brk;have e1:((agr c.toNat).all fun i=>s.cs.any fun l=>decide (((i:Int)+1)∈l))=true:=ahP.2 fun k hk=>h1 k (ah5.1 hk);have e2:(s.cs.any fun l=>decide (l=[]))=false:=aiS.2 fun l hl=>by
  obtain⟨j,hj,rfl⟩:=agx hl;have:=h2 j hj;rw[agt,agy hj]at this;rw[decide_eq_false (show s.cs[j]≠[]from this)];simp
 have e3:(ls.any fun l=>decide ((opn s l (-1)).length=0)&&decide (rst s sum l≠0))=false:=aiS.2 fun l hl=>by
  obtain⟨j,hj,rfl⟩:=agx hl;have:=h3 j hj;rw[agt,agy hj]at this;unfold lbk at this;rw[show(decide ((opn s ls[j] (-1)).length=0)&&decide (rst s sum ls[j]≠0))=false from this];simp
 rw[e1,e2,e3];rfl
theorem Tc (c:Int) (ls:List (List Int)) (sum:Int) (gv:List Int) (s:St) (h:bB c ls sum s):aF Tryz.prog 26 [pzV c ls sum gv,stV s] (.bp (brk c ls sum s)):=by
 have hc:=h.c1;have hcl:=h.cl;have hdl:=h.dl;have hll:=h.ll;have k16:∀i,i<s.cs.length→(s.cs.getD i []).length≤16:=fun i hi=>lM (h.asc i hi).1;refine av (md:=1) (rf:=[]) mixed aj rZ Tryz.func26 (by rfl) (by rfl) (by rfl) ?_
 repeat'((conv=>whnf);first|(intro hq;(try simp only[vw]at hq);try first|exact absurd hq (by decide)|exfalso;omega)|apply aI|with_reducible exact vM rfl|exact⟨⟩|apply nM|apply fM)
 all_goals((try apply vM);(try simp only[vq]at*);try omega)
 conv=>whnf
 refine aJ (X:=Nat) (fun k=>k≤c.toNat∧∀j,j<k→uw s.cs ((j:Int)+1)=true) (fun k=>[(5,.int .i64 ((k:Int)+1))]) (fun k=>[]) (fun k=>c.toNat-k) 0 ⟨aG,mixed,aj,rZ,aM⟩ (by rfl) ⟨by omega,fun j hj=>by omega⟩ ?_ ?_
 ·repeat'((conv=>whnf);first|intro _|apply aI|with_reducible exact vM rfl|exact⟨⟩|apply nM|apply fM)
  all_goals((try apply vM);(try simp only[vq]at*);try omega)
 intro k ⟨hk,hok⟩;by_cases hlt:k<c.toNat
 ·repeat'((conv=>whnf);first|(intro hq;(try simp only[vw]at hq);try first|exact absurd hq (by decide)|exfalso;omega)|apply aI|with_reducible exact vM rfl|exact⟨⟩|apply nM|apply fM)
  all_goals((try apply vM);(try simp only[vq]at*);try omega)
  all_goals(try omega)
  conv=>whnf
  refine aJ (X:=Nat) (fun i=>i≤s.cs.length) (fun i=>[(7,.int .i64 i),(6,.bp (uw (s.cs.take i) ((k:Int)+1)))]) (fun i=>[]) (fun i=>s.cs.length-i) 0 ⟨aG,mixed,aj,rZ,aM⟩ (by rfl) (by omega) ?_ ?_
  ·repeat'((conv=>whnf);first|intro _|apply aI|with_reducible exact vM rfl|exact⟨⟩|apply nM|apply fM)
   all_goals((try apply vM);(try simp only[vq]at*);try omega)
   all_goals skip
  intro i hi;by_cases hli:i<s.cs.length
  ·have hx:uw (s.cs.take (i+1)) ((k:Int)+1)=(uw (s.cs.take i) ((k:Int)+1)||decide ((k:Int)+1∈s.cs.getD i [])):=by
    rw[←Wn];congr 1;rw[List.take_add_one,agt,agy hli];rfl
   have k17:=k16 i hli
   repeat'((conv=>whnf);first|(intro hq;(try simp only[vw]at hq);try first|exact absurd hq (by decide)|exfalso;omega)|apply aI|with_reducible exact vM rfl|exact⟨⟩|apply nM|apply fM)
   all_goals((try apply vM);(try simp only[vq]at*);try omega)
   all_goals(try omega)
   ·refine⟨i+1,[],⟨by omega,by omega⟩,?_⟩
    rw[hx,hq,Bool.false_or]
    repeat'((conv=>whnf);first|intro _|apply aI|with_reducible exact vM rfl|exact⟨⟩|apply nM|apply fM)
    all_goals((try apply vM);(try simp only[vq]at*);try omega)
   ·refine⟨i+1,[],⟨by omega,by omega⟩,?_⟩
    rw[hx,hq,Bool.true_or]
    repeat'((conv=>whnf);first|intro _|apply aI|with_reducible exact vM rfl|exact⟨⟩|apply nM|apply fM)
    all_goals((try apply vM);(try simp only[vq]at*);try omega)
  have e:i=s.cs.length:=by omega
  subst e;rw[ail]
  repeat'((conv=>whnf);first|(intro hq;(try simp only[vw]at hq);try first|exact absurd hq (by decide)|exfalso;omega)|apply aI|with_reducible exact vM rfl|exact⟨⟩|apply nM|apply fM)
  all_goals((try apply vM);(try simp only[vq]at*);try omega)
  all_goals(try omega)
  ·rw[aeP hlt hq];exact cu true
  ·refine⟨k+1,[],⟨⟨by omega,fun j hj=>?_⟩,by omega⟩,?_⟩
   ·by_cases e:j=k
    ·subst e;exact hq
    ·exact hok j (by omega)
   repeat'((conv=>whnf);first|intro _|apply aI|with_reducible exact vM rfl|exact⟨⟩|apply nM|apply fM)
   all_goals((try apply vM);(try simp only[vq]at*);try omega)
 have e:k=c.toNat:=by omega
 subst e
 repeat'((conv=>whnf);first|(intro hq;(try simp only[vw]at hq);try first|exact absurd hq (by decide)|exfalso;omega)|apply aI|with_reducible exact vM rfl|exact⟨⟩|apply nM|apply fM)
 all_goals((try apply vM);(try simp only[vq]at*);try omega)
 all_goals(try omega)
 conv=>whnf
 refine aJ (X:=Nat) (fun i=>i≤s.cs.length∧∀j,j<i→s.cs.getD j []≠[]) (fun i=>[(8,.int .i64 i)]) (fun i=>[]) (fun i=>s.cs.length-i) 0 ⟨aG,mixed,aj,rZ,aM⟩ (by rfl) ⟨by omega,fun j hj=>by omega⟩ ?_ ?_
 ·repeat'((conv=>whnf);first|intro _|apply aI|with_reducible exact vM rfl|exact⟨⟩|apply nM|apply fM)
  all_goals((try apply vM);(try simp only[vq]at*);try omega)
 intro i ⟨hi,hok2⟩;by_cases hli:i<s.cs.length
 ·have k17:=k16 i hli
  repeat'((conv=>whnf);first|(intro hq;(try simp only[vw]at hq);try first|exact absurd hq (by decide)|exfalso;omega)|apply aI|with_reducible exact vM rfl|exact⟨⟩|apply nM|apply fM)
  all_goals((try apply vM);(try simp only[vq]at*);try omega)
  all_goals(try omega)
  ·rw[aeQ hli (ajE (by omega))];exact cu true
  ·refine⟨i+1,[],⟨⟨by omega,fun j hj=>?_⟩,by omega⟩,?_⟩
   ·by_cases e:j=i
    ·subst e;exact fun e=>hq (by rw[e];rfl)
    ·exact hok2 j (by omega)
   repeat'((conv=>whnf);first|intro _|apply aI|with_reducible exact vM rfl|exact⟨⟩|apply nM|apply fM)
   all_goals((try apply vM);(try simp only[vq]at*);try omega)
 have e:i=s.cs.length:=by omega
 subst e
 repeat'((conv=>whnf);first|(intro hq;(try simp only[vw]at hq);try first|exact absurd hq (by decide)|exfalso;omega)|apply aI|with_reducible exact vM rfl|exact⟨⟩|apply nM|apply fM)
 all_goals((try apply vM);(try simp only[vq]at*);try omega)
 all_goals(try omega)
 conv=>whnf
 refine aJ (X:=Nat) (fun i=>i≤ls.length∧∀j,j<i→lbk sum s (ls.getD j [])=false) (fun i=>[(9,.int .i64 i)]) (fun i=>[]) (fun i=>ls.length-i) 0 ⟨aG,mixed,aj,rZ,aM⟩ (by rfl) ⟨by omega,fun j hj=>by omega⟩ ?_ ?_
 ·repeat'((conv=>whnf);first|intro _|apply aI|with_reducible exact vM rfl|exact⟨⟩|apply nM|apply fM)
  all_goals((try apply vM);(try simp only[vq]at*);try omega)
 intro i ⟨hi,hok3⟩;by_cases hli:i<ls.length
 ·have hnx:lbk sum s (ls.getD i [])=false→∀j,j<i+1→lbk sum s (ls.getD j [])=false:=fun hq j hj=>by
   by_cases e:j=i
   ·subst e;exact hq
   ·exact hok3 j (by omega)
  repeat'((conv=>whnf);first|(intro hq;(try simp only[vw]at hq);try first|exact absurd hq (by decide)|exfalso;omega)|apply aI|with_reducible exact vM rfl|exact⟨⟩|apply nM|apply fM)
  all_goals((try apply vM);(try simp only[vq]at*);try omega)
  all_goals(try first|omega|exact⟨h,by omega,by omega⟩)
  ·rename_i h1
   rw[aeR hli (by
    unfold lbk;rw[decide_eq_true (show(opn s (ls.getD i []) (-1)).length=0 from by have h1:((opn s (ls.getD i []) (-1)).length:Int)=0:=h1;omega),ai2]
    exact decide_eq_true hq)]
   exact cu true
  ·refine⟨i+1,[],⟨⟨by omega,hnx ?_⟩,by omega⟩,?_⟩
   ·unfold lbk
    rw[show decide (rst s sum (ls.getD i [])≠0)=false from decide_eq_false hq,Bool.and_false]
   repeat'((conv=>whnf);first|intro _|apply aI|with_reducible exact vM rfl|exact⟨⟩|apply nM|apply fM)
   all_goals((try apply vM);(try simp only[vq]at*);try omega)
  ·refine⟨i+1,[],⟨⟨by omega,hnx ?_⟩,by omega⟩,?_⟩
   ·unfold lbk
    rw[decide_eq_false (show¬(opn s (ls.getD i []) (-1)).length=0 from fun e=>hq (by have e:(opn ⟨s.cs,s.ds⟩ (ls.getD i []) (-1)).length=0:=e;omega)),aiD]
   repeat'((conv=>whnf);first|intro _|apply aI|with_reducible exact vM rfl|exact⟨⟩|apply nM|apply fM)
   all_goals((try apply vM);(try simp only[vq]at*);try omega)
 have e:i=ls.length:=by omega
 subst e;rw[aeS hok hok2 hok3]
 repeat'((conv=>whnf);first|(intro hq;(try simp only[vw]at hq);try first|exact absurd hq (by decide)|exfalso;omega)|apply aI|with_reducible exact vM rfl|exact⟨⟩|apply nM|apply fM)
 all_goals((try apply vM);(try simp only[vq]at*);try omega)
 all_goals first|omega|exact cu false
def PZ:PSp:=fun xs K=>match xs with
 | [.agg [.int .i64 c,.isl (.rows .i64 ls) .none,.int .i64 sum,.isl (.ints .i64 gv) .none],.agg [.isl (.rows .i64 CS) .none,.isl (.bools DS) .none]]=>VC (bB c ls sum ⟨CS,DS⟩)∧K (.bp (brk c ls sum ⟨CS,DS⟩))
 |_=>False
theorem abl:POK Tryz.prog 26 PZ:=by
 intro xs K hk;unfold PZ at hk;split at hk
 ·exact⟨_,hk.2,Tc _ _ _ _ ⟨_,_⟩ hk.1.get⟩
 ·exact hk.elim
def IZ:PSp:=fun xs K=>match xs with
 | [.agg [.int .i64 c,.isl (.rows .i64 ls) .none,.int .i64 sum,.isl (.ints .i64 gv) .none]]=>VC (cZ c ls sum gv)∧K (stV (bgn c gv))
 |_=>False
theorem Wo:POK Tryz.prog 25 IZ:=by
 intro xs K hk;unfold IZ at hk;split at hk
 ·exact⟨_,hk.2,Kc _ _ _ _ hk.1.get⟩
 ·exact hk.elim
def CF:PSp:=fun xs K=>match xs with
 | [.agg [.isl (.rows .i64 CS) .none,.isl (.bools DS) .none]]=>VC (DS.length≤1000000)∧K (.bp (don ⟨CS,DS⟩))
 |_=>False
theorem Td:POK Tryz.prog 27 CF:=by
 intro xs K h;unfold CF at h;split at h
 ·exact⟨_,h.2,PU ⟨_,_⟩ h.1.get⟩
 ·exact h.elim
def I4 (n:Nat):PSp:=fun xs K=>match xs with
 | [.agg [.int .i64 c,.isl (.rows .i64 ls) .none,.int .i64 sum,.isl (.ints .i64 gv) .none],.agg [.isl (.rows .i64 CS) .none,.isl (.bools DS) .none],.int .i64 m]=>∃o:Option Dd,VC (m=(n:Int)∧n≤5∧bH ls∧bB c ls sum ⟨CS,DS⟩∧gH ⟨CS,DS⟩ sum ls n=o)∧K (OL o)
 |_=>False
theorem Wp (n:Nat):POK Tryz.prog 28 (I4 n):=by
 intro xs K hk;unfold I4 at hk;split at hk
 ·obtain⟨o,⟨rfl,hn,h1,h2,rfl⟩,hk⟩:=hk;exact⟨_,hk,Ke _ _ _ _ ⟨_,_⟩ h1 h2 n hn⟩
 ·exact hk.elim
def P5 (c:Int) (ls:List (List Int)) (sum:Int):PSp:=fun xs K=>match xs with
 | [.agg [.isl (.rows .i64 CS) .none,.isl (.bools DS) .none],.agg [.str r,.int .i64 y,.int .i64 x,.int .i64 k]]=>∃g:Nat,VC (bB c ls sum ⟨CS,DS⟩∧lD c ls r y x k∧(aQ r).toNat=g)∧K (stV (apl g ⟨CS,DS⟩ y x))
 |_=>False
theorem abm (c:Int) (ls:List (List Int)) (sum:Int):POK Tryz.prog 76 (P5 c ls sum):=by
 intro xs K hk;unfold P5 at hk;split at hk
 ·obtain⟨g,⟨h1,h2,rfl⟩,hk⟩:=hk;exact⟨_,hk,SY _ _ _ ⟨_,_⟩ h1 _ _ _ _ h2⟩
 ·exact hk.elim
noncomputable def af4 (c:Int) (ls:List (List Int)) (sum:Int) (n:Nat):CPT:=aA 25 (aB IZ) (aA 26 (aB PZ) (aA 27 (aB CF) (aA 28 (aB (I4 n)) (aA 76 (aB (P5 c ls sum)) noC))))
theorem abn (c:Int) (ls:List (List Int)) (sum:Int) (n:Nat):aV Tryz.prog (af4 c ls sum n):=ak (au Wo) (ak (au abl) (ak (au Td) (ak (au (Wp n)) (ak (au (abm c ls sum)) aC))))
def mI (r:List Dd × St × Int):List Dd × St × Int:=if r.2.2=21 then([],noS,21)else r
theorem Kg (c:Int) (ls:List (List Int)) (sum:Int) (gv:List Int) (hL:bH ls) (h:cZ c ls sum gv) (n:Nat) (hn:n≤5):aF Tryz.prog 33 [pzV c ls sum gv,.int .i64 (n:Int)] (wz (mI (sol c ls sum gv n))):=by
 have hgl:=h.gl;have te40s:Gm.size=4:=by rfl
 have hC:=abn c ls sum n;have hc:=h.c1;refine av (md:=1) (rf:=[]) mixed aj hC Tryz.func33 (by rfl) (by rfl) (by rfl) ?_
 repeat'((conv=>whnf);first|(intro hq;(try simp only[vw]at hq);try first|exact absurd hq (by decide)|exfalso;omega)|apply aI|with_reducible exact vM rfl|exact⟨⟩|apply nM|apply fM)
 all_goals((try apply vM);(try simp only[vq]at*);try omega)
 all_goals(try exact h)
 conv=>whnf
 refine aJ (X:=SoX) (fun x=>bB c ls sum x.s∧StI x.s∧muS x.s<x.f∧x.s.cs.length=gv.length∧x.l.length≤273-x.f∧x.f≤273∧mh c ls sum n x.f x.s x.l=sol c ls sum gv n)
  (fun x=>[(8,.isl (.recs 4 (x.l.map ddC)) (.own 20))]) (fun x=>[(6,.cells (.pv [.isl (.rows .i64 x.s.cs) .none,.isl (.bools x.s.ds) .none]) false),(20,.tok 4 x.l.length)]) (fun x=>x.f) ⟨273,bgn c gv,[]⟩ ⟨aG,mixed,aj,hC,aM⟩ (by rfl) ?_ ?_ ?_
 ·have:=rR h
  exact⟨this,BR h,by have:=RX this;show muS (bgn c gv)<273;omega,jG.1,by simp,by simp,rfl⟩
 ·repeat'((conv=>whnf);first|intro _|apply aI|with_reducible exact vM rfl|exact⟨⟩|apply nM|apply fM)
  all_goals((try apply vM);(try simp only[vq]at*);try omega)
  all_goals skip
 rintro⟨f,s,l⟩ ⟨hB,hI,hmu,hlen,hl,hf,hsol⟩
 simp only at hB hI hmu hlen hl hf hsol⊢;cases f with
 |zero=>omega
 |succ f=>
  have hdl:s.ds.length=gv.length:=by have:=hB.cl;have:=hB.dl;omega
  have hds:s.ds.length≤1000000:=by omega
  have hfin:∀r,sol c ls sum gv n=r→∀p,Sup p (wz (mI r))→Sup p (wz (mI (sol c ls sum gv n))):=fun r hr p hp=>by rw[hr];exact hp
  have rin:Sup (bG [PV.nils,PV.agg [PV.nils,PV.nils],PV.int IntKind.i64 21]) (wz (mI ([],s,21))):=by
   unfold mI;rw[if_pos rfl];exact Hz 21
  have rok:∀e,e≠21→Sup (bG [PV.isl (CL.recs 4 (List.map ddC l)) Tok.none,PV.agg [PV.isl (CL.rows IntKind.i64 s.cs) Tok.none,PV.isl (CL.bools s.ds) Tok.none],PV.int IntKind.i64 e]) (wz (mI (l,s,e))):=fun e he=>by
   unfold mI;rw[if_neg he];refine xA rfl fun i hi=>?_;obtain rfl|rfl|rfl:i=0∨i=1∨i=2:=by simp at hi;omega
   ·exact qB l .none
   ·exact bO _
   ·exact bO _
  unfold mh at hsol;cases ho:gH s sum ls n with
  |none=>
   rw[ho]at hsol
   repeat'((conv=>whnf);first|refine Exists.intro (none) ?_|(intro hq;(try simp only[vw]at hq);try first|exact absurd hq (by decide)|exfalso;omega)|apply aI|with_reducible exact vM rfl|exact⟨⟩|apply nM|apply fM)
   all_goals((try apply vM);(try simp only[vq]at*);try omega)
   all_goals(try first|omega|exact hB|exact hds|exact⟨rfl,hn,hL,hB,ho⟩|exact⟨hn,hL,hB,ho⟩)
   ·exact hfin ([],s,21) (by rw[←hsol,if_pos ‹brk c ls sum s=true›]) _ rin
   ·exact hfin (l,s,0) (by rw[←hsol,if_neg (by rw[‹brk c ls sum s=false›];simp),if_pos ‹don s=true›]) _ (rok 0 (by omega))
   ·exact hfin (l,s,23) (by rw[←hsol,if_neg (by rw[‹brk c ls sum s=false›];simp),if_neg (by rw[‹don s=false›];simp)]) _ (rok 23 (by omega))
  |some d=>
   rw[ho]at hsol;obtain⟨o1,o2,o3,o4⟩:=Hw hB hn ho;obtain⟨b1,b2⟩:=vZ hB hI (g:=d.g) o1.y o1.x o3 o4;have hyl:=hB.at o1.y;have b3:=RV (g:=d.g) hyl.1 hyl.2 o3 o4;have b4:=xw (g:=d.g) (s:=s) (y:=d.y) (x:=d.x);have hgn:(aQ (nmG d.g)).toNat=d.g:=by rw[o2];rfl
   obtain⟨dg,hdg⟩:∃dg,d.g=dg:=⟨_,rfl⟩;have hgn:=hgn.trans hdg
   repeat'((conv=>whnf);first|refine Exists.intro (some d) ?_|refine Exists.intro (dg) ?_|(intro hq;(try simp only[vw]at hq);try first|exact absurd hq (by decide)|exfalso;omega)|apply aI|with_reducible exact vM rfl|exact⟨⟩|apply nM|apply fM)
   all_goals((try apply vM);(try simp only[vq]at*);try omega)
   all_goals(try first|omega|exact hB|exact hds|exact⟨rfl,hn,hL,hB,ho⟩|exact⟨hn,hL,hB,ho⟩|rfl|(rw[aif];done)|(rw[te40s];rfl))
   ·exact hfin ([],s,21) (by rw[←hsol,if_pos ‹brk c ls sum s=true›]) _ rin
   ·exact hfin (l,s,0) (by rw[←hsol,if_neg (by rw[‹brk c ls sum s=false›];simp),if_pos ‹don s=true›]) _ (rok 0 (by omega))
   ·rw[ahx,aif,te40s];show _+1≤_;omega
   ·exact⟨hB,o1,hgn⟩
   ·refine⟨⟨f,apl d.g s d.y d.x,l++[d]⟩,[],⟨⟨b1,b2,by simp only;omega,by simp only;omega,by simp only[ahx,List.length_cons,List.length_nil];omega,by simp only;omega,?_⟩,by simp only;omega⟩,?_⟩
    ·rw[←hsol,if_neg (by rw[‹brk c ls sum s=false›];simp),if_neg (by rw[‹don s=false›];simp)]
    ·simp only
     rw[hdg]
     repeat'((conv=>whnf);first|intro _|apply aI|with_reducible exact vM rfl|exact⟨⟩|apply nM|apply fM)
     all_goals((try apply vM);(try simp only[vq]at*);try omega)
     all_goals(try first|(rw[←hdg,te40s,aik];rfl)|(rw[ahx];rfl)|rfl)
theorem LQ (r:List Dd × St × Int):(mI r).2.2=r.2.2:=by
 unfold mI;split
 ·rename_i h;exact h.symm
 ·rfl
end Go.Eng.YtcechbdgokjmgaaGreatDoor
namespace Go.Eng
open Go.RowKit
set_option linter.unusedSimpArgs false
set_option linter.unusedVariables false
def I5 (c d:CL):Bool:=
 match c with
 |.rows _ _=>(match d with|.ints _ _=>true|_=>false)
 |.bools _=>(match d with|.ints _ _=>true|_=>false)
 |_=>false
theorem LU {c d:CL} (h:∀off,zZ (c.get 0) (d.get off)=true):pX c d=true:=by
 unfold pX;cases hn:c.ncell with
 |zero=>rfl
 |succ m=>exact ahP.2 fun off _=>aiR.2 ⟨0,ah5.2 (Nat.succ_pos m),h _⟩
theorem Kh {c d:CL} (h:I5 c d=true):pX c d=true:=by
 unfold I5 at h;split at h
 ·split at h
  ·exact LU fun _=>rfl
  ·cases h
 ·split at h
  ·exact LU fun _=>rfl
  ·cases h
 ·cases h
def okB (H:Hp):List Nat→CL→Bool
 | [],_=>true
 |k::r,c=>match ay H k with
  |some (.cells d _)=>(match I5 c d with|true=>okB H r c|false=>false)
  |_=>okB H r c
theorem LV {H:Hp} {c:CL}:∀{a:List Nat},okB H a c=true→okA H a c=true:=by
 intro a;induction a with
 |nil=>intro _;rfl
 |cons x a ih=>
  intro h;unfold okB at h;unfold okA;split at h
  ·rename_i d fz hd
   rw[hd];simp only;split at h
   ·rename_i hk
    rw[Kh hk];exact ih h
   ·cases h
  ·rename_i hd
   split
   ·rename_i d fz hd'
    exact absurd hd' (hd d fz)
   ·exact ih h
def kq1 (H:Hp) (a:List Nat) (p:PV):PV:=
 match p with
 |.isl c t=>match t with
  |.none=>match c with
   |.bools l=>match okB H a (.bools l)with|true=>.isl (.bools l) .none|false=>.any
   |.rows k xs=>match okB H a (.rows k xs)with|true=>.isl (.gen xs.length fun _=>.any) .none|false=>.any
   |_=>.any
  |_=>.any
 |p=>wkE p
theorem DF {S S':Imm} {w w':World} {ι ι':Ix} {H H':Hp} {a:List Nat} (L:Lk S w ι H H' a S' w') {p:PV} {v:Value} (hr:Rep S' w' noI p v):Rep (newS S S' w) w' ι' (kq1 H a p) v:=by
 cases p with
 |isl c t=>
  unfold kq1;simp only;cases t with
  |none=>
   cases c with
   |bools l=>
    simp only;split
    ·exact ny L (LV (by assumption)) rfl rfl (fun j hj v hv=>tN rfl hv) hr
    ·exact .any _ _
   |rows k xs=>
    simp only;split
    ·exact ny L (c:=.rows k xs) (LV (by assumption)) (d:=.gen xs.length fun _=>.any) rfl rfl (fun j hj v hv=>.any _ _) hr
    ·exact .any _ _
   |_=>exact .any _ _
  |_=>exact .any _ _
 |_=>exact qM hr
def I6 (H:Hp) (a:List Nat):List PV→List PV
 | []=>[]
 |x::r=>kq1 H a x::I6 H a r
theorem y9 {H:Hp} {a:List Nat} (l:List PV):(I6 H a l).length=l.length∧∀i,i<l.length→aD (I6 H a l) i=kq1 H a (aD l i):=by
 induction l with
 |nil=>exact⟨rfl,fun i hi=>by simp at hi⟩
 |cons x xs ih=>exact⟨by simp[I6,ih.1],fun i hi=>by cases i with|zero=>rfl|succ i=>exact ih.2 i (by simpa using hi)⟩
def kqA (H:Hp) (a:List Nat) (p:PV):PV:=
 match p with
 |.agg cs=>.agg (I6 H a cs)
 |p=>kq1 H a p
theorem DI {S S':Imm} {w w':World} {ι ι':Ix} {H H':Hp} {a:List Nat} (L:Lk S w ι H H' a S' w') {p:PV} {v:Value} (hr:Rep S' w' noI p v):Rep (newS S S' w) w' ι' (kqA H a p) v:=by
 cases p with
 |agg cs=>
  cases hr with
  |agg _ _ vs hl hh=>
   refine .agg _ _ _ ((y9 cs).1.trans hl) fun i hi=>?_;rw[(y9 cs).1]at hi;rw[(y9 cs).2 i hi];exact DF L (hh i hi)
 |_=>exact DF L hr
def I7 (H:Hp) (a:List Nat):List PV→List PV
 | []=>[]
 |x::r=>kqA H a x::I7 H a r
theorem za {H:Hp} {a:List Nat} (l:List PV):(I7 H a l).length=l.length∧∀i,i<l.length→aD (I7 H a l) i=kqA H a (aD l i):=by
 induction l with
 |nil=>exact⟨rfl,fun i hi=>by simp at hi⟩
 |cons x xs ih=>exact⟨by simp[I7,ih.1],fun i hi=>by cases i with|zero=>rfl|succ i=>exact ih.2 i (by simpa using hi)⟩
def kqK (H:Hp) (a:List Nat) (v:PV) (K:PV→Prop):Prop:=
 match v with
 |.tup vs=>bN (I7 H a vs) fun us=>K (.tup us)
 |p=>bJ (kqA H a p) K
theorem Te {H:Hp} {a:List Nat} {v:PV} {K:PV→Prop} (h:kqK H a v K):∃u,K u∧∀{S S':Imm} {w w':World} {ι ι':Ix} {H':Hp} {val:Value},Lk S w ι H H' a S' w'→Rep S' w' noI v val→Rep (newS S S' w) w' ι' u val:=by
 cases v with
 |tup vs=>
  unfold kqK at h;simp only at h;rw[bq]at h;refine⟨_,h,fun L hr=>?_⟩;cases hr with
  |tup _ _ us hl hh=>
   refine .tup _ _ _ ((za vs).1.trans hl) fun i hi=>?_;rw[(za vs).1]at hi;rw[(za vs).2 i hi];exact DI L (hh i hi)
 |_=>
  unfold kqK at h;simp only at h;rw[bF]at h;exact⟨_,h,fun L hr=>DI L hr⟩
def I8 (C:PSp):CT:=fun args n H K=>zY H args fun xs a=>bN (dB xs) fun xs=>C xs fun v=>kqK H a v fun u=>K u [] a []
theorem Tf {P:Program} {g:FuncId} {C:PSp} (h:POK P g C):COK P g (I8 C):=by
 intro args n H K hk;unfold I8 at hk;obtain⟨xs,a,hk,hl,hs⟩:=vL hk;rw[bq]at hk;obtain⟨v,hk,hent,hv⟩:=h _ _ hk;obtain⟨u,hk,hp⟩:=Te hk;refine⟨u,[],a,[],hk,hent,fun S w ι H' vs hgb M hr ha _=>?_⟩;have hN:∀k∈a,∀c fz b,ay H' k=some (.cells c fz)→ι.o k=some b→∀j,j<c.ncell→qX S ι H' a b j:=fun k hk c fz b h1 h2 j h3=>.inr ⟨k,c,fz,hk,h1,h2,h3⟩;have hA:bC (qX S ι H' a) w noI (dB xs) vs:=⟨(aX xs).1.trans (hl.trans hr.1),fun i hi=>(aX xs).2 i (hs oN hN M ha i (by rw[(aX xs).1]at hi;omega) _ (hr.2 i (by rw[(aX xs).1]at hi;omega)))⟩
 refine(hv (qX S ι H' a) w vs (lH oN (.refl _) hgb) (Gi M) hA).mono ?_
 rintro e w' ⟨val,S',rfl,o⟩
 have hno:∀k ob b,ay H' k=some ob→ob.has ι k b→b<w.heap.size:=fun k ob b ho hb=>(M.obj k ob ho).lt hb;have L:Lk S w ι H H' a S' w':=⟨ha,M,fun b j hb hs=>o.immN b j hb hs,fun b j hn=>(o.keeps.imm b j hn).2⟩;have hk0:Keeps S w (newS S S' w) w':=⟨fun b j hs=>⟨.inl hs,(o.keeps.imm b j (.inl hs)).2⟩,o.keeps.cells⟩;refine⟨val,newS S S' w,ι,rfl,⟨fun k ob ho=>(M.obj k ob ho).mono hk0 (.refl _) o.below (fun b hb=>o.same b (hno k ob b ho hb)) (fun _=>rfl) rfl (fun b j hb hs=>?_),M.liveO,M.liveT,M.dist,fun b j hs=>?_⟩,
  .refl _,hk0,hp L o.rep,fun p=>⟨o.below,fun b hb _=>o.same b hb,hk0,fun b j hb hs=>?_,fun b h=>.inl h,fun _ _ _ h=>h,fun _ _ b n h=>⟨b,n,h,.inl ⟨rfl,agh _⟩⟩⟩⟩
 ·rcases hs with hs|⟨_,hs⟩
  ·exact hs
  ·have:=hno k ob b ho hb;omega
 ·rcases hs with hs|⟨hs,_⟩
  ·rw[(hk0.imm b j hs).2];exact M.imm b j hs
  ·exact o.imm b j hs
 ·rcases hs with hs|⟨_,hs⟩
  ·exact .inl hs
  ·omega
end Go.Eng
namespace Go.Eng.YtcechbdgokjmgaaGreatDoor
open Go.Proofs
set_option linter.unusedSimpArgs false
set_option linter.unusedVariables false
set_option maxHeartbeats 0
set_option maxRecDepth 100000
def I9 (n:Nat):PSp:=fun xs K=>match xs with
 | [.agg [.int .i64 c,.isl (.rows .i64 ls) .none,.int .i64 sum,.isl (.ints .i64 gv) .none],.int .i64 m]=>∃r:List Dd × St × Int,VC (m=(n:Int)∧n≤5∧bH ls∧cZ c ls sum gv∧mI (sol c ls sum gv n)=r)∧K (wz r)
 |_=>False
theorem Wq (n:Nat):POK Tryz.prog 33 (I9 n):=by
 intro xs K hk;unfold I9 at hk;split at hk
 ·obtain⟨r,⟨rfl,hn,h1,h2,rfl⟩,hk⟩:=hk;exact⟨_,hk,Kg _ _ _ _ h1 h2 n hn⟩
 ·exact hk.elim
noncomputable def af5 (n:Nat):CPT:=aA 33 (I8 (I9 n)) (aA 119 (aB xC) noC)
theorem LW (n:Nat):aV Tryz.prog (af5 n):=ak (Tf (Wq n)) (ak (au Dy) aC)
theorem LX {c:Int} {ls:List (List Int)} {sm:Int} {nv:List Int} {g:Nat}:∀(l:List Int) (v:List Int),gJ v nv→gJ (l.foldl (mkS c ls sm nv g) v) nv:=by
 intro l;induction l with
 |nil=>exact fun v h=>h
 |cons y l ih=>
  intro v h;refine ih _ ?_;unfold mkS;split
  ·exact(h.set0 _).set1 _
  ·exact h.set0 _
theorem P6 (c:Int) (ls:List (List Int)) (nv ov:List Int) (n:Nat) (hL:bH ls) (hb:fu c ls=0) (hlc:(nv.length:Int)=c) (hnr:iC nv=true) (h5:(ov.length:Int)=c) (h6:j5 5 ov=0) (hg:n≤5):
 aF Tryz.prog 57 [.agg [.int .i64 c,.isl (.rows .i64 ls) .none],.isl (.ints .i64 nv) .none,.isl (.ints .i64 ov) .none,.int .i64 (n:Int)] (pzV c ls (dU nv (ls.getD 0 [])) (ov.foldl (mkS c ls (dU nv (ls.getD 0 [])) nv n) nv)):=by
 have hp:=Ay hb;have hll:=hp.ll;have hc:=hp.c1;have hN:∀x∈nv,0≤x∧x≤16:=fun x hx=>by have:=lS hnr x hx;omega
 have hl0:=hp.ln 0 (by omega)
 have hs0:(ls.getD 0 []).length≤1000∧(∀x∈ls.getD 0 [],0≤x∧x<nv.length)∧∀x∈nv,0≤x∧x≤16:=⟨by have:=hl0.len;omega,fun x hx=>by have:=hl0.rng x hx;omega,hN⟩
 have hsmb:=nC hN (ls.getD 0 []);have hln:=hl0.len;obtain⟨sm,hsm⟩:∃sm,dU nv (ls.getD 0 [])=sm:=⟨_,rfl⟩;rw[hsm]at hsmb;rw[hsm];have hC:=LW n;refine bR (md:=1) (rf:=[23]) mixed aj hC Tryz.func57 (by rfl) (by rfl) (by rfl) ?_
 repeat'((conv=>whnf);first|(intro hq;(try simp only[vw]at hq);try first|exact absurd hq (by decide)|exfalso;omega)|apply aI|with_reducible exact vM rfl|exact⟨⟩|apply nM|apply fM)
 all_goals((try apply vM);(try simp only[vq]at*);try omega)
 all_goals(try simp only[Int.toNat_zero]at*)
 all_goals(try first|exact hs0|omega)
 rw[hsm];conv=>whnf
 refine aJ (X:=Nat) (fun k=>k≤ov.length) (fun k=>[(10,.int .i64 k)]) (fun k=>[(7,.cells (.ints .i64 ((ov.take k).foldl (mkS c ls sm nv n) nv)) false)]) (fun k=>ov.length-k) 0 ⟨aG,mixed,aj,hC,aM⟩ (by rfl) (by omega) ?_ ?_
 ·repeat'((conv=>whnf);first|intro _|apply aI|with_reducible exact vM rfl|exact⟨⟩|apply nM|apply fM)
  all_goals((try apply vM);(try simp only[vq]at*);try omega)
 intro k hk;obtain⟨gk,hgk⟩:∃gk,(ov.take k).foldl (mkS c ls sm nv n) nv=gk:=⟨_,rfl⟩;have hsub:gJ gk nv:=by rw[←hgk];exact LX _ nv (gJ.refl nv)
 have hgl:=hsub.1;by_cases hlk:k<ov.length
 ·have hy:0≤ov.getD k 0∧ov.getD k 0<ov.length:=by
   unfold j5 at h6;rw[if_neg (by omega)]at h6
   have:=iy h6 k hlk;unfold qA at this;by_cases e:ov.getD k 0<0∨ov.length≤ov.getD k 0∨ov.getD k 0∈ov.take k
   ·rw[if_pos e]at this;cases this
   ·omega
  have hnext:(ov.take (k+1)).foldl (mkS c ls sm nv n) nv=mkS c ls sm nv n gk (ov.getD k 0):=by
   rw[bX hlk,List.foldl_append,hgk];rfl
  have hpz:=Az hb hlc hnr (sum:=sm) (by omega) (hsub.set0 (ov.getD k 0).toNat)
  have hsl:(gk.set (ov.getD k 0).toNat 0).length=nv.length:=by rw[agT];exact hgl
  have tk:aiW (nv.length-0) (aiX 0 (gk.set (ov.getD k 0).toNat 0))=gk.set (ov.getD k 0).toNat 0:=bP hsl;rw[hgk];obtain⟨r,hr⟩:∃r,mI (sol c ls sm (gk.set (ov.getD k 0).toNat 0) n)=r:=⟨_,rfl⟩;have hr2:(sol c ls sm (gk.set (ov.getD k 0).toNat 0) n).2.2=r.2.2:=by rw[←hr,LQ]
  have hs1:r.2.2≠0→mkS c ls sm nv n gk (ov.getD k 0)=(gk.set (ov.getD k 0).toNat 0).set (ov.getD k 0).toNat (nv.getD (ov.getD k 0).toNat 0):=fun e=>by unfold mkS;rw[hr2,if_pos e]
  have hs0:¬r.2.2≠0→mkS c ls sm nv n gk (ov.getD k 0)=gk.set (ov.getD k 0).toNat 0:=fun e=>by unfold mkS;rw[hr2,if_neg e]
  repeat'((conv=>whnf);first|refine Exists.intro (r) ?_|(intro hq;(try simp only[vw]at hq);try first|exact absurd hq (by decide)|exfalso;omega)|apply aI|with_reducible exact vM rfl|exact⟨⟩|apply nM|apply fM)
  all_goals((try apply vM);(try simp only[vq]at*);try omega)
  all_goals(try first|omega|exact⟨hg,hL,by rw[tk];exact hpz,by rw[tk];exact hr⟩)
  ·refine⟨k+1,[],⟨by omega,by omega⟩,?_⟩
   rw[hnext,hs1 (by assumption)]
   repeat'((conv=>whnf);first|intro _|apply aI|with_reducible exact vM rfl|exact⟨⟩|apply nM|apply fM)
   all_goals((try apply vM);(try simp only[vq]at*);try omega)
  ·refine⟨k+1,[],⟨by omega,by omega⟩,?_⟩
   rw[hnext,hs0 (by assumption)]
   repeat'((conv=>whnf);first|intro _|apply aI|with_reducible exact vM rfl|exact⟨⟩|apply nM|apply fM)
   all_goals((try apply vM);(try simp only[vq]at*);try omega)
 have e:k=ov.length:=by omega
 subst e;rw[ail]at hgk⊢;rw[hgk];have s2:(CL.ints .i64 gk).sub 0 nv.length=.ints .i64 gk:=congrArg (CL.ints .i64) (bP hgl)
 repeat'((conv=>whnf);first|(intro hq;(try simp only[vw]at hq);try first|exact absurd hq (by decide)|exfalso;omega)|apply aI|with_reducible exact vM rfl|exact⟨⟩|apply nM|apply fM)
 all_goals((try apply vM);(try simp only[vq]at*);try omega)
 rw[s2];exact Sup.of rfl
theorem Ki (c:Int) (ls:List (List Int)) (sum:Int) (gv:List Int) (n:Nat) (hL:bH ls) (hp:cZ c ls sum gv) (hg:n≤5):
 aF Tryz.prog 59 [pzV c ls sum gv,.int .i64 (n:Int)] (.bp (mH c ls sum gv n)):=by
 have hc:=hp.c1;have hgl:=hp.gl;have hC:=LW n;refine bR (md:=1) (rf:=[27]) mixed aj hC Tryz.func59 (by rfl) (by rfl) (by rfl) ?_
 repeat'((conv=>whnf);first|(intro hq;(try simp only[vw]at hq);try first|exact absurd hq (by decide)|exfalso;omega)|apply aI|with_reducible exact vM rfl|exact⟨⟩|apply nM|apply fM)
 all_goals((try apply vM);(try simp only[vq]at*);try omega)
 conv=>whnf
 refine aJ (X:=Nat) (fun i=>i≤gv.length∧∀j,j<i→(decide (gv.getD j 0=0)||decide ((sol c ls sum (gv.set j 0) n).2.2≠0))=true) (fun i=>[(5,.int .i64 i)]) (fun i=>[]) (fun i=>gv.length-i) 0 ⟨aG,mixed,aj,hC,aM⟩ (by rfl) ⟨by omega,fun j hj=>by omega⟩ ?_ ?_
 ·repeat'((conv=>whnf);first|intro _|apply aI|with_reducible exact vM rfl|exact⟨⟩|apply nM|apply fM)
  all_goals((try apply vM);(try simp only[vq]at*);try omega)
 intro i ⟨hi,hall⟩;by_cases hlt:i<gv.length
 ·by_cases h0:gv.getD i 0=0
  ·repeat'((conv=>whnf);first|(intro hq;(try simp only[vw]at hq);try first|exact absurd hq (by decide)|exfalso;omega)|apply aI|with_reducible exact vM rfl|exact⟨⟩|apply nM|apply fM)
   all_goals((try apply vM);(try simp only[vq]at*);try omega)
   all_goals(try omega)
   refine⟨i+1,[],⟨⟨by omega,fun j hj=>?_⟩,by omega⟩,?_⟩
   ·by_cases e:j=i
    ·subst e;rw[decide_eq_true h0];rfl
    ·exact hall j (by omega)
   repeat'((conv=>whnf);first|intro _|apply aI|with_reducible exact vM rfl|exact⟨⟩|apply nM|apply fM)
   all_goals((try apply vM);(try simp only[vq]at*);try omega)
  have hpi:=hp.set0 i;have hl2:(gv.set i 0).length=gv.length:=agT ..;have tk:aiW (gv.length-0) (aiX 0 (gv.set i 0))=gv.set i 0:=bP hl2;obtain⟨r,hr⟩:∃r,mI (sol c ls sum (gv.set i 0) n)=r:=⟨_,rfl⟩;have hr2:(sol c ls sum (gv.set i 0) n).2.2=r.2.2:=by rw[←hr,LQ]
  have hmf:r.2.2=0→mH c ls sum gv n=false:=fun e=>AP hlt h0 (hr2.trans e);have hlt':i<(aiW (0-0) (aiX 0 ([]:List Int))++gv).length:=hlt;have hlt2:gv.length≤(aiW (0-0) (aiX 0 ([]:List Int))++gv).length:=agh _;have hlt3:gv.length≤((aiW (0-0) (aiX 0 ([]:List Int))++gv).set i 0).length:=Nat.le_of_eq hl2.symm;have hpi':cZ c ls sum (aiW (gv.length-0) (aiX 0 ((aiW (0-0) (aiX 0 ([]:List Int))++gv).set i 0))):=tk.symm▸hpi;have hr':mI (sol c ls sum (aiW (gv.length-0) (aiX 0 ((aiW (0-0) (aiX 0 ([]:List Int))++gv).set i 0))) n)=r:=(congrArg (fun x=>mI (sol c ls sum x n)) tk).trans hr
  repeat'((conv=>whnf);first|refine Exists.intro (r) ?_|(intro hq;(try simp only[vw]at hq);try first|exact absurd hq (by decide)|exfalso;omega)|apply aI|with_reducible exact vM rfl|exact⟨⟩|apply nM|apply fM)
  all_goals((try apply vM);(try simp only[vq]at*);try omega)
  all_goals(try first|exact⟨hg,hL,hpi',hr'⟩|exact hlt'|exact hlt2|exact hlt3|exact hg|exact hL|exact hpi'|exact hr'|omega)
  all_goals(try(rw[hmf ‹r.2.2=0›];first|exact Sup.of rfl|exact cu false))
  refine⟨i+1,[],⟨⟨by omega,fun j hj=>?_⟩,by omega⟩,?_⟩
  ·by_cases e:j=i
   ·subst e;rw[hr2,decide_eq_true (p:=r.2.2≠0) (by assumption),ajG]
   ·exact hall j (by omega)
  repeat'((conv=>whnf);first|intro _|apply aI|with_reducible exact vM rfl|exact⟨⟩|apply nM|apply fM)
  all_goals((try apply vM);(try simp only[vq]at*);try omega)
 have e:i=gv.length:=by omega
 subst e;have ht:mH c ls sum gv n=true:=by
  unfold mH;rw[ahP];exact fun j hj=>hall j (ah5.1 hj)
 rw[ht]
 repeat'((conv=>whnf);first|(intro hq;(try simp only[vw]at hq);try first|exact absurd hq (by decide)|exfalso;omega)|apply aI|with_reducible exact vM rfl|exact⟨⟩|apply nM|apply fM)
 all_goals((try apply vM);(try simp only[vq]at*);try omega)
 all_goals first|omega|exact Sup.of rfl|exact cu true
def P7:PSp:=fun xs K=>match xs with
 | [.agg [.int .i64 c,.isl (.rows .i64 A) .none,.int .i64 sum,.isl (.ints .i64 gv) .none],.agg [.int .i64 c',.isl (.rows .i64 B) .none,.int .i64 sum',.isl (.ints .i64 gw) .none]]=>VC ((c=c'∧A=B∧sum=sum'∧gv=gw)∧A.length≤1000000∧(∀i,(A.getD i []).length≤2000000)∧gv.length≤2000000)∧K (.bool true)
 | [.agg [.int .i64 c,.isl (.rows .i64 A) .none,.int .i64 sum,.isl (.ints .i64 gv) .none],.agg [.int .i64 0,.isl (.ints .i64 []) .none,.int .i64 0,.isl (.ints .i64 []) .none]]=>VC (c=0∧A=[]∧sum=0∧gv=[])∧K (.bool true)
 |_=>False
theorem abo:POK Tryz.prog 46 P7:=by
 intro xs K hk;unfold P7 at hk;split at hk
 ·obtain⟨⟨⟨rfl,rfl,rfl,rfl⟩,h1,h2,h3⟩,hk⟩:=hk
  exact⟨_,hk,gV (Dz _ _ _ _ h1 h2 h3) ⟨fun hr=>by cases hr;exact .bool _ _⟩⟩
 ·obtain⟨⟨rfl,rfl,rfl,rfl⟩,hk⟩:=hk
  refine⟨_,hk,Pt (gV (Dz 0 [] 0 [] (by decide) (fun i=>by simp) (by decide)) ⟨fun hr=>by cases hr;exact .bool _ _⟩) rfl fun i hi=>?_⟩
  match i,hi with
  |0,_=>exact bO _
  |1,_=>exact⟨fun hr=>by
   cases hr with
   |agg _ _ vs hl hh=>
    refine .agg _ _ _ hl fun i hi=>?_
    match i,hi with
    |0,_=>have:=hh 0 (by decide);simp only[aD]at this⊢;exact this
    |1,_=>have:=hh 1 (by decide);simp only[aD]at this⊢;generalize vs.getD 1 undef=u at this;exact aaW this rfl
    |2,_=>have:=hh 2 (by decide);simp only[aD]at this⊢;exact this
    |3,_=>have:=hh 3 (by decide);simp only[aD]at this⊢;exact this⟩
 ·exact hk.elim
end Go.Eng.YtcechbdgokjmgaaGreatDoor
namespace Go.Eng.YtcechbdgokjmgaaGreatDoor
open Go.Proofs Go.RowKit
set_option linter.unusedSimpArgs false
set_option linter.unusedVariables false
set_option maxHeartbeats 0
set_option maxRecDepth 100000
def Ws:PSp:=fun xs K=>match xs with
 | [.agg [.int .i64 c,.isl (.rows .i64 ls) .none],.isl (.ints .i64 nv) .none,.isl (.ints .i64 ov) .none,.int .i64 g]=>VC (bH ls∧nv.length≤5000∧ov.length≤5000)∧K (.tup [pzT (iD c ls nv ov g).1,.int .i64 (iD c ls nv ov g).2])
 |_=>False
theorem aea:POK Tryz.prog 53 Ws:=by
 intro xs K h;unfold Ws at h;split at h
 ·exact⟨_,h.2,Dx _ _ _ _ _ h.1.get.1 h.1.get.2.1 h.1.get.2.2⟩
 ·exact h.elim
def P8:PSp:=fun xs K=>match xs with
 | [.agg [.int .i64 c,.isl (.rows .i64 ls) .none],.isl (.ints .i64 nv) .none,.isl (.ints .i64 ov) .none,.int .i64 g]=>VC ((0≤g∧g≤5)∧bH ls∧fu c ls=0∧(nv.length:Int)=c∧iC nv=true∧(ov.length:Int)=c∧j5 5 ov=0)∧K (pzV c ls (dU nv (ls.getD 0 [])) (ov.foldl (mkS c ls (dU nv (ls.getD 0 [])) nv g.toNat) nv))
 |_=>False
theorem abp:POK Tryz.prog 57 P8:=by
 intro xs K hk;unfold P8 at hk;split at hk
 ·rename_i c ls nv ov g
  obtain⟨⟨h1,h2,h3,h4,h5,h6,h7⟩,hk⟩:=hk;obtain⟨n,rfl⟩:∃n:Nat,g=n:=⟨g.toNat,by omega⟩
  exact⟨_,hk,P6 _ _ _ _ _ h2 h3 h4 h5 h6 h7 (by omega)⟩
 ·exact hk.elim
def P9 (F:List Int→Bool):PSp:=fun xs K=>match xs with
 | [.agg [.int .i64 c,.isl (.rows .i64 ls) .none,.int .i64 sum,.isl (.ints .i64 gv) .none],.int .i64 g]=>VC ((bH ls∧gv.length≤5000)∧wH c ls sum gv g=(F gv,0))∧K (.tup [.bp (F gv),.int .i64 0])
 |_=>False
theorem abq (F:List Int→Bool):POK Tryz.prog 58 (P9 F):=by
 intro xs K hk;unfold P9 at hk;split at hk
 ·rename_i c ls sum gv g
  obtain⟨⟨⟨h1,h2⟩,h3⟩,hk⟩:=hk;have h:=Cu c ls sum gv g h1 h2;rw[h3]at h;exact⟨_,hk,h⟩
 ·exact hk.elim
def Ja (F:List Int→Bool):PSp:=fun xs K=>match xs with
 | [.agg [.int .i64 c,.isl (.rows .i64 ls) .none,.int .i64 sum,.isl (.ints .i64 gv) .none],.int .i64 g]=>VC (((0≤g∧g≤5)∧bH ls∧cZ c ls sum gv)∧mH c ls sum gv g.toNat=F gv)∧K (.bp (F gv))
 |_=>False
theorem Wt (F:List Int→Bool):POK Tryz.prog 59 (Ja F):=by
 intro xs K hk;unfold Ja at hk;split at hk
 ·rename_i c ls sum gv g
  obtain⟨⟨⟨h1,h2,h3⟩,h4⟩,hk⟩:=hk;obtain⟨n,rfl⟩:∃n:Nat,g=n:=⟨g.toNat,by omega⟩
  have h:=Ki c ls sum gv n h2 h3 (by omega)
  rw[show n=((n:Int)).toNat from rfl,h4]at h;exact⟨_,hk,h⟩
 ·exact hk.elim
noncomputable def oC (b1:Bool) (w:Int) (b2:Bool) (P:Int × List (List Int) × Int × List Int) (e:Int) (b3 b4:Bool) (pe:Int) (F:List Int→Bool):CPT:=aA 17 (aB Iu) (aA 19 (aB VL) (aA 46 (aB P7) (aA 50 (aB (oP AJ (.bool b1))) (aA 51 (aB (oP BH (.int .i64 w))) (aA 52 (aB (oP VO (.bool b2))) (aA 53 (aB (oP Ws (.tup [pzT P,.int .i64 e]))) (aA 54 (aB (oP Pz (.bool b3))) (aA 55 (aB (oP Cv (.bool b4))) (aA 56 (aB (oP Ho (.int .i64 pe))) (aA 57 (aB (oP P8 (pzT P))) (aA 58 (aB (P9 F)) (aA 59 (aB (Ja F)) noC))))))))))))
theorem iP (b1:Bool) (w:Int) (b2:Bool) (P:Int × List (List Int) × Int × List Int) (e:Int) (b3 b4:Bool) (pe:Int) (F:List Int→Bool):aV Tryz.prog (oC b1 w b2 P e b3 b4 pe F):=ak (au VJ) (ak (au adV) (ak (au abo) (ak (au (lT Iw (.bool b1))) (ak (au (lT Ry (.int .i64 w))) (ak (au (lT adX (.bool b2))) (ak (au (lT aea (.tup [pzT P,.int .i64 e]))) (ak (au (lT aa8 (.bool b3))) (ak (au (lT SG (.bool b4))) (ak (au (lT Va (.int .i64 pe))) (ak (au (lT abp (pzT P))) (ak (au (abq F)) (ak (au (Wt F)) aC))))))))))))
theorem Tg (c:Int) (ls:List (List Int)) (nv ov:List Int) (g:Int) (hn:nv.length≤9223372036854775807) (ho:ov.length≤9223372036854775807):aF Tryz.prog 8 [.agg [.int .i64 c,.isl (.rows .i64 ls) .none],.agg [.isl (.ints .i64 nv) .none,.isl (.ints .i64 ov) .none,.int .i64 g]] (.bp true):=by
 have Fz:List Int→Bool:=fun _=>true;cases hb1:shB ls 20 130 with
 |false=>
  have hC:=iP false 0 true (0,[],0,[]) 0 true true 0 Fz;refine bR (md:=1) (rf:=[]) mixed aj hC Tryz.func8 (by rfl) (by rfl) (by rfl) ?_
  unfold oC
  repeat'((conv=>whnf);first|(intro hq;(try simp only[vw]at hq);try first|exact absurd hq (by decide)|exfalso;omega)|apply aI|with_reducible exact vM rfl|exact⟨⟩|apply nM|apply fM)
  all_goals((try apply vM);(try simp only[vq]at*);try omega)
  all_goals(try first|exact bI hb1|exact bI hb2|exact bI hb3|exact bI hb4|exact bO _|exact dV he|exact dV hpe|exact hL|exact⟨hL,hn5,ho5⟩|(rw[h1];exact bO _)|exact hMg|exact⟨rfl,rfl,rfl,rfl⟩|omega)
 |true=>
 have hL:=LC hb1 (by decide) (by decide)
 by_cases hn2:20<nv.length
 ·have hC:=iP true 0 true (0,[],0,[]) 0 true true 0 Fz
  refine bR (md:=1) (rf:=[]) mixed aj hC Tryz.func8 (by rfl) (by rfl) (by rfl) ?_
  unfold oC
  repeat'((conv=>whnf);first|(intro hq;(try simp only[vw]at hq);try first|exact absurd hq (by decide)|exfalso;omega)|apply aI|with_reducible exact vM rfl|exact⟨⟩|apply nM|apply fM)
  all_goals((try apply vM);(try simp only[vq]at*);try omega)
  all_goals(try first|exact bI hb1|exact bI hb2|exact bI hb3|exact bI hb4|exact bO _|exact dV he|exact dV hpe|exact hL|exact⟨hL,hn5,ho5⟩|(rw[h1];exact bO _)|exact hMg|exact⟨rfl,rfl,rfl,rfl⟩|omega)
 by_cases ho2:20<ov.length
 ·have hC:=iP true 0 true (0,[],0,[]) 0 true true 0 Fz
  refine bR (md:=1) (rf:=[]) mixed aj hC Tryz.func8 (by rfl) (by rfl) (by rfl) ?_
  unfold oC
  repeat'((conv=>whnf);first|(intro hq;(try simp only[vw]at hq);try first|exact absurd hq (by decide)|exfalso;omega)|apply aI|with_reducible exact vM rfl|exact⟨⟩|apply nM|apply fM)
  all_goals((try apply vM);(try simp only[vq]at*);try omega)
  all_goals(try first|exact bI hb1|exact bI hb2|exact bI hb3|exact bI hb4|exact bO _|exact dV he|exact dV hpe|exact hL|exact⟨hL,hn5,ho5⟩|(rw[h1];exact bO _)|exact hMg|exact⟨rfl,rfl,rfl,rfl⟩|omega)
 have hn5:nv.length≤5000:=by omega
 have ho5:ov.length≤5000:=by omega
 have hn6:nv.length≤1000000:=by omega
 obtain⟨w,he⟩:∃w,fu c ls=w:=⟨_,rfl⟩;by_cases hw:w=0
 case neg=>
  have h1:iD c ls nv ov g=((0,[],0,[]),w):=by
   have:mD c ls nv g=w:=by unfold mD;rw[he];simp[aL,hw]
   unfold iD;rw[this,if_pos hw]
  have hC:=iP true w true (0,[],0,[]) w true true 0 Fz;refine bR (md:=1) (rf:=[]) mixed aj hC Tryz.func8 (by rfl) (by rfl) (by rfl) ?_
  unfold oC
  repeat'((conv=>whnf);first|(intro hq;(try simp only[vw]at hq);try first|exact absurd hq (by decide)|exfalso;omega)|apply aI|with_reducible exact vM rfl|exact⟨⟩|apply nM|apply fM)
  all_goals((try apply vM);(try simp only[vq]at*);try omega)
  all_goals(try first|exact bI hb1|exact bI hb2|exact bI hb3|exact bI hb4|exact bO _|exact dV he|exact dV hpe|exact hL|exact⟨hL,hn5,ho5⟩|(rw[h1];exact bO _)|exact hMg|exact⟨rfl,rfl,rfl,rfl⟩|omega)
 subst hw;cases hb2:Pq c ls 9 9 with
 |false=>
  have hC:=iP true 0 false (0,[],0,[]) 0 true true 0 Fz;refine bR (md:=1) (rf:=[]) mixed aj hC Tryz.func8 (by rfl) (by rfl) (by rfl) ?_
  unfold oC
  repeat'((conv=>whnf);first|(intro hq;(try simp only[vw]at hq);try first|exact absurd hq (by decide)|exfalso;omega)|apply aI|with_reducible exact vM rfl|exact⟨⟩|apply nM|apply fM)
  all_goals((try apply vM);(try simp only[vq]at*);try omega)
  all_goals(try first|exact bI hb1|exact bI hb2|exact bI hb3|exact bI hb4|exact bO _|exact dV he|exact dV hpe|exact hL|exact⟨hL,hn5,ho5⟩|(rw[h1];exact bO _)|exact hMg|exact⟨rfl,rfl,rfl,rfl⟩|omega)
 |true=>
 have hp:=Ay he;have hc:=hp.c1;have hll:=hp.ll;by_cases hg:g<1∨5<g
 ·have h1:iD c ls nv ov g=((0,[],0,[]),3):=by
   have:mD c ls nv g=3:=by unfold mD fJ;rw[he,if_pos hg];rfl
   unfold iD;rw[this,if_pos (by decide)]
  have hC:=iP true 0 true (0,[],0,[]) 3 true true 0 Fz;refine bR (md:=1) (rf:=[]) mixed aj hC Tryz.func8 (by rfl) (by rfl) (by rfl) ?_
  unfold oC
  repeat'((conv=>whnf);first|(intro hq;(try simp only[vw]at hq);try first|exact absurd hq (by decide)|exfalso;omega)|apply aI|with_reducible exact vM rfl|exact⟨⟩|apply nM|apply fM)
  all_goals((try apply vM);(try simp only[vq]at*);try omega)
  all_goals(try first|exact bI hb1|exact bI hb2|exact bI hb3|exact bI hb4|exact bO _|exact dV he|exact dV hpe|exact hL|exact⟨hL,hn5,ho5⟩|(rw[h1];exact bO _)|exact hMg|exact⟨rfl,rfl,rfl,rfl⟩|omega)
 have hg0:fJ g=0:=by unfold fJ;rw[if_neg hg]
 by_cases hlc:(nv.length:Int)=c
 case neg=>
  have h1:iD c ls nv ov g=((0,[],0,[]),2):=by
   have:mD c ls nv g=2:=by unfold mD;rw[he,hg0,if_pos hlc];rfl
   unfold iD;rw[this,if_pos (by decide)]
  have hC:=iP true 0 true (0,[],0,[]) 2 true true 0 Fz;refine bR (md:=1) (rf:=[]) mixed aj hC Tryz.func8 (by rfl) (by rfl) (by rfl) ?_
  unfold oC
  repeat'((conv=>whnf);first|(intro hq;(try simp only[vw]at hq);try first|exact absurd hq (by decide)|exfalso;omega)|apply aI|with_reducible exact vM rfl|exact⟨⟩|apply nM|apply fM)
  all_goals((try apply vM);(try simp only[vq]at*);try omega)
  all_goals(try first|exact bI hb1|exact bI hb2|exact bI hb3|exact bI hb4|exact bO _|exact dV he|exact dV hpe|exact hL|exact⟨hL,hn5,ho5⟩|(rw[h1];exact bO _)|exact hMg|exact⟨rfl,rfl,rfl,rfl⟩|omega)
 have hE1:mD c ls nv g=0:=by unfold mD;rw[he,hg0,if_neg (by simp[hlc])];rfl
 cases hb3:Cw nv with
 |false=>
  have h1:iD c ls nv ov g=((0,[],0,[]),1):=by
   unfold iD;rw[hE1,if_neg (by simp),if_pos]
   by_cases e:cfE nv=0
   ·right;unfold gI;rw[if_neg (by rw[e];simp)]
    show iC nv=false;cases hx:iC nv with
    |false=>rfl
    |true=>rw[LG.2 hx]at hb3;cases hb3
   ·right;unfold gI;rw[if_pos e]
  have hC:=iP true 0 true (0,[],0,[]) 1 false true 0 Fz;refine bR (md:=1) (rf:=[]) mixed aj hC Tryz.func8 (by rfl) (by rfl) (by rfl) ?_
  unfold oC
  repeat'((conv=>whnf);first|(intro hq;(try simp only[vw]at hq);try first|exact absurd hq (by decide)|exfalso;omega)|apply aI|with_reducible exact vM rfl|exact⟨⟩|apply nM|apply fM)
  all_goals((try apply vM);(try simp only[vq]at*);try omega)
  all_goals(try first|exact bI hb1|exact bI hb2|exact bI hb3|exact bI hb4|exact bO _|exact dV he|exact dV hpe|exact hL|exact⟨hL,hn5,ho5⟩|(rw[h1];exact bO _)|exact hMg|exact⟨rfl,rfl,rfl,rfl⟩|omega)
 |true=>
 have hnr:=LG.1 hb3;have hcf:cfE nv=0:=V3 (by omega) hnr
 have hi:gI nv=(true,0):=by unfold gI;rw[if_neg (by rw[hcf];simp),hnr]
 have hN:∀x∈nv,0≤x∧x≤16:=fun x hx=>by have:=lS hnr x hx;omega
 have hMg:ls.length≤1000∧(∀i,i<ls.length→(ls.getD i []).length≤1000∧∀x∈ls.getD i [],0≤x∧x<nv.length)∧∀x∈nv,0≤x∧x≤16:=⟨by omega,fun i hi=>by have:=hp.ln i hi;exact⟨by have:=this.len;omega,fun x hx=>by have:=this.rng x hx;omega⟩,hN⟩
 cases hb4:nO (eH nv ls)with
 |false=>
  have h1:iD c ls nv ov g=((0,[],0,[]),16):=by
   unfold iD;rw[hE1,if_neg (by simp),hi,if_neg (by simp),y5,hb4,if_pos rfl]
  have hC:=iP true 0 true (0,[],0,[]) 16 true false 0 Fz;refine bR (md:=1) (rf:=[]) mixed aj hC Tryz.func8 (by rfl) (by rfl) (by rfl) ?_
  unfold oC
  repeat'((conv=>whnf);first|(intro hq;(try simp only[vw]at hq);try first|exact absurd hq (by decide)|exfalso;omega)|apply aI|with_reducible exact vM rfl|exact⟨⟩|apply nM|apply fM)
  all_goals((try apply vM);(try simp only[vq]at*);try omega)
  all_goals(try first|exact bI hb1|exact bI hb2|exact bI hb3|exact bI hb4|exact bO _|exact dV he|exact dV hpe|exact hL|exact⟨hL,hn5,ho5⟩|(rw[h1];exact bO _)|exact hMg|exact⟨rfl,rfl,rfl,rfl⟩|omega)
 |true=>
 obtain⟨pe,hpe⟩:∃pe,j5 5 ov=pe:=⟨_,rfl⟩;by_cases h4:(ov.length:Int)≠c∨pe≠0
 ·have h1:iD c ls nv ov g=((0,[],0,[]),14):=by
   unfold iD;rw[hE1,if_neg (by simp),hi,if_neg (by simp),y5,hb4,if_neg (by simp),hpe,if_pos h4]
  have hC:=iP true 0 true (0,[],0,[]) 14 true true pe Fz;refine bR (md:=1) (rf:=[]) mixed aj hC Tryz.func8 (by rfl) (by rfl) (by rfl) ?_
  unfold oC
  repeat'((conv=>whnf);first|(intro hq;(try simp only[vw]at hq);try first|exact absurd hq (by decide)|exfalso;omega)|apply aI|with_reducible exact vM rfl|exact⟨⟩|apply nM|apply fM)
  all_goals((try apply vM);(try simp only[vq]at*);try omega)
  all_goals(try first|exact bI hb1|exact bI hb2|exact bI hb3|exact bI hb4|exact bO _|exact dV he|exact dV hpe|exact hL|exact⟨hL,hn5,ho5⟩|(rw[h1];exact bO _)|exact hMg|exact⟨rfl,rfl,rfl,rfl⟩|omega)
  all_goals(exfalso;rcases h4 with h4|h4<;>contradiction)
 have h5:(ov.length:Int)=c:=aha.1 fun e=>h4 (.inl e);have h6:pe=0:=aha.1 fun e=>h4 (.inr e);subst h6;obtain⟨sm,hsm⟩:∃sm,dU nv (ls.getD 0 [])=sm:=⟨_,rfl⟩;obtain⟨gw,hgw⟩:∃gw,ov.foldl (mkS c ls sm nv g.toNat) nv=gw:=⟨_,rfl⟩;have hsa:fI nv (ls.getD 0 []) (ls.getD 0 []).length=sm:=by
  show dU nv ((ls.getD 0 []).take (ls.getD 0 []).length)=sm;rw[ail];exact hsm
 have h1:iD c ls nv ov g=((c,ls,sm,gw),0):=by
  unfold iD;rw[hE1,if_neg (by simp),hi,if_neg (by simp),y5,hb4,if_neg (by simp),hpe,if_neg h4,hsa,hgw]
 have hsmb: -999999999≤sm∧sm≤999999999:=by
  have:=nC hN (ls.getD 0 []);have:=(hp.ln 0 (by omega)).len
  omega
 have hsub:gJ gw nv:=by rw[←hgw];exact LX _ nv (gJ.refl nv)
 have hpw:cZ c ls sm gw:=Az he hlc hnr hsmb hsub;have hpn:cZ c ls sm nv:=Az he hlc hnr hsmb (gJ.refl nv);have hsf:mF c ls sm nv:=⟨hlc,hnr,fun i hi=>by
  have:=ahP.1 hb4 (dU nv (ls.getD i [])) (ai5.2 ⟨_,fP hi,rfl⟩);rw[decide_eq_true_eq]at this;rw[this,←hsm];unfold eH;cases ls with
  |nil=>simp at hi
  |cons l r=>rfl⟩
 have hs0:=SK hpn hsf g.toNat;have hsw:(sol c ls sm gw g.toNat).2.2=0:=by rw[←hgw];exact SL _ nv (gJ.refl nv) hs0
 obtain⟨F,hF⟩:∃F:List Int→Bool,F=fun v=>mH c ls sm v g.toNat:=⟨_,rfl⟩;have hFv:∀v,mH c ls sm v g.toNat=F v:=fun v=>by rw[hF]
 have hm:∀v,cZ c ls sm v→(sol c ls sm v g.toNat).2.2=0→wH c ls sm v g=(F v,0):=fun v hv h0=>by
  unfold wH;rw[aa9 he hv,hg0,if_neg (by decide),if_neg (by rw[h0];simp),hFv]
 have hgl:=hpw.gl;have hg5:0≤g∧g≤5:=by omega
 have q58a:(bH ls∧gw.length≤5000)∧wH c ls sm gw g=(F gw,0):=⟨⟨hL,by omega⟩,hm gw hpw hsw⟩
 have q58b:(bH ls∧nv.length≤5000)∧wH c ls sm nv g=(F nv,0):=⟨⟨hL,by omega⟩,hm nv hpn hs0⟩
 have q59a:((0≤g∧g≤5)∧bH ls∧cZ c ls sm gw)∧mH c ls sm gw g.toNat=F gw:=⟨⟨hg5,hL,hpw⟩,hFv _⟩;have q59b:((0≤g∧g≤5)∧bH ls∧cZ c ls sm nv)∧mH c ls sm nv g.toNat=F nv:=⟨⟨hg5,hL,hpn⟩,hFv _⟩;have q57:(0≤g∧g≤5)∧bH ls∧fu c ls=0∧(nv.length:Int)=c∧iC nv=true∧(ov.length:Int)=c∧j5 5 ov=0:=⟨hg5,hL,he,hlc,hnr,h5,hpe⟩;have q46:(c=c∧ls=ls∧sm=sm∧gw=gw)∧ls.length≤1000000∧(∀i,(ls.getD i []).length≤2000000)∧gw.length≤2000000:=⟨⟨rfl,rfl,rfl,rfl⟩,by omega,fun i=>by
  by_cases hi:i<ls.length
  ·have:=(hp.ln i hi).len;omega
  ·rw[agt,List.getElem?_eq_none (by omega)];simp,by omega⟩
 have e57:Sup (pzV c ls (dU nv (ls.getD 0 [])) (ov.foldl (mkS c ls (dU nv (ls.getD 0 [])) nv g.toNat) nv)) (pzT (c,ls,sm,gw)):=by rw[hsm,hgw];exact bO _
 have hC:=iP true 0 true (c,ls,sm,gw) 0 true true 0 F;refine bR (md:=1) (rf:=[]) mixed aj hC Tryz.func8 (by rfl) (by rfl) (by rfl) ?_
 unfold oC
 repeat'((conv=>whnf);first|(intro hq;(try simp only[vw]at hq);try first|exact absurd hq (by decide)|exfalso;omega)|apply aI|with_reducible exact vM rfl|exact⟨⟩|apply nM|apply fM)
 all_goals((try apply vM);(try simp only[vq]at*);try omega)
 all_goals(try first|exact bI hb1|exact bI hb2|exact bI hb3|exact bI hb4|exact bO _|exact dV he|exact dV hpe|exact hL|exact⟨hL,hn5,ho5⟩|(rw[h1];exact bO _)|exact hMg|exact⟨rfl,rfl,rfl,rfl⟩|omega)
 all_goals(try first|exact q58a|exact q58b|exact q59a|exact q59b|exact q57|exact q46|exact e57|exact q46.2|exact⟨q46.2.1,q46.2.2.1,q46.2.2.2⟩)
 all_goals first|exact bO _|(exfalso;simp_all;done)|skip
end Go.Eng.YtcechbdgokjmgaaGreatDoor
