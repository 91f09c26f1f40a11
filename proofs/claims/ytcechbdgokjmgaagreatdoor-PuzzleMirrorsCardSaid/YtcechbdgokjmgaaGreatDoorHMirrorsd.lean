/- Contracts of functions of the program: what each returns. Their conditions stand in them. -/
import Derived.Test.YtcechbdgokjmgaaGreatDoorHMirrorsc
open Bool renaming false_eq_true→aiF
open Classical renaming byContradiction→aln
open Int renaming le_of_lt→alB,toNat_zero→ak5,toNat→akf,mul_le_mul→alD,mul_nonneg→alE
open List renaming getD_eq_getElem?_getD→ahZ,pairwise_iff_getElem→ak3,mem_erase_of_ne→alz,length_erase_of_mem→alA,pairwise_map→ak0,mem_map→akC,length_map→ajO,replicate→ah9,length_replicate→ak2,all_eq_true→ajp,getElem_of_mem→ah3,getElem?_eq_getElem→ah4,take_add_one→ajQ,length_take→aiG,take→akt,drop→aku,drop_zero→akv,take_of_length_le→akL,take_length→ajS
open Nat renaming le_refl→ahO,beq→ah6,beq_refl→alC,eq_of_beq_eq_true→aib,ble→ah7
namespace Go.Eng.YtcechbdgokjmgaaGreatDoor
set_option linter.unusedSimpArgs false
set_option linter.unusedVariables false
section
variable {c:Int} {ls:List (List Int)} {sum sum':Int} {p q:Int→Int} {b:Bool} {m:Nat} {gv gv':List Int}
theorem Pm.inv (hS:Sym c ls sum sum' p q b m) (h:bD c ls sum gv) (hP:Pm c p b gv gv'):Pm c q b gv' gv:=by
 refine⟨fun z hz=>?_⟩;obtain⟨q1,q2⟩:=hS.qr z hz;have h1:=hP.at' _ q1;rw[q2]at h1;have h2:=yB h (q z).toNat;rw[h1];by_cases e:0<gv.getD (q z).toNat 0
 ·rw[if_pos e]
  have:=(lG (c:=c) (b:=b)).2 (show 1≤gv.getD (q z).toNat 0∧gv.getD (q z).toNat 0≤c by omega)
  rw[if_pos (by omega),vC]
 ·rw[if_neg e,if_neg (by omega)];omega
theorem Ug (hS:Sym c ls sum sum' p q b m) (h:bD c ls sum gv) (h':bD c ls sum' gv') (hP:Pm c p b gv gv') {n:Nat} {s:St} (hr:Run c ls sum n (bgn c gv) s) (hb:brk c ls sum s=false):
 ∃t,Run c ls sum' n (bgn c gv') t∧Sm c p b s t∧aR c ls sum' t∧StI t∧Unb c ls sum' t∧aR c ls sum s:=by
 obtain⟨t,r1,r2⟩:=afq hS hr _ (jF h) (jM h) (jF h') (jM h') (afs hS h h' hP);obtain⟨a1,a2⟩:=hr.ok (jF h) (jM h);obtain⟨a3,a4⟩:=r1.ok (jF h') (jM h');exact⟨t,r1,r2,a3,a4,afo hS a1 a3 r2 (TQ hb),a1⟩
theorem MO (hS:Sym c ls sum sum' p q b m) (h:bD c ls sum gv) (h':bD c ls sum' gv') (hP:Pm c p b gv gv') {n:Nat} (hn:n≤5) (h0:(sol c ls sum gv n).2.2=0):(sol c ls sum' gv' n).2.2=0:=by
 have hB':=jF h';have hI':=jM h';rcases(qY h hn).cases with⟨t,_,_,e⟩|⟨q1,q2,q3|⟨_,_,q6⟩⟩
 ·rw[h0]at e;cases e
 ·obtain⟨t,r1,r2,r3,r4,r5,r6⟩:=Ug hS h h' hP q1 q2
  have hd:=afp hS r6 r3 r2 q3.1;obtain⟨d1,d2⟩:=acf r3 r4 hd r5;have hA:=afh d2 (r1.le hB' hI');obtain⟨a1,a2,a3⟩:=WV d1 hn 273 (bgn c gv') [] hB' hI' hA;rcases(qY h' hn).cases with⟨t',_,_,e⟩|⟨p1,p2,p3|⟨p4,p5,p6⟩⟩
  ·exact absurd e a1
  ·exact p3.2
  ·exfalso
   obtain⟨o1,o2⟩:=p1.ok hB' hI';have hle:=acd o1 o2 d1 a2 (TR o1 p5) r1 hB' hI' (p1.le hB' hI');have x1:=o1.dl;have x2:=o1.cl;have x3:=r3.dl;have x4:=r3.cl;have h1:=(tN (by omega)).1 hd
   have h2:don (sol c ls sum' gv' n).2.1=true:=(tN (by omega)).2 fun i hi=>hle.dc i (by rw[←hle.len];exact hi) (h1 i (by rw[←hle.len];exact hi))
   rw[h2]at p4;cases p4
 ·rw[h0]at q6;cases q6
theorem Uh (hS:Sym c ls sum sum' p q b m) (h:bD c ls sum gv) (h':bD c ls sum' gv') (hP:Pm c p b gv gv') (h0:(sol c ls sum gv 5).2.2≠21):(sol c ls sum' gv' 5).2.2≠21:=by
 have hB':=jF h';have hI':=jM h';have hE':=(qY h' (show 5≤5 by omega)).cases
 have main:∀s,Run c ls sum 5 (bgn c gv) s→brk c ls sum s=false→vB c ls sum 5 s→(sol c ls sum' gv' 5).2.2≠21:=fun s hr hb hk=>by
  obtain⟨t,r1,r2,r3,r4,r5,r6⟩:=Ug hS h h' hP hr hb;rcases hE' with⟨t',e1,e2,e3⟩|⟨p1,p2,p3|⟨p4,p5,p6⟩⟩
  ·exfalso
   have hle:=WZ r3 r4 r5 (afr hS r6 r3 r2 hk) (show 5≤5 by omega) e1 hB' hI' (r1.le hB' hI')
   obtain⟨o1,o2⟩:=e1.ok hB' hI';have:=WY ⟨r3,r4,r5.ne,o1,hle⟩ (ME r5);rw[e2]at this;cases this
  ·rw[p3.2];simp
  ·rw[p6];simp
 rcases(qY h (show 5≤5 by omega)).cases with⟨t,_,_,e⟩|⟨q1,q2,q3⟩
 ·exact absurd e h0
 ·have o1:=(q1.ok (jF h) (jM h)).1
  refine main _ q1 q2 ?_;rcases q3 with q3|q3
  ·exact ace o1 q3.1 5
  ·exact TR o1 q3.2.1
theorem EL {n:Nat} (hn:n≤5) (h:bD c ls sum gv):(sol c ls sum gv n).2.2=0∨(sol c ls sum gv n).2.2=21∨(sol c ls sum gv n).2.2=23:=by
 rcases(qY h hn).cases with⟨t,_,_,e⟩|⟨_,_,q3|⟨_,_,q6⟩⟩
 ·exact .inr (.inl e)
 ·exact .inl q3.2
 ·exact .inr (.inr q6)
theorem JB (hS:Sym c ls sum sum' p q b m) (h:bD c ls sum gv) (h':bD c ls sum' gv') (hP:Pm c p b gv gv') {n:Nat} (hn:n≤5):(sol c ls sum gv n).2.2=0↔(sol c ls sum' gv' n).2.2=0:=
 ⟨MO hS h h' hP hn,MO hS.inv h' h (hP.inv hS h) hn⟩
theorem aci (hS:Sym c ls sum sum' p q b m) (h:bD c ls sum gv) (h':bD c ls sum' gv') (hP:Pm c p b gv gv'):(sol c ls sum gv 5).2.2=(sol c ls sum' gv' 5).2.2:=by
 have h1:=JB hS h h' hP (show 5≤5 by omega)
 have h2:=Uh hS h h' hP;have h3:=Uh hS.inv h' h (hP.inv hS h);rcases EL (show 5≤5 by omega) h with e|e|e<;>rcases EL (show 5≤5 by omega) h' with e'|e'|e'<;>rw[e,e']<;>rw[e,e']at h1 h2 h3<;>simp at h1 h2 h3
theorem acj (hS:Sym c ls sum sum' p q b m) (h:bD c ls sum gv) (h':bD c ls sum' gv') (hP:Pm c p b gv gv'):∀(f g:Nat),g+f≤5→oW c ls sum gv f g=oW c ls sum' gv' f g:=by
 intro f;induction f with
 |zero=>intro g _;rfl
 |succ f ih=>
  intro g hg;unfold oW;have h1:=JB hS h h' hP (n:=g) (by omega)
  by_cases e:(sol c ls sum gv g).2.2=0
  ·rw[if_pos e,if_pos (h1.1 e)]
  ·rw[if_neg e,if_neg (fun e'=>e (h1.2 e')),ih (g+1) (by omega)]
theorem acn (hS:Sym c ls sum sum' p q b m) (h:bD c ls sum gv) (h':bD c ls sum' gv') (hP:Pm c p b gv gv'):(fB c ls sum gv).1=(fB c ls sum' gv').1∧(fB c ls sum gv).2.2=(fB c ls sum' gv').2.2:=by
 have h5:=aci hS h h' hP;have h1:=acj hS h h' hP 4 1 (by omega)
 unfold fB;by_cases e:(sol c ls sum gv 5).2.2=0
 ·rw[if_neg (by rw[e];simp),if_neg (by rw[←h5,e];simp),h1];exact⟨rfl,rfl⟩
 ·rw[if_pos e,if_pos (by rw[←h5];exact e)];exact⟨rfl,h5⟩
def imF (c:Int) (q:Int→Int) (b:Bool) (F:List Int):List Int:=(List.range c.toNat).map fun i:Nat=>vv c b (F.getD (q i).toNat 0)
theorem oM {F:List Int} {z:Int} (hz:0≤z∧z<c):(imF c q b F).getD z.toNat 0=vv c b (F.getD (q z).toNat 0):=by
 have:z.toNat<c.toNat:=by omega
 have e:((z.toNat:Nat):Int)=z:=by omega
 simp[imF,ahZ,this,e]
theorem MP (F:List Int) (hc:0≤c):((imF c q b F).length:Int)=c:=by simp[imF];omega
theorem MQ (hS:Sym c ls sum sum' p q b m) (h:bD c ls sum gv) (h':bD c ls sum' gv') (hP:Pm c p b gv gv') {F:List Int} (hF:DZ c ls sum gv F):DZ c ls sum' gv' (imF c q b F):=by
 have hc:=h.c1;have hl:=hF.s.len;have hil:((imF c q b F).length:Int)=c:=MP F (by omega)
 refine⟨⟨hil,BP ?_ fun x hx=>?_,fun k' hk'=>?_⟩,fun i hi hp=>?_⟩
 ·rw[List.Nodup,ak3]
  intro i j hi hj hij e;have qi:=hS.qr (i:Int) (by omega)
  have qj:=hS.qr (j:Int) (by omega)
  have e1:=oM (c:=c) (q:=q) (b:=b) (F:=F) (z:=(i:Int)) (by omega)
  have e2:=oM (c:=c) (q:=q) (b:=b) (F:=F) (z:=(j:Int)) (by omega)
  rw[show((i:Int)).toNat=i by omega,cK hi]at e1
  rw[show((j:Int)).toNat=j by omega,cK hj]at e2
  have:=hF.s.inj (by omega) (by omega) (mX (e1.symm.trans (e.trans e2)))
  have h3:q i=q j:=by omega
  have:=congrArg p h3;rw[qi.2,qj.2]at this;omega
 ·obtain⟨i,hi,rfl⟩:=(bG _ _).1 hx
  have qi:=hS.qr (i:Int) (by omega)
  have e1:=oM (c:=c) (q:=q) (b:=b) (F:=F) (z:=(i:Int)) (by omega)
  rw[show((i:Int)).toNat=i by omega]at e1
  rw[e1,hil];exact lG.2 (hF.s.rng (by omega))
 ·obtain⟨k,hk,hpm⟩:=hS.im' k' hk'
  have hr:=(hS.ln k hk).rng;have h1:=hF.s.sum k hk;rw[tH]at h1⊢;rw[MK hpm,Uc];have h2:sF (fun z=>(imF c q b F).getD (p z).toNat 0) (ls.getD k [])=sF (fun z=>vv c b (F.getD z.toNat 0)) (ls.getD k []):=dF fun z hz=>by
   rw[oM (hS.pr z (hr z hz)).1,(hS.pr z (hr z hz)).2]
  rw[h2];have h3:=hS.sm;cases hb:b with
  |false=>
   rw[hb]at h3;simp only[aiF,if_false]at h3;have:sF (fun z=>vv c false (F.getD z.toNat 0)) (ls.getD k [])=sF (fun x=>F.getD x.toNat 0) (ls.getD k []):=dF fun z hz=>by simp[vv]
   omega
  |true=>
   rw[hb]at h3;simp only[if_true]at h3;have:sF (fun z=>vv c true (F.getD z.toNat 0)) (ls.getD k [])=sF (fun z=>(c+1)-F.getD z.toNat 0) (ls.getD k []):=dF fun z hz=>by simp[vv]
   rw[this,Ud,hS.sz hb k hk,Int.mul_comm (c+1)];omega
 ·have hgl':=h'.gl
  have hgl:=h.gl;have qi:=hS.qr (i:Int) (by omega)
  have e1:=oM (c:=c) (q:=q) (b:=b) (F:=F) (z:=(i:Int)) (by omega)
  rw[show((i:Int)).toNat=i by omega]at e1
  have e2:=hP.at' _ qi.1;rw[qi.2,show((i:Int)).toNat=i by omega]at e2
  rw[e1,e2];split at e2
  ·rename_i h0
   rw[if_pos h0,hF.g _ (by omega) h0]
  ·omega
theorem JC {α:Type} [DecidableEq α]:∀(l m:List α),l.Nodup→(∀x∈l,x∈m)→l.length≤m.length:=by
 intro l;induction l with
 |nil=>intro m _ _;simp
 |cons x r ih=>
  intro m hn hm;have hn':=List.pairwise_cons.1 hn;have hx:=hm x (by simp)
  have:=ih (m.erase x) hn'.2 fun y hy=>(alz (fun e=>hn'.1 y hy e.symm)).2 (hm y (by simp[hy]))
  rw[alA hx]at this;have:=List.length_pos_of_mem hx;simp only[List.length_cons];omega
theorem MR (hS:Sym c ls sum sum' p q b m) (h:bD c ls sum gv) (h':bD c ls sum' gv') (hP:Pm c p b gv gv'):(eB c ls sum gv gv.length []).length≤(eB c ls sum' gv' gv'.length []).length:=by
 have hc:=h.c1;have hgl:=h.gl;have hgr:∀i,0≤gv.getD i 0:=fun i=>(yB h i).1;have hnd:=Qk (c:=c) (ls:=ls) (sum:=sum) hgr gv.length [] (by simpa using hgl)
 have hm:((eB c ls sum gv gv.length []).map (imF c q b)).length≤(eB c ls sum' gv' gv'.length []).length:=by
  refine JC _ _ ?_ fun G hG=>?_
  ·rw[List.Nodup,ak0]
   have hall:∀F∈eB c ls sum gv gv.length [],(F.length:Int)=c:=fun F hF=>((vo h F).1 hF).s.len;refine List.Pairwise.imp_of_mem (fun{F G} hF hG hne e=>hne ?_) hnd;have l1:=hall F hF;have l2:=hall G hG;refine List.ext_getElem (by omega) fun i h1 h2=>?_
   have pi:=hS.pr (i:Int) (by omega)
   have e1:=oM (c:=c) (q:=q) (b:=b) (F:=F) pi.1;have e2:=oM (c:=c) (q:=q) (b:=b) (F:=G) pi.1;rw[pi.2,show((i:Int)).toNat=i by omega]at e1 e2
   rw[←cK h1,←cK h2];exact mX (e1.symm.trans ((congrArg (fun l:List Int=>l.getD (p i).toNat 0) e).trans e2))
  ·obtain⟨F,hF,rfl⟩:=akC.1 hG
   exact(vo h' _).2 (MQ hS h h' hP ((vo h F).1 hF))
 rwa [ajO]at hm
theorem Xf (hS:Sym c ls sum sum' p q b m) (h:bD c ls sum gv) (h':bD c ls sum' gv') (hP:Pm c p b gv gv'):(eB c ls sum gv gv.length []).length=(eB c ls sum' gv' gv'.length []).length:=
 Nat.le_antisymm (MR hS h h' hP) (MR hS.inv h' h (hP.inv hS h))
end
end Go.Eng.YtcechbdgokjmgaaGreatDoor
namespace Go.Eng.YtcechbdgokjmgaaGreatDoor
open Go.Proofs
set_option linter.unusedSimpArgs false
set_option linter.unusedVariables false
theorem aft (l:List Int):zeN l≤l.length:=List.length_filter_le _ _
abbrev pF (q:List Int) (z:Int):Int:=q.getD z.toNat 0
theorem Prm.pr {c:Int} {q:List Int} (hc:0≤c) (h:Prm c.toNat q):∀z,0≤z∧z<c→(0≤pF q z∧pF q z<c)∧pF (eF q) (pF q z)=z:=fun z hz=>by
 have h1:=h.at (i:=z.toNat) (by omega)
 refine⟨by unfold pF;omega,?_⟩
 have:=yC (f:=fun i=>(i:Int)) (o:=ah9 q.length 0) h (by rw[ak2];exact h.ln) c.toNat (ahO _) z.toNat (by omega)
 unfold pF eF;rw[h.ln];rw[h.ln]at this;rw[this];omega
theorem Prm.qr {c:Int} {q:List Int} (hc:0≤c) (h:Prm c.toNat q):∀z,0≤z∧z<c→(0≤pF (eF q) z∧pF (eF q) z<c)∧pF q (pF (eF q) z)=z:=fun z hz=>by
 obtain⟨i,hi,e⟩:=h.ex (j:=z.toNat) (by omega)
 have h1:=(h.pr hc (i:Int) (by omega)).2
 have e1:pF q (i:Int)=z:=by unfold pF;rw[show((i:Int)).toNat=i by omega,e];omega
 rw[e1]at h1;rw[h1];exact⟨by omega,e1⟩
theorem JD (q:List Int):(eF q).length=q.length:=by unfold eF;rw[jC,ak2]
theorem MS {c:Int} {q:List Int} (hc:0≤c) (h:Prm c.toNat q):Prm c.toNat (eF q):=by
 have hl:(eF q).length=c.toNat:=by rw[JD,h.ln]
 have at':∀j:Nat,j<c.toNat→(eF q).getD j 0=pF (eF q) (j:Int):=fun j hj=>by unfold pF;rw[show((j:Int)).toNat=j by omega]
 refine⟨hl,fun y hy=>?_,?_,fun y hy=>?_⟩
 ·obtain⟨j,hj,rfl⟩:=(bG _ _).1 hy
  rw[at' j (by omega)]
  have:=(h.qr hc (j:Int) (by omega)).1
  omega
 ·rw[List.Nodup,ak3]
  intro i j hi hj hij e;rw[←cK hi,←cK hj,at' i (by omega),at' j (by omega)]at e
  have h1:=(h.qr hc (i:Int) (by omega)).2
  have h2:=(h.qr hc (j:Int) (by omega)).2
  rw[e,h2]at h1;omega
 ·have h1:=h.pr hc y (by omega)
  have:(eF q).getD (pF q y).toNat 0=y:=h1.2;rw[←this];exact cu (by rw[hl];omega)
theorem Xg {ls:List (List Int)} (h:jB ls=true) {k:Nat} (hk:k<ls.length):(ls.getD k []).length=(ls.getD 0 []).length:=by
 simpa using ajp.1 h (ls.getD k []) (cu hk)
theorem Ui {c:Int} {ls:List (List Int)} {sum:Int} {gv q:List Int} {b:Bool} (hb:eP c ls=0) (hp:bD c ls sum gv) (hq:Prm c.toNat q) (hk:kpB ls q=true) (hv:b=true→jB ls=true):
 Sym c ls sum (smI c ls sum b) (pF q) (pF (eF q)) b (ls.getD 0 []).length:=by
 have hc:=hp.c1;have hnd:=Ua hb;have hpr:=hq.pr (by omega)
 have hqr:=hq.qr (by omega)
 have hat:∀k,k<ls.length→∃k',k'<ls.length∧ls.getD k' []=bK (mpL q (ls.getD k [])):=fun k hk'=>by
  obtain⟨k',h1,h2⟩:=ah3 (afi hk hk');exact⟨k',h1,by rw[ahZ,ah4 h1];exact h2⟩
 refine⟨hpr,hqr,hp.ln,fun k hk'=>?_,fun k' hk'=>?_,fun e k hk'=>Xg (hv e) hk',?_⟩
 ·obtain⟨k',h1,h2⟩:=hat k hk'
  exact⟨k',h1,by rw[h2];exact nS _⟩
 ·
  have hinj:(ls.map fun l=>bK (mpL q l)).Nodup:=by
   rw[List.Nodup,ak0];refine List.Pairwise.imp_of_mem (fun{l l'} hl hl' hne e=>hne ?_) hnd;have hm:(l.map (pF q)).Perm (l'.map (pF q)):=(nS (mpL q l)).symm.trans ((e▸List.Perm.refl _:(bK (mpL q l)).Perm (bK (mpL q l'))).trans (nS (mpL q l')));obtain⟨i,hi,rfl⟩:=ah3 hl;obtain⟨j,hj,rfl⟩:=ah3 hl';have r1:=hp.ln i hi;have r2:=hp.ln j hj;rw[ahZ,ah4 hi]at r1;rw[ahZ,ah4 hj]at r2;have r1:CV c ls[i]:=r1;have r2:CV c ls[j]:=r2;have h1:=Eb (p:=pF q) (q:=pF (eF q)) (c:=c) (l:=ls[j]) (l':=ls[i].map (pF q)) (fun z hz=>(hpr z (r2.rng z hz)).2) hm;have h2:(ls[i].map (pF q)).map (pF (eF q))=ls[i]:=by
    rw[List.map_map];have:ls[i].map (pF (eF q)∘pF q)=ls[i].map id:=List.map_congr_left fun z hz=>(hpr z (r1.rng z hz)).2;rw[this,List.map_id]
   rw[h2]at h1;exact(MG (r2.pw.imp fun h=>alB h) (r1.pw.imp fun h=>alB h) h1).symm
  have hsub:∀x∈ls.map (fun l=>bK (mpL q l)),x∈ls:=fun x hx=>by
   obtain⟨l,hl,rfl⟩:=akC.1 hx;simpa using ajp.1 hk l hl
  have hin:ls.getD k' []∈ls.map (fun l=>bK (mpL q l)):=by
   refine aln fun hno=>?_;have hmem:ls.getD k' []∈ls:=cu hk';have:=JC _ (ls.erase (ls.getD k' [])) hinj fun x hx=>(alz (fun e=>hno (by first|(rw[←e];exact hx)|(rw[e];exact hx)))).2 (hsub x hx)
   rw[alA hmem,ajO]at this;omega
  obtain⟨l,hl,e⟩:=akC.1 hin;obtain⟨k,h1,rfl⟩:=ah3 hl;refine⟨k,h1,?_⟩;rw[←e,show ls.getD k []=ls[k] by rw[ahZ,ah4 h1];rfl]
  exact nS _
 ·unfold smI;cases b<;>rfl
theorem afu {c:Int} {b:Bool} {gv q:List Int} (hq:Prm gv.length q) {i:Nat} (hi:i<gv.length):(imG c b gv q).getD (q.getD i 0).toNat 0=gvX c b (gv.getD i 0):=
 yC (f:=fun i=>gvX c b (gv.getD i 0)) hq (by rw[ak2]) gv.length (ahO _) i hi
theorem Uj {c:Int} {b:Bool} {x:Int} (hx:0≤x):gvX c b x=if 0<x then vv c b x else 0:=by
 unfold gvX vv;by_cases h:0<x
 ·cases b<;>simp[h]
 ·rw[if_neg h,if_neg (by simp[h])];omega
theorem Qs {c:Int} {ls:List (List Int)} {sum:Int} {gv q:List Int} {b:Bool} (hp:bD c ls sum gv) (hq:Prm c.toNat q):Pm c (pF q) b gv (imG c b gv q):=by
 have hgl:=hp.gl;have hc:=hp.c1;refine⟨fun z hz=>?_⟩;have hq':Prm gv.length q:=by rw[show gv.length=c.toNat by omega];exact hq
 have:=afu (c:=c) (b:=b) hq' (i:=z.toNat) (by omega)
 rw[Uj (yB hp z.toNat).1]at this;exact this
theorem Y4 {c:Int} {ls:List (List Int)} {sum:Int} {gv q:List Int} {b:Bool} (hp:bD c ls sum gv) (hq:Prm c.toNat q) (hs:¬(smI c ls sum b< -999999999∨999999999<smI c ls sum b)):bD c ls (smI c ls sum b) (imG c b gv q):=by
 have hgl:=hp.gl;have hc:=hp.c1;have hl:=MJ c b gv q;have hP:=Qs (b:=b) hp hq;have hqr:=hq.qr (by omega)
 have hat:∀j:Nat,j<gv.length→∃z,(0≤z∧z<c)∧pF q z=(j:Int)∧(imG c b gv q).getD j 0=if 0<gv.getD z.toNat 0 then vv c b (gv.getD z.toNat 0)else 0:=fun j hj=>by
  obtain⟨h1,h2⟩:=hqr (j:Int) (by omega)
  have:=hP.at' _ h1;rw[h2]at this;exact⟨_,h1,h2,this⟩
 refine⟨hp.c1,hp.ll,hp.ln,by omega,by omega,fun x hx=>?_,fun i j hij hj h0 e=>?_⟩
 ·obtain⟨j,hj,rfl⟩:=(bG _ _).1 hx
  obtain⟨z,h1,h2,h3⟩:=hat j (by omega)
  rw[h3];have h4:=yB hp z.toNat;split
  ·have:=(lG (c:=c) (b:=b)).2 (show 1≤gv.getD z.toNat 0∧gv.getD z.toNat 0≤c by omega)
   omega
  ·omega
 ·obtain⟨z,h1,h2,h3⟩:=hat i (by omega)
  obtain⟨w,g1,g2,g3⟩:=hat j (by omega)
  rw[e,g3]at h3;rw[g3]at h0;by_cases hw:0<gv.getD w.toNat 0
  case neg=>rw[if_neg hw]at h0;omega
  rw[if_pos hw]at h3 h0;by_cases hz:0<gv.getD z.toNat 0
  case neg=>rw[if_neg hz]at h3;omega
  rw[if_pos hz]at h3;have h5:=mX h3;have hne:z.toNat≠w.toNat:=fun e1=>by
   have:z=w:=by omega
   rw[this,g2]at h2;omega
  rcases Nat.lt_or_ge z.toNat w.toNat with hlt|hge
  ·exact hp.gd z.toNat w.toNat hlt (by omega) hw h5.symm
  ·exact hp.gd w.toNat z.toNat (by omega) (by omega) hz h5
theorem aco {c:Int} {ls:List (List Int)} {sum:Int} {gv q:List Int} {b:Bool} (hb:eP c ls=0) (hp:bD c ls sum gv) (hq:Prm c.toNat q) (hk:kpB ls q=true) (hv:b=true→jB ls=true) (hs:¬(smI c ls sum b< -999999999∨999999999<smI c ls sum b)):
 iX c ls (smI c ls sum b) (imG c b gv q) (eF q) b=((c,ls,sum,gv),0):=by
 have hc:=hp.c1;have hgl:=hp.gl;have hsm:=hp.sm;have hp':=Y4 hp hq hs;have hS:=Ui hb hp hq hk hv;have hP:=Qs (b:=b) hp hq;have hq':=MS (by omega) hq
 have hl:=MJ c b gv q;have h1:kpB ls (eF q)=true:=Jy fun k hk'=>by
  obtain⟨k',a1,a2⟩:=hS.inv.im k hk';have:bK (mpL (eF q) (ls.getD k []))=ls.getD k' []:=MG (Xe _) ((hp.ln k' a1).pw.imp fun h=>alB h) ((nS _).trans a2.symm);rw[this];exact cu a1
 have h2:smI c ls (smI c ls sum b) b=sum:=by
  unfold smI;cases b with
  |true=>simp only[if_true];omega
  |false=>rfl
 have h3:imE c ls (smI c ls sum b) (eF q) b=0:=by
  unfold imE;rw[if_neg (by
   rintro(e|⟨e1,e2⟩)
   ·rw[h1]at e;cases e
   ·rw[hv e1]at e2;cases e2),h2,if_neg (by omega)]
 have h4:imG c b (imG c b gv q) (eF q)=gv:=by
  refine zW (n:=(imG c b gv q).length) (by rw[show(imG c b gv q).length=c.toNat by omega];exact hq') (by rw[ak2]) (by omega) fun i hi=>?_
  have hPi:=hP.inv hS hp;have:=hPi.at' (i:Int) (by omega)
  rw[show((i:Int)).toNat=i by omega]at this
  rw[Uj (yB hp' i).1,←this];unfold pF;rw[show((i:Int)).toNat=i by omega]
 unfold iX;rw[if_neg (by rw[MF hb hp'];simp),if_neg (by rw[Qr ⟨by omega,by omega⟩ hq'];simp),if_neg (by rw[h3];simp),h2,h4]
theorem agk {c:Int} {F q:List Int} {b:Bool} (hF:(F.length:Int)=c) (hq:Prm c.toNat q):apG b F q=imF c (pF (eF q)) b F:=by
 have hl:(imF c (pF (eF q)) b F).length=F.length:=by have:=MP (c:=c) (q:=pF (eF q)) (b:=b) F (by omega);omega
 refine zW (by rw[show F.length=c.toNat by omega];exact hq) (by rw[ak2]) hl fun i hi=>?_
 have h1:=hq.pr (by omega) (i:Int) (by omega)
 have h2:=oM (c:=c) (q:=pF (eF q)) (b:=b) (F:=F) h1.1;rw[h1.2,show((i:Int)).toNat=i by omega]at h2
 have e:pF q (i:Int)=q.getD i 0:=by unfold pF;rw[show((i:Int)).toNat=i by omega]
 rw[e]at h2;rw[h2];unfold vv;rw[hF]
end Go.Eng.YtcechbdgokjmgaaGreatDoor
namespace Go.Eng
open Go.RowKit
set_option linter.unusedSimpArgs false
set_option linter.unusedVariables false
end Go.Eng
namespace Go.Eng.YtcechbdgokjmgaaGreatDoor
set_option linter.unusedSimpArgs false
set_option linter.unusedVariables false
def ksM (l:List ByteArray):List (PV × PV):=l.map fun s=>(.str s,.bool true)
theorem acp (l:List ByteArray) (s:ByteArray):ksM l++[(.str s,.bool true)]=ksM (l++[s]):=by simp[ksM]
theorem Uk {s:ByteArray}:∀{l:List ByteArray},s∉l→vR s (ksM l):=by
 intro l;induction l with
 |nil=>intro _;trivial
 |cons a r ih=>
  intro h;exact⟨fun e=>h (by simp[e]),ih fun e=>h (by simp[e])⟩
theorem Xh {s:ByteArray} {K:PV→Prop}:∀{l:List ByteArray},(s∈l→K (.bool true))→(s∉l→K (.bool false))→Ae s (.bool false) false (ksM l) K:=by
 intro l;induction l with
 |nil=>intro _ h;exact h (by simp)
 |cons a r ih=>
  intro h1 h2;exact⟨fun e=>h1 (by simp[e]),fun e=>ih (fun hm=>h1 (by simp[hm])) fun hm=>h2 (by simp[e,hm])⟩
theorem kP {σ:Sg} {K:Prop} (hK:K):∀{l:List ByteArray},CG σ (ksM l) (ksM l) K:=by
 intro l;induction l with
 |nil=>exact hK
 |cons a r ih=>
  show wF σ (.str a) (.str a) (wF σ (.bool true) (.bool true) (CG σ (ksM r) (ksM r) K));unfold wF;simp only[zh];first|exact⟨⟨rfl⟩,rfl,ih⟩|exact⟨⟨rfl⟩,⟨rfl⟩,ih⟩|exact⟨⟨rfl⟩,ih⟩|(trace_state;done)
theorem Xi {σ:Sg} {K:Prop} {l l':List ByteArray} {s:ByteArray} (hK:K) (e:l'=l++[s]):CG σ (ksM l++[(.str s,.bool true)]) (ksM l') K:=by
 rw[acp,e];exact kP hK
theorem zX {σ:Sg}:∀{l:List ByteArray},mJ σ (ksM l)=some (ksM l):=by
 intro l;induction l with
 |nil=>rfl
 |cons a r ih=>
  show mJ σ ((.str a,.bool true)::ksM r)=some ((.str a,.bool true)::ksM r);simp only[mJ,ih];rfl
end Go.Eng.YtcechbdgokjmgaaGreatDoor
namespace Go.Eng.YtcechbdgokjmgaaGreatDoor
open Go.Proofs
set_option linter.unusedSimpArgs false
set_option linter.unusedVariables false
set_option maxHeartbeats 0
set_option maxRecDepth 100000
theorem FW {α:Type} {l:List α} {i:Nat} {d:α} (h:i<l.length):l.getD i d∈l:=by
 rw[ahZ,ah4 h];exact List.getElem_mem _
def stK (q:List Int):Nat→List (Nat × PV)
 |0=>[(14,.int .i64 0),(3,.rsl 1 0 0),(20,.any),(21,.any)]
 |i+1=>[(14,.int .i64 ((i:Int)+1)),(3,.rsl 9 0 (i+1)),(20,.any),(21,.any)]
def obK (q:List Int):Nat→List (Nat × AO)
 |0=>[]
 |i+1=>[(1,.cells (.pv []) true),(9,.cells (.ints .u8 (q.take (i+1))) false)]
theorem Xj (q:List Int) (h:q.length≤5000) (hr:∀x∈q,0≤x∧x≤255):aF Tryz.prog 217 [.agg [.isl (.ints .i64 q) .none,.bp false]] (.str (strOfNums q)):=by
 refine av (md:=1) (rf:=[]) mixed au aC Tryz.func217 (by rfl) (by rfl) (by rfl) ?_
 repeat'((conv=>whnf);first|intro _|apply aI|with_reducible exact vM rfl|exact⟨⟩|apply nM|apply fM)
 all_goals((try apply vM);(try simp only[vq]at*);try omega)
 ·refine .inr ⟨by omega,?_,?_⟩
  ·show((q.length:Int)+1)*1≤_;omega
  ·unfold inR;omega
 conv=>whnf
 refine aM (X:=Nat) (fun i=>i≤q.length) (stK q) (obK q) (fun i=>q.length-i) 0 ⟨aK,mixed,au,aC,aP⟩ (by rfl) (by omega) ?_ ?_
 ·repeat'((conv=>whnf);first|intro _|apply aI|with_reducible exact vM rfl|exact⟨⟩|apply nM|apply fM)
  all_goals((try apply vM);(try simp only[vq]at*);try omega)
 intro i hi;by_cases hlt:i<q.length
 ·have hx:=hr (q.getD i 0) (FW hlt)
  have e2:q.take i++[q.getD i 0]=q.take (i+1):=by
   rw[ajQ,ahZ,ah4 hlt];rfl
  cases i with
  |zero=>
   repeat'((conv=>whnf);first|intro _|apply aI|with_reducible exact vM rfl|exact⟨⟩|apply nM|apply fM)
   all_goals((try apply vM);(try simp only[vq]at*);try omega)
   all_goals(try first|exact hx.1|exact hx.2)
   refine⟨1,[(3,9)],⟨by omega,by omega⟩,?_⟩
   repeat'((conv=>whnf);first|intro _|apply aI|with_reducible exact vM rfl|exact⟨⟩|apply nM|apply fM)
   all_goals((try apply vM);(try simp only[vq]at*);try omega)
   all_goals(try exact e2)
  |succ i=>
   have e1:(q.take (i+1)).length=i+1:=by rw[aiG];omega
   have e3:akt (i+1) (aku 0 (akt (i+1) q))=q.take (i+1):=by
    rw[akv,akL (by omega)]
   repeat'((conv=>whnf);first|intro _|apply aI|with_reducible exact vM rfl|exact⟨⟩|apply nM|apply fM)
   all_goals((try apply vM);(try simp only[vq]at*);try omega)
   all_goals(try first|exact hx.1|exact hx.2|omega)
   refine⟨i+2,[(3,9)],⟨by omega,by omega⟩,?_⟩
   repeat'((conv=>whnf);first|intro _|apply aI|with_reducible exact vM rfl|exact⟨⟩|apply nM|apply fM)
   all_goals((try apply vM);(try simp only[vq]at*);try omega)
   all_goals first|exact(congrArg (·++[q.getD (i+1) 0]) e3).trans e2
 ·have e:i=q.length:=by omega
  cases i with
  |zero=>
   have:q=[]:=List.eq_nil_of_length_eq_zero e.symm;subst this
   repeat'((conv=>whnf);first|(intro hq;(try simp only[vw]at hq);try first|exact absurd hq (by decide)|exfalso;omega)|apply aI|with_reducible exact vM rfl|exact⟨⟩|apply nM|apply fM)
   all_goals((try apply vM);(try simp only[vq]at*);try omega)
   exact Sup.of rfl
  |succ i=>
   have e1:(q.take (i+1)).length=i+1:=by rw[aiG];omega
   have e3:akt (i+1) (aku 0 (akt (i+1) q))=q:=by
    rw[akv,akL (by omega),e,ajS]
   repeat'((conv=>whnf);first|(intro hq;(try simp only[vw]at hq);try first|exact absurd hq (by decide)|exfalso;omega)|apply aI|with_reducible exact vM rfl|exact⟨⟩|apply nM|apply fM)
   all_goals((try apply vM);(try simp only[vq]at*);try omega)
   all_goals(try omega)
   rw[e3];exact Sup.of rfl
def Qt:PSp:=fun xs K=>match xs with
 | [.agg [.isl (.ints .i64 q) .none,.bp b]]=>VC (b=false∧q.length≤5000∧∀x∈q,0≤x∧x≤255)∧K (.str (strOfNums q))
 |_=>False
theorem Ul:POK Tryz.prog 217 Qt:=by
 intro xs K hk;unfold Qt at hk;split at hk
 ·obtain⟨⟨rfl,h1,h2⟩,hk⟩:=hk
  exact⟨_,hk,Xj _ h1 h2⟩
 ·exact hk.elim
structure JE (ls:List (List Int)):Prop where
 len:ls.length≤1000000
 all:∀x∈ls,x.length≤5000∧∀y∈x,0≤y∧y≤255
 nd:(ls.map strOfNums).Nodup
noncomputable def ahr:CPT:=aA 217 (aB Qt) noC
theorem MU:aW Tryz.prog ahr:=aj (ak Ul) aC
theorem KS (c:Int) (ls:List (List Int)) (h:JE ls):jm Tryz.prog 186 [.agg [.int .i64 c,.isl (.rows .i64 ls) .none]] [] [.fn (.func 218) [] [.rp 0 0]] [.cells (.pv [.rm 1]) false,.map (ksM (ls.map strOfNums))]:=by
 have hl:=h.len;refine bL (md:=1) (rf:=[]) mixed au MU 0 [(2,0),(1,1)] Tryz.func186 (by rfl) (by rfl) (by rfl) ?_
 repeat'((conv=>whnf);first|intro _|apply aI|with_reducible exact vM rfl|exact⟨⟩|apply nM|apply fM)
 all_goals((try apply vM);(try simp only[vq]at*);try omega)
 conv=>whnf
 refine aM (X:=Nat) (fun i=>i≤ls.length) (fun i=>[(10,.int .i64 i)]) (fun i=>[(1,.map (ksM ((ls.take i).map strOfNums)))]) (fun i=>ls.length-i) 0 ⟨aK,mixed,au,MU,aP⟩ (by rfl) (by omega) ?_ ?_
 ·repeat'((conv=>whnf);first|intro _|apply aI|with_reducible exact vM rfl|exact⟨⟩|apply nM|apply fM)
  all_goals((try apply vM);(try simp only[vq]at*);try omega)
  all_goals trace_state
 intro i hi;by_cases hlt:i<ls.length
 ·have hx:=h.all _ (FW (d:=[]) hlt)
  have e2:(ls.take (i+1)).map strOfNums=(ls.take i).map strOfNums++[strOfNums (ls.getD i [])]:=by
   rw[ajQ,ahZ,ah4 hlt,List.map_append];rfl
  have hnk:strOfNums (ls.getD i [])∉(ls.take i).map strOfNums:=fun hm=>by
   have h1:(ls.take (i+1)).map strOfNums=(ls.map strOfNums).take (i+1):=by rw[List.map_take]
   have h2:((ls.take (i+1)).map strOfNums).Nodup:=by rw[h1];exact h.nd.sublist (List.take_sublist _ _)
   rw[e2,List.nodup_append]at h2;exact h2.2.2 _ hm _ (by simp) rfl
  repeat'((conv=>whnf);first|intro _|apply aI|with_reducible exact vM rfl|exact⟨⟩|apply nM|apply fM)
  all_goals((try apply vM);(try simp only[vq]at*);try omega)
  ·exact Uk hnk
  refine⟨i+1,[],⟨by omega,by omega⟩,?_⟩
  repeat'((conv=>whnf);first|intro _|apply aI|with_reducible exact vM rfl|exact⟨⟩|apply nM|apply fM)
  all_goals((try apply vM);(try simp only[vq]at*);try omega)
  conv=>whnf
  refine Xi ?_ e2
  repeat'((conv=>whnf);first|intro _|apply aI|with_reducible exact vM rfl|exact⟨⟩|apply nM|apply fM)
  all_goals((try apply vM);(try simp only[vq]at*);try omega)
  all_goals trace_state
 ·have e:i=ls.length:=by omega
  subst e;rw[ajS]
  repeat'((conv=>whnf);first|intro _|apply aI|with_reducible exact vM rfl|exact⟨⟩|apply nM|apply fM)
  all_goals((try apply vM);(try simp only[vq]at*);try omega)
  conv=>whnf
  trace_state
  refine kP ?_
  repeat'((conv=>whnf);first|intro _|apply aI|with_reducible exact vM rfl|exact⟨⟩|apply nM|apply fM)
  all_goals((try apply vM);(try simp only[vq]at*);try omega)
  all_goals trace_state
theorem afv:COK Tryz.prog 219 sI:=Eo (enters' Tryz.func219 (by rfl) (by rfl)) Go.Proofs.Tryz.slices_Sort_int
noncomputable def ahs:CPT:=aA 217 (kg Qt) (aA 219 sI noC)
theorem MV:aW Tryz.prog ahs:=aj (iw Ul) (aj afv aC)
def stM:Nat→List (Nat × PV)
 |0=>[(11,.int .i64 0),(6,.nils)]
 |i+1=>[(11,.int .i64 ((i:Int)+1)),(6,.rsl 7 0 (i+1))]
def obM (m:List Int):Nat→List (Nat × AO)
 |0=>[]
 |i+1=>[(7,.cells (.ints .i64 (m.take (i+1))) false)]
theorem Qu (p line:List Int) (ks:List ByteArray) (hl:1≤line.length∧line.length≤5000) (hr:∀x∈line,0≤x∧x<p.length) (hp:∀y∈p,0≤y∧y≤255) (m:List Int) (hm:m=line.map fun a=>p.getD a.toNat 0) (b:Bool) (hb:b=true↔strOfNums (bK m)∈ks):
 jm Tryz.prog 218 [.isl (.ints .i64 p) .none,.isl (.ints .i64 line) .none,.rp 0 0] [.cells (.pv [.rm 1]) false,.map (ksM ks)] [.bp b] [.cells (.pv [.rm 1]) false,.map (ksM ks)]:=by
 have hml:m.length=line.length:=by rw[hm,ajO]
 have hmr:∀x∈bK m,0≤x∧x≤255:=fun x hx=>by
  have hx:x∈m:=(List.mergeSort_perm m _).mem_iff.1 hx;rw[hm]at hx;obtain⟨a,ha,rfl⟩:=akC.1 hx;have:=hr a ha;exact hp _ (FW (by omega))
 have hat:∀i,i<line.length→m.getD i 0=p.getD (line.getD i 0).toNat 0:=fun i hi=>by
  rw[hm];simp[ahZ,hi]
 clear hm;have hsl:=jf m;refine bL (md:=1) (rf:=[21]) mixed au MV 2 [] Tryz.func218 (by rfl) (by rfl) (by rfl) ?_
 repeat'((conv=>whnf);first|intro _|apply aI|with_reducible exact vM rfl|exact⟨⟩|apply nM|apply fM)
 all_goals((try apply vM);(try simp only[vq]at*);try omega)
 conv=>whnf
 refine aM (X:=Nat) (fun i=>i≤line.length) stM (obM m) (fun i=>line.length-i) 0 ⟨aK,mixed,au,MV,aP⟩ (by rfl) (by omega) ?_ ?_
 ·repeat'((conv=>whnf);first|intro _|apply aI|with_reducible exact vM rfl|exact⟨⟩|apply nM|apply fM)
  all_goals((try apply vM);(try simp only[vq]at*);try omega)
  conv=>whnf
  refine kP ?_
  repeat'((conv=>whnf);first|intro _|apply aI|with_reducible exact vM rfl|exact⟨⟩|apply nM|apply fM)
  all_goals((try apply vM);(try simp only[vq]at*);try omega)
  all_goals trace_state
 intro i hi;by_cases hlt:i<line.length
 ·have hx:=hr (line.getD i 0) (FW hlt)
  have e2:m.take i++[p.getD (line.getD i 0).toNat 0]=m.take (i+1):=by
   rw[←hat i hlt,ajQ,ahZ,ah4 (by omega)];rfl
  cases i with
  |zero=>
   repeat'((conv=>whnf);first|intro _|apply aI|with_reducible exact vM rfl|exact⟨⟩|apply nM|apply fM)
   all_goals((try apply vM);(try simp only[vq]at*);try omega)
   all_goals(try first|exact hx.1|exact hx.2|omega|(show(_:Nat)<_;simp only[ak5];omega)|(show(_:Nat)<_;simp only[show((i:Int)+1).toNat=i+1 by omega];omega))
   refine⟨1,[(3,7)],⟨by omega,by omega⟩,?_⟩
   repeat'((conv=>whnf);first|intro _|apply aI|with_reducible exact vM rfl|exact⟨⟩|apply nM|apply fM)
   all_goals((try apply vM);(try simp only[vq]at*);try omega)
   conv=>whnf
   refine kP ?_
   repeat'((conv=>whnf);first|intro _|apply aI|with_reducible exact vM rfl|exact⟨⟩|apply nM|apply fM)
   all_goals((try apply vM);(try simp only[vq]at*);try omega)
   all_goals exact e2
  |succ i=>
   have e1:(m.take (i+1)).length=i+1:=by rw[aiG];omega
   have e3:akt (i+1) (aku 0 (akt (i+1) m))=m.take (i+1):=by
    rw[akv,akL (by omega)]
   repeat'((conv=>whnf);first|intro _|apply aI|with_reducible exact vM rfl|exact⟨⟩|apply nM|apply fM)
   all_goals((try apply vM);(try simp only[vq]at*);try omega)
   all_goals(try first|exact hx.1|exact hx.2|omega|(show(_:Nat)<_;simp only[ak5];omega)|(show(_:Nat)<_;simp only[show((i:Int)+1).toNat=i+1 by omega];omega))
   refine⟨i+2,[(3,7)],⟨by omega,by omega⟩,?_⟩
   repeat'((conv=>whnf);first|intro _|apply aI|with_reducible exact vM rfl|exact⟨⟩|apply nM|apply fM)
   all_goals((try apply vM);(try simp only[vq]at*);try omega)
   conv=>whnf
   refine kP ?_
   repeat'((conv=>whnf);first|intro _|apply aI|with_reducible exact vM rfl|exact⟨⟩|apply nM|apply fM)
   all_goals((try apply vM);(try simp only[vq]at*);try omega)
   all_goals exact(congrArg (·++[p.getD (line.getD (i+1) 0).toNat 0]) e3).trans e2
 ·have e:i=line.length:=by omega
  cases i with
  |zero=>omega
  |succ i=>
   have e1:m.take (i+1)=m:=by rw[e,←hml,ajS]
   have e5:akt (i+1-0) (aku 0 (bK (m.take (i+1))))=bK m:=by rw[e1,akv,akL (by omega)]
   have e6:(bK (m.take (i+1))).length=i+1:=by rw[e1];omega
   have e7:(m.take (i+1)).length=i+1:=by rw[e1];omega
   repeat'((conv=>whnf);first|(intro hq;(try simp only[vw]at hq);try first|exact absurd hq (by decide)|exfalso;omega)|apply aI|with_reducible exact vM rfl|exact⟨⟩|apply nM|apply fM)
   all_goals((try apply vM);(try simp only[vq]at*);try omega)
   all_goals(try first|exact e7.symm|omega|(rw[e5];exact⟨by omega,hmr⟩))
   rw[e5];conv=>whnf
   refine Xh (fun hin=>?_) fun hin=>?_
   ·have hbt:=hb.2 hin
    repeat'((conv=>whnf);first|intro _|apply aI|with_reducible exact vM rfl|exact⟨⟩|apply nM|apply fM)
    all_goals((try apply vM);(try simp only[vq]at*);try omega)
    ·exact hbt.symm
    conv=>whnf
    refine kP ?_
    repeat'((conv=>whnf);first|intro _|apply aI|with_reducible exact vM rfl|exact⟨⟩|apply nM|apply fM)
    all_goals((try apply vM);(try simp only[vq]at*);try omega)
    all_goals trace_state
   ·have hbf:b=false:=by cases hbb:b with|true=>exact absurd (hb.1 hbb) hin|false=>rfl
    repeat'((conv=>whnf);first|intro _|apply aI|with_reducible exact vM rfl|exact⟨⟩|apply nM|apply fM)
    all_goals((try apply vM);(try simp only[vq]at*);try omega)
    ·exact hbf.symm
    conv=>whnf
    refine kP ?_
    repeat'((conv=>whnf);first|intro _|apply aI|with_reducible exact vM rfl|exact⟨⟩|apply nM|apply fM)
    all_goals((try apply vM);(try simp only[vq]at*);try omega)
    all_goals trace_state
def Y5:LSp:=fun xs objs K=>match xs,objs with
 | [.agg [.int .i64 c,.isl (.rows .i64 ls) .none]],[]=>VC (JE ls)∧K [.fn (.func 218) [] [.rp 0 0]] [.cells (.pv [.rm 1]) false,.map (ksM (ls.map strOfNums))]
 |_,_=>False
theorem Xk:LOK Tryz.prog 186 Y5:=by
 intro xs objs K hk;unfold Y5 at hk;split at hk
 ·exact⟨_,_,hk.2,KS _ _ hk.1.get⟩
 ·exact hk.elim
def JF:CT:=fun args n H K=>match args with
 | [.agg [.int .i64 c,.isl (.rows .i64 ls) .none]]=>VC (JE ls)∧dV H n (iL (n+1) fun n1=>dV H n1 (K (.fn (.func 218) [] [.rp n 0]) [(n,.cells (.pv [.rm n1]) false),(n1,.map (ksM (ls.map strOfNums)))] [] [n,n1]))
 |_=>False
theorem Um:COK Tryz.prog 186 JF:=by
 intro args n H K hk;unfold JF at hk;split at hk
 ·rename_i c ls
  simp only[iM]at hk;obtain⟨hL,hk⟩:=hk;rw[cO]at hk;obtain⟨h1,hk⟩:=hk;rw[cO]at hk;obtain⟨h2,hk⟩:=hk;refine dG [] Xk _ n H K ?_;unfold eO;simp only[pE,fq,bg,zk];have e1:lI H 60 ([]++uI [PV.agg [.int .i64 c,.isl (.rows .i64 ls) .none]]) []=[]:=by
   simp[uI,acO,xU,U0,lI]
  rw[e1,aL];refine⟨rfl,?_⟩;show VC (JE ls)∧dV H n (dV H (n+1) (ifK (gY [(0,n),(1,n+1)] [(0,n),(1,n+1)]) (nW [(0,n),(1,n+1)] [n,n+1] [.cells (.pv [.rm 1]) false,.map (ksM (ls.map strOfNums))] fun sets=>AY [(0,n),(1,n+1)] [.fn (.func 218) [] [.rp 0 0]] fun v=>K v sets [] [n,n+1])));have e3:ah6 n n=true:=alC _;have e4:ah6 (n+1) n=false:=by
   cases h:ah6 (n+1) n with
   |true=>have:=aib h;omega
   |false=>rfl
  have e5:ah6 n (n+1)=false:=by
   cases h:ah6 n (n+1)with
   |true=>have:=aib h;omega
   |false=>rfl
  have e6:ah6 (n+1) (n+1)=true:=alC _;refine⟨hL,cO.2 ⟨h1,cO.2 ⟨h2,?_⟩⟩⟩;rw[aL];refine⟨?_,?_⟩
  ·simp only[gY,eqO,sgB,sgF,e3,e4,e5,e6]
   rfl
  ·have e7:j5 [(0,n),(1,n+1)] (.cells (.pv [.rm 1]) false)=some (.cells (.pv [.rm (n+1)]) false):=rfl
   have e8:j5 [(0,n),(1,n+1)] (.map (ksM (ls.map strOfNums)))=some (.map (ksM (ls.map strOfNums))):=by
    show(match mJ [(0,n),(1,n+1)] (ksM (ls.map strOfNums))with|some ds=>some (AO.map ds)|none=>none)=_
    rw[zX]
   unfold nW;rw[e7];simp only;unfold nW;rw[e8];exact hk
 ·exact hk.elim
structure Qv (p line:List Int):Prop where
 l:1≤line.length∧line.length≤5000
 r:∀x∈line,0≤x∧x<p.length
 p:∀y∈p,0≤y∧y≤255
def afw (ks:List ByteArray) (b:Bool):LSp:=fun xs objs K=>match xs,objs with
 | [.isl (.ints .i64 p) .none,.isl (.ints .i64 line) .none,.rp 0 0],[.cells (.pv [.rm 1]) false,.map es]=>VC (es=ksM ks∧Qv p line∧(b=true↔strOfNums (bK (line.map fun a=>p.getD a.toNat 0))∈ks))∧K [.bp b] [.cells (.pv [.rm 1]) false,.map (ksM ks)]
 |_,_=>False
theorem acr (ks:List ByteArray) (b:Bool):LOK Tryz.prog 218 (afw ks b):=by
 intro xs objs K hk;unfold afw at hk;split at hk
 ·obtain⟨⟨rfl,h,hb⟩,hk⟩:=hk
  exact⟨_,_,hk,Qu _ _ _ h.l h.r h.p _ rfl _ hb⟩
 ·exact hk.elim
def Qw (ks:List ByteArray):CT:=fun args n H K=>match args with
 | [.isl (.ints .i64 p) .none,.isl (.ints .i64 line) .none,.rp a 0]=>bU H a fun o=>match o with
  |.cells c fz=>match fz with
   |true=>False
   |false=>match c with
    |.pv ds=>match ds with
     | [d]=>match d with
      |.rm j=>bU H j fun o2=>match o2 with
       |.map es=>∃b:Bool,VC (es=ksM ks∧Qv p line∧(b=true↔strOfNums (bK (line.map fun a=>p.getD a.toNat 0))∈ks))∧K (.bp b) [(a,.cells (.pv [.rm j]) false),(j,.map (ksM ks))] [a,j] []
       |_=>False
      |_=>False
     |_=>False
    |_=>False
  |_=>False
 |_=>False
theorem Xl (ks:List ByteArray):COK Tryz.prog 218 (Qw ks):=by
 intro args n H K hk;unfold Qw at hk;split at hk
 ·rename_i p line a
  rw[aX]at hk;obtain⟨o,ho,hk⟩:=hk;split at hk
  ·rename_i c fz
   split at hk
   ·exact hk.elim
   ·split at hk
    ·rename_i ds
     split at hk
     ·rename_i d
      split at hk
      ·rename_i j
       rw[aX]at hk;obtain⟨o2,ho2,hk⟩:=hk;split at hk
       ·rename_i es
        obtain⟨b,⟨he,hL,hb⟩,hk⟩:=hk;subst he;have hne:a≠j:=fun e=>by subst e;rw[ho]at ho2;cases ho2
        have e3:∀n,ah6 n n=true:=fun n=>alC n;have e4:ah6 a j=false:=by
         cases h:ah6 a j with
         |true=>exact absurd (aib h) hne
         |false=>rfl
        have e5:ah6 j a=false:=by
         cases h:ah6 j a with
         |true=>exact absurd (aib h).symm hne
         |false=>rfl
        have e1:lI H 60 ([]++uI [PV.isl (.ints .i64 p) .none,.isl (.ints .i64 line) .none,.rp a 0]) []=[a,j]:=by
         show lI H 60 [a] []=[a,j];unfold lI;simp only[gT,ho];show lI H 59 [j] [a]=[a,j];unfold lI;simp only[gT,e4,e5,ho2];rfl
        refine dG [] (acr ks b) _ n H K ?_;unfold eO;simp only[pE,fq,bg,zk];rw[e1,aL];refine⟨?_,?_⟩
        ·show gY [(a,0),(j,1)] [(a,0),(j,1)]=true
         simp only[gY,eqO,sgB,sgF,e3,e4,e5];rfl
        ·have r1:sgF [(a,0),(j,1)] a=some 0:=by simp only[sgF,e3]
         have r2:sgF [(a,0),(j,1)] j=some 1:=by simp only[sgF,e3,e4]
         have f1:mI (kT [a,j] 0) [.isl (.ints .i64 p) .none,.isl (.ints .i64 line) .none,.rp a 0]=some [.isl (.ints .i64 p) .none,.isl (.ints .i64 line) .none,.rp 0 0]:=by
          show mI [(a,0),(j,1)] _=_;simp only[mI,qC,CB,r1]
         have f2:j5 (kT [a,j] 0) (.cells (.pv [.rm j]) false)=some (.cells (.pv [.rm 1]) false):=by
          show j5 [(a,0),(j,1)] _=_;simp only[j5,mI,qC,CB,r2]
         have f3:j5 (kT [a,j] 0) (.map (ksM ks))=some (.map (ksM ks)):=by
          show(match mJ _ (ksM ks)with|some ds=>some (AO.map ds)|none=>none)=_
          rw[zX]
         rw[f1];simp only;unfold xV;rw[aX];refine⟨_,ho,?_⟩;rw[f2];simp only;unfold xV;rw[aX];refine⟨_,ho2,?_⟩;rw[f3];show VC (ksM ks=ksM ks∧Qv p line∧(b=true↔strOfNums (bK (line.map fun a=>p.getD a.toNat 0))∈ks))∧(ifK (gY [(0,a),(1,j)] [(0,a),(1,j)]) (nW [(0,a),(1,j)] [a,j] [.cells (.pv [.rm 1]) false,.map (ksM ks)] fun sets=>AY [(0,a),(1,j)] [.bp b] fun v=>K v sets [a,j] []));refine⟨⟨rfl,hL,hb⟩,?_⟩;rw[aL];refine⟨?_,?_⟩
         ·simp only[gY,eqO,sgB,sgF,e3,e4,e5]
          rfl
         ·have e7:j5 [(0,a),(1,j)] (.cells (.pv [.rm 1]) false)=some (.cells (.pv [.rm j]) false):=rfl
          have e8:j5 [(0,a),(1,j)] (.map (ksM ks))=some (.map (ksM ks)):=by
           show(match mJ _ (ksM ks)with|some ds=>some (AO.map ds)|none=>none)=_
           rw[zX]
          unfold nW;rw[e7];simp only;unfold nW;rw[e8];exact hk
       ·exact hk.elim
      ·exact hk.elim
     ·exact hk.elim
    ·exact hk.elim
  ·exact hk.elim
 ·exact hk.elim
noncomputable def aht:CPT:=aA 183 (aB fC) noC
theorem acs:aW Tryz.prog aht:=aj (ak Ih) aC
theorem Un (n:Int):aF Tryz.prog 182 [.int .i64 n] (.int .i64 (gW n)):=by
 have e1:∀x:Int,(n<0∨256<n→x=3)→(¬(n<0∨256<n)→x=0)→x=gW n:=fun x h1 h2=>by
  unfold gW;by_cases h:n<0∨256<n
  ·rw[if_pos h];exact h1 h
  ·rw[if_neg h];exact h2 h
 refine av (md:=1) (rf:=[]) mixed au acs Tryz.func182 (by rfl) (by rfl) (by rfl) ?_
 repeat'((conv=>whnf);first|(intro hq;(try simp only[vw]at hq);try first|exact absurd hq (by decide)|exfalso;omega)|apply aI|with_reducible exact vM rfl|exact⟨⟩|apply nM|apply fM)
 all_goals((try apply vM);(try simp only[vq]at*);try omega)
 all_goals(refine Sup.of (congrArg (PV.int .i64) (e1 _ (fun h=>?_) fun h=>?_)))
 all_goals first|rfl|omega|(split<;>omega)|(simp only[if_true,if_false];omega)|(exfalso;omega)|skip
def Qx:PSp:=fun xs K=>match xs with
 | [.int .i64 n]=>VC (True)∧K (.int .i64 (gW n))
 |_=>False
theorem acu:POK Tryz.prog 182 Qx:=by
 intro xs K h;unfold Qx at h;split at h
 ·exact⟨_,h.2,Un _⟩
 ·exact h.elim
noncomputable def ahu:CPT:=aA 123 (aB FR) noC
theorem acv:aW Tryz.prog ahu:=aj (ak Mg) aC
theorem Uo (q:List Int) (h:q.length≤5000):aF Tryz.prog 184 [.isl (.ints .i64 q) .none] (.bp (decide (gG 5 q=0))):=by
 refine av (md:=1) (rf:=[]) mixed au acv Tryz.func184 (by rfl) (by rfl) (by rfl) ?_
 repeat'((conv=>whnf);first|(intro hq;(try simp only[vw]at hq);try first|exact absurd hq (by decide)|exfalso;omega)|apply aI|with_reducible exact vM rfl|exact⟨⟩|apply nM|apply fM)
 all_goals((try apply vM);(try simp only[vq]at*);try omega)
 all_goals first|exact h|exact Sup.of rfl|skip
def Qy:PSp:=fun xs K=>match xs with
 | [.isl (.ints .i64 q) .none]=>VC (q.length≤5000)∧K (.bp (decide (gG 5 q=0)))
 |_=>False
theorem acw:POK Tryz.prog 184 Qy:=by
 intro xs K h;unfold Qy at h;split at h
 ·exact⟨_,h.2,Uo _ h.1.get⟩
 ·exact h.elim
noncomputable def ahv:CPT:=aA 181 (aB yj) (aA 182 (aB Qx) (aA 183 (aB fC) (aA 184 (aB Qy) noC)))
theorem acy:aW Tryz.prog ahv:=aj (ak EB) (aj (ak acu) (aj (ak Ih) (aj (ak acw) aC)))
theorem acz {p:List Int} (h:p.length≤256):gG 5 p=0∨gG 5 p=14:=by
 unfold gG;rw[if_neg (by omega)]
 unfold dD;split
 ·rename_i i hi
  have:=List.find?_some hi;unfold nN at*;split
  ·exact .inr rfl
  ·exact .inl rfl
 ·exact .inl rfl
theorem Uq (q:List Int) (b:Bool) (n:Int) (h:q.length≤5000):aF Tryz.prog 139 [.agg [.isl (.ints .i64 q) .none,.bp b],.int .i64 n] (.int .i64 (iD q n)):=by
 refine av (md:=1) (rf:=[]) mixed au acy Tryz.func139 (by rfl) (by rfl) (by rfl) ?_
 repeat'((conv=>whnf);first|(intro hq;(try simp only[vw]at hq);try first|exact absurd hq (by decide)|exfalso;omega)|apply aI|with_reducible exact vM rfl|exact⟨⟩|apply nM|apply fM)
 all_goals((try apply vM);(try simp only[vq]at*);try omega)
 all_goals(try exact h)
 refine Sup.of (congrArg (PV.int .i64) ?_);unfold iD;have h3:gW n=0∨gW n=3:=by unfold gW;split<;>simp
 have h4:gW n=0→n≤256:=fun e=>by unfold gW at e;split at e<;>omega
 by_cases h1:gW n=0
 ·by_cases h2:(q.length:Int)=n
  ·have:=h4 h1
   rcases acz (p:=q) (by omega)with e|e<;>simp[aJ,h1,h2,e]
  ·simp[aJ,h1,h2]
 ·have:gW n=3:=by omega
  simp[aJ,this]
def FX:PSp:=fun xs K=>match xs with
 | [.agg [.isl (.ints .i64 q) .none,.bp b],.int .i64 n]=>VC (q.length≤5000)∧K (.int .i64 (iD q n))
 |_=>False
theorem MW:POK Tryz.prog 139 FX:=by
 intro xs K h;unfold FX at h;split at h
 ·exact⟨_,h.2,Uq _ _ _ h.1.get⟩
 ·exact h.elim
structure BdL (c:Int) (ls:List (List Int)) (q:List Int):Prop where
 lns:bO ls
 sys:fU c ls=0
 sym:iD q c=0
 c16:1≤c∧c≤16
 ln:∀i,i<ls.length→CV c (ls.getD i [])
 nd:ls.Nodup
 prm:Prm c.toNat q
theorem BdL.rng {c:Int} {ls:List (List Int)} {q:List Int} (h:BdL c ls q):∀x∈ls,∀y∈x,0≤y∧y<c:=fun x hx y hy=>by
 obtain⟨i,hi,rfl⟩:=ah3 hx;have:=(h.ln i hi).rng y (by rw[ahZ,ah4 hi];exact hy)
 exact this
theorem BdL.ky {c:Int} {ls:List (List Int)} {q:List Int} (h:BdL c ls q):JE ls:=by
 have hc:=h.c16;refine⟨h.lns.len,fun x hx=>⟨h.lns.all x hx,fun y hy=>by have:=h.rng x hx y hy;omega⟩,?_⟩
 rw[List.Nodup,ak0];refine List.Pairwise.imp_of_mem (fun{x y} hx hy hne e=>hne (key_inj (fun z hz=>?_) (fun z hz=>?_) e)) h.nd
 ·have:=h.rng x hx z hz;omega
 ·have:=h.rng y hy z hz;omega
theorem BdL.lk {c:Int} {ls:List (List Int)} {q:List Int} (h:BdL c ls q) {i:Nat} (hi:i<ls.length):Qv q (ls.getD i []):=by
 have hc:=h.c16;have hl:=h.ln i hi;have hq:=h.prm.ln;refine⟨⟨hl.ne,h.lns.at' i⟩,fun x hx=>by have:=hl.rng x hx;omega,fun y hy=>by have:=h.prm.rg y hy;omega⟩
theorem BdL.has {c:Int} {ls:List (List Int)} {q:List Int} (h:BdL c ls q) {i:Nat} (hi:i<ls.length):strOfNums (bK (mpL q (ls.getD i [])))∈ls.map strOfNums↔bK (mpL q (ls.getD i []))∈ls:=by
 have hc:=h.c16;have hl:=h.ln i hi;have hq:=h.prm.ln;rw[akC];constructor
 ·rintro⟨l,h1,h2⟩
  have:=key_inj (fun z hz=>by have:=h.rng l h1 z hz;omega) (fun z hz=>by
   have hz:=(nS _).subset hz;obtain⟨a,ha,rfl⟩:=akC.1 hz;have h3:=hl.rng a ha;have h4:=h.prm.at (i:=a.toNat) (by omega)
   omega) h2
  rw[←this];exact h1
 ·exact fun h1=>⟨_,h1,rfl⟩
noncomputable def ahw (ks:List ByteArray):CPT:=aA 139 (aB FX) (aA 153 (aB Ic) (aA 181 (aB yj) (aA 186 JF (aA 218 (Qw ks) noC))))
theorem acA (ks:List ByteArray):aW Tryz.prog (ahw ks):=aj (ak MW) (aj (ak Ie) (aj (ak EB) (aj Um (aj (Xl ks) aC))))
theorem Qz (c:Int) (ls:List (List Int)) (q:List Int) (b:Bool) (h:BdL c ls q):aF Tryz.prog 142 [.agg [.int .i64 c,.isl (.rows .i64 ls) .none],.agg [.isl (.ints .i64 q) .none,.bp b]] (.tup [.bp (kpB ls q),.int .i64 0]):=by
 have hc:=h.c16;have hq:=h.prm.ln;have hL:=h.lns;have hll:=hL.len;have hky:=h.ky;have h0:aJ [fU c ls,iD q c]=0:=by rw[h.sys,h.sym];rfl
 have hC:=acA (ls.map strOfNums);refine av (md:=1) (rf:=[]) mixed au hC Tryz.func142 (by rfl) (by rfl) (by rfl) ?_
 repeat'((conv=>whnf);first|(intro hq;(try simp only[vw]at hq);try first|exact absurd hq (by decide)|exfalso;omega)|apply aI|with_reducible exact vM rfl|exact⟨⟩|apply nM|apply fM)
 all_goals((try apply vM);(try simp only[vq]at*);try omega)
 conv=>whnf
 refine aM (X:=Nat) (fun i=>i≤ls.length∧∀j,j<i→bK (mpL q (ls.getD j []))∈ls) (fun i=>[(26,.int .i64 i)]) (fun i=>[]) (fun i=>ls.length-i) 0 ⟨aK,mixed,au,hC,aP⟩ (by rfl) ⟨by omega,fun j hj=>by omega⟩ ?_ ?_
 ·repeat'((conv=>whnf);first|intro _|apply aI|with_reducible exact vM rfl|exact⟨⟩|apply nM|apply fM)
  all_goals((try apply vM);(try simp only[vq]at*);try omega)
  conv=>whnf
  refine kP ?_
  repeat'((conv=>whnf);first|intro _|apply aI|with_reducible exact vM rfl|exact⟨⟩|apply nM|apply fM)
  all_goals((try apply vM);(try simp only[vq]at*);try omega)
  all_goals trace_state
 intro i ⟨hi,hall⟩;by_cases hlt:i<ls.length
 ·have hlk:=h.lk hlt
  have hhas:=h.has hlt;obtain⟨bb,hbb⟩:∃bb:Bool,(bb=true↔strOfNums (bK ((ls.getD i []).map fun a=>q.getD a.toNat 0))∈ls.map strOfNums):=by
   by_cases e:strOfNums (bK ((ls.getD i []).map fun a=>q.getD a.toNat 0))∈ls.map strOfNums
   ·exact⟨true,⟨fun _=>e,fun _=>rfl⟩⟩
   ·exact⟨false,⟨fun h=>by simp at h,fun h=>absurd h e⟩⟩
  repeat'((conv=>whnf);first|refine Exists.intro (bb) ?_|(intro hq;(try simp only[vw]at hq);try first|exact absurd hq (by decide)|exfalso;omega)|apply aI|with_reducible exact vM rfl|exact⟨⟩|apply nM|apply fM)
  all_goals((try apply vM);(try simp only[vq]at*);try omega)
  ·exact⟨hlk,hbb⟩
  ·rw[TW hlt (fun hm=>by have:=hbb.2 (hhas.2 hm);rw[hq]at this;cases this)]
   all_goals(refine Sup.via ?_;repeat'((conv=>whnf);first|intro _|apply aI|with_reducible exact vM rfl|exact⟨⟩|apply nM|apply fM);all_goals((try apply vM);(try simp only[vq]at*);try omega);all_goals(try(simp[CL.sub];done)))
  ·refine⟨i+1,[],⟨⟨by omega,fun j hj=>?_⟩,by omega⟩,?_⟩
   ·by_cases e:j=i
    ·rw[e];exact hhas.1 (hbb.1 hq)
    ·exact hall j (by omega)
   repeat'((conv=>whnf);first|intro _|apply aI|with_reducible exact vM rfl|exact⟨⟩|apply nM|apply fM)
   all_goals((try apply vM);(try simp only[vq]at*);try omega)
   conv=>whnf
   refine kP ?_
   repeat'((conv=>whnf);first|intro _|apply aI|with_reducible exact vM rfl|exact⟨⟩|apply nM|apply fM)
   all_goals((try apply vM);(try simp only[vq]at*);try omega)
   all_goals trace_state
 ·have e:i=ls.length:=by omega
  subst e;rw[Jy hall]
  repeat'((conv=>whnf);first|(intro hq;(try simp only[vw]at hq);try first|exact absurd hq (by decide)|exfalso;omega)|apply aI|with_reducible exact vM rfl|exact⟨⟩|apply nM|apply fM)
  all_goals((try apply vM);(try simp only[vq]at*);try omega)
  all_goals(refine Sup.via ?_;repeat'((conv=>whnf);first|intro _|apply aI|with_reducible exact vM rfl|exact⟨⟩|apply nM|apply fM);all_goals((try apply vM);(try simp only[vq]at*);try omega);all_goals(try(simp[CL.sub];done)))
def JG:PSp:=fun xs K=>match xs with
 | [.agg [.int .i64 c,.isl (.rows .i64 ls) .none],.agg [.isl (.ints .i64 q) .none,.bp b]]=>VC (BdL c ls q)∧K (.tup [.bp (kpB ls q),.int .i64 0])
 |_=>False
theorem Xm:POK Tryz.prog 142 JG:=by
 intro xs K h;unfold JG at h;split at h
 ·exact⟨_,h.2,Qz _ _ _ _ h.1.get⟩
 ·exact h.elim
theorem Ur (n:Int) (x:List Int):aF Tryz.prog 141 ([]++[.isl (.ints .i64 x) .none]++[.ip (.pv [.int .i64 n]) 0]) (.bp (decide ((x.length:Int)≠n))):=by
 refine av (md:=1) (rf:=[]) mixed au aC Tryz.func141 (by rfl) (by rfl) (by rfl) ?_
 repeat'((conv=>whnf);first|(intro hq;(try simp only[vw]at hq);try first|exact absurd hq (by decide)|exfalso;omega)|apply aI|with_reducible exact vM rfl|exact⟨⟩|apply nM|apply fM)
 all_goals((try apply vM);(try simp only[vq]at*);try omega)
 all_goals exact Sup.of rfl
theorem acB (ls:List (List Int)):ls.any (fun x=>decide ((x.length:Int)≠((ls.getD 0 []).length:Int)))=!jB ls:=by
 unfold jB;rw[List.not_all_eq_any_not];congr 1
 funext x
 rw[decide_not];congr 2;exact propext Int.natCast_inj
def Xn:LSp:=fun xs objs K=>match xs,objs with
 | [.agg [.int .i64 c,.isl (.rows .i64 ls) .none,.int .i64 sum,.isl (.ints .i64 gv) .none]],[]=>VC ((1≤gv.length∧gv.length≤1000000)∧ls.length≤5000∧∀i,i<ls.length→1≤(ls.getD i []).length∧(ls.getD i []).length≤5000)∧K [.agg [.int .i64 c,.isl (.rows .i64 ls) .none,.int .i64 sum,.rsl 0 0 gv.length]] [.cells (.ints .i64 gv) false]
 |_,_=>False
theorem acC:LOK Tryz.prog 124 Xn:=by
 intro xs objs K hk;unfold Xn at hk;split at hk
 ·exact⟨_,_,hk.2,yT _ _ _ _ hk.1.get.1 hk.1.get.2.1 hk.1.get.2.2⟩
 ·exact hk.elim
def JH (p:PSp) (u:PV):PSp:=fun xs K=>p xs (fun v=>VC (Sup v u))∧K u
theorem BX {g:FuncId} {p:PSp} (h:POK Tryz.prog g p) (u:PV):POK Tryz.prog g (JH p u):=by
 intro xs K hk;obtain⟨v,hv,hp⟩:=h _ _ hk.1;exact⟨u,hk.2,iq hp hv.get⟩
theorem tT {a b:Bool} (h:a=b):Sup (.bp a) (.bool b):=⟨fun hr=>by cases hr;subst h;exact .bool _ _⟩
theorem xH (e:Int):Sup (bI [PV.agg [.int .i64 0,.nils,.int .i64 0,.nils],.int .i64 e]) (.tup [pzT (0,[],0,[]),.int .i64 e]):=by all_goals(refine Sup.via ?_;repeat'((conv=>whnf);first|intro _|apply aI|with_reducible exact vM rfl|exact⟨⟩|apply nM|apply fM);all_goals((try apply vM);(try simp only[vq]at*);try omega);all_goals(try(simp[CL.sub];done)))
def Xo:PSp:=fun xs K=>match xs with
 | [.isl (.rows .i64 l) .none,.fn (.func f) [] [.ip (.pv [.int .i64 n]) 0]]=>VC (f=141∧l.length≤2000000)∧K (.bp (l.any fun x=>decide ((x.length:Int)≠n)))
 |_=>False
theorem afx:POK Tryz.prog 140 Xo:=by
 intro xs K hk;unfold Xo at hk;split at hk
 ·obtain⟨⟨rfl,h1⟩,hk⟩:=hk
  exact⟨_,hk,EA _ h1 141 [] _ rfl rfl _ fun x _=>Ur _ x⟩
 ·exact hk.elim
noncomputable def xI (w sy:Int) (lv kb:Bool):CPT:=aA 22 (aB (JH mM (.int .i64 w))) (aA 88 (aB jJ) (aA 89 (aB fC) (aA 124 (eO [] Xn) (aA 139 (aB (JH FX (.int .i64 sy))) (aA 140 (aB (JH Xo (.bool lv))) (aA 142 (aB (JH JG (.tup [.bool kb,.int .i64 0]))) noC))))))
theorem nT (w sy:Int) (lv kb:Bool):aW Tryz.prog (xI w sy lv kb):=aj (ak (BX lT (.int .i64 w))) (aj (ak jh) (aj (ak jr) (aj (dG [] acC) (aj (ak (BX MW (.int .i64 sy))) (aj (ak (BX afx (.bool lv))) (aj (ak (BX Xm (.tup [.bool kb,.int .i64 0]))) aC))))))
section
variable {c:Int} {ls:List (List Int)} {sum:Int} {gv q:List Int}
theorem agl (hL:bO ls) (hg:gv.length≤5000) (b:Bool) {w:Int} (hw:pzE c ls sum gv=w) (h0:w≠0):aF Tryz.prog 79 [pzV c ls sum gv,.agg [.isl (.ints .i64 q) .none,.bp b]] (.tup [pzT (0,[],0,[]),.int .i64 w]):=by
 refine bR (md:=1) (rf:=[]) mixed au (nT w 0 true true) Tryz.func79 (by rfl) (by rfl) (by rfl) ?_
 unfold xI
 repeat'((conv=>whnf);first|(intro hq;(try simp only[vw]at hq);try first|exact absurd hq (by decide)|exfalso;omega)|apply aI|with_reducible exact vM rfl|exact⟨⟩|apply nM|apply fM)
 all_goals((try apply vM);(try simp only[vq]at*);try omega)
 all_goals first|exact⟨hL,hg⟩|exact Sup.of (by rw[hw])|exact xH w|(exfalso;omega)|skip
theorem agm (hL:bO ls) (hg:gv.length≤5000) (b:Bool) (hw:pzE c ls sum gv=0) (hq5:q.length≤5000) {w:Int} (hs:iD q c=w) (h0:w≠0):aF Tryz.prog 79 [pzV c ls sum gv,.agg [.isl (.ints .i64 q) .none,.bp b]] (.tup [pzT (0,[],0,[]),.int .i64 w]):=by
 refine bR (md:=1) (rf:=[]) mixed au (nT 0 w true true) Tryz.func79 (by rfl) (by rfl) (by rfl) ?_
 unfold xI
 repeat'((conv=>whnf);first|(intro hq;(try simp only[vw]at hq);try first|exact absurd hq (by decide)|exfalso;omega)|apply aI|with_reducible exact vM rfl|exact⟨⟩|apply nM|apply fM)
 all_goals((try apply vM);(try simp only[vq]at*);try omega)
 all_goals first|exact⟨hL,hg⟩|exact hq5|exact Sup.of (by rw[hw])|exact Sup.of (by rw[hs])|exact xH w|(exfalso;omega)|skip
structure ImD (c:Int) (ls:List (List Int)) (sum:Int) (gv q:List Int):Prop where
 L:bO ls
 w:pzE c ls sum gv=0
 s:iD q c=0
 p:bD c ls sum gv
 B:BdL c ls q
 q:Prm gv.length q
theorem xJ (ls:List (List Int)):(ls.any fun x=>decide ((x.length:Int)≠((ls.getD (akf 0) []).length:Int)))=!jB ls:=acB ls
theorem tV {a b:Bool} {p:PV} (h:a=b):Sup (.tup [.bp a,p]) (.tup [.bool b,p]):=yw rfl fun i hi=>by
 obtain rfl|rfl:i=0∨i=1:=by simp at hi;omega
 ·exact tT h
 ·exact dN _
theorem ahx (h:ImD c ls sum gv q) (b:Bool) (hkb:kpB ls q=false):aF Tryz.prog 79 [pzV c ls sum gv,.agg [.isl (.ints .i64 q) .none,.bp b]] (.tup [pzT (0,[],0,[]),.int .i64 7]):=by
 have hc:=h.p.c1;have hll:=h.p.ll;have hgl:=h.p.gl;have hql:=h.q.ln;have hsm:=h.p.sm;have hg5:gv.length≤5000:=by omega
 have hq5:q.length≤5000:=by omega
 have hl2:ls.length≤2000000:=by omega
 have hln:=(h.p.ln 0 (by omega)).len
 obtain⟨lv,hlv⟩:∃lv,(!jB ls)=lv:=⟨_,rfl⟩;refine bR (md:=1) (rf:=[]) mixed au (nT 0 0 lv false) Tryz.func79 (by rfl) (by rfl) (by rfl) ?_
 unfold xI
 repeat'((conv=>whnf);first|(intro hq;(try simp only[vw]at hq);try first|exact absurd hq (by decide)|exfalso;omega)|apply aI|with_reducible exact vM rfl|exact⟨⟩|apply nM|apply fM)
 all_goals((try apply vM);(try simp only[vq]at*);try omega)
 all_goals(try first|exact⟨h.L,hg5⟩|exact hq5|exact Sup.of (by rw[h.w])|exact Sup.of (by rw[h.s])|exact hl2|exact h.B|exact tV hkb|exact tT ((xJ ls).trans hlv)|exact hcy|omega)
 all_goals exact xH 7
theorem ahy (h:ImD c ls sum gv q) (hkb:kpB ls q=true) (hlv0:jB ls=false):aF Tryz.prog 79 [pzV c ls sum gv,.agg [.isl (.ints .i64 q) .none,.bp true]] (.tup [pzT (0,[],0,[]),.int .i64 7]):=by
 have hc:=h.p.c1;have hll:=h.p.ll;have hgl:=h.p.gl;have hql:=h.q.ln;have hsm:=h.p.sm;have hg5:gv.length≤5000:=by omega
 have hq5:q.length≤5000:=by omega
 have hl2:ls.length≤2000000:=by omega
 have hln:=(h.p.ln 0 (by omega)).len
 have hlv:(!jB ls)=true:=by rw[hlv0];rfl
 refine bR (md:=1) (rf:=[]) mixed au (nT 0 0 true true) Tryz.func79 (by rfl) (by rfl) (by rfl) ?_
 unfold xI
 repeat'((conv=>whnf);first|(intro hq;(try simp only[vw]at hq);try first|exact absurd hq (by decide)|exfalso;omega)|apply aI|with_reducible exact vM rfl|exact⟨⟩|apply nM|apply fM)
 all_goals((try apply vM);(try simp only[vq]at*);try omega)
 all_goals(try first|exact⟨h.L,hg5⟩|exact hq5|exact Sup.of (by rw[h.w])|exact Sup.of (by rw[h.s])|exact hl2|exact h.B|exact tV hkb|exact tT ((xJ ls).trans hlv)|exact hcy|omega)
 all_goals exact xH 7
theorem ahz (h:ImD c ls sum gv q) (hkb:kpB ls q=true) (hlv0:jB ls=true) (hs:((ls.getD 0 []).length:Int)*(c+1)-sum< -999999999∨999999999<((ls.getD 0 []).length:Int)*(c+1)-sum):aF Tryz.prog 79 [pzV c ls sum gv,.agg [.isl (.ints .i64 q) .none,.bp true]] (.tup [pzT (0,[],0,[]),.int .i64 3]):=by
 have hc:=h.p.c1;have hll:=h.p.ll;have hgl:=h.p.gl;have hql:=h.q.ln;have hsm:=h.p.sm;have hg5:gv.length≤5000:=by omega
 have hq5:q.length≤5000:=by omega
 have hl2:ls.length≤2000000:=by omega
 have hln:=(h.p.ln 0 (by omega)).len
 have hcy:(1≤gv.length∧gv.length≤1000000)∧ls.length≤5000∧∀i,i<ls.length→1≤(ls.getD i []).length∧(ls.getD i []).length≤5000:=⟨by omega,by omega,fun i hi=>by have:=h.p.ln i hi;exact⟨this.ne,h.L.at' i⟩⟩
 have hM:0≤((ls.getD 0 []).length:Int)*(c+1)∧((ls.getD 0 []).length:Int)*(c+1)≤272:=by
  have h1:((ls.getD 0 []).length:Int)*(c+1)≤16*17:=alD (by omega) (by omega) (by omega) (by omega)
  have h2:0≤((ls.getD 0 []).length:Int)*(c+1):=alE (by omega) (by omega)
  omega
 have hM':0≤((ls.getD (akf 0) []).length:Int)*(c+1)∧((ls.getD (akf 0) []).length:Int)*(c+1)≤272:=hM;have hs':((ls.getD (akf 0) []).length:Int)*(c+1)-sum< -999999999∨999999999<((ls.getD (akf 0) []).length:Int)*(c+1)-sum:=hs;have hlv:(!jB ls)=false:=by rw[hlv0];rfl
 refine bR (md:=1) (rf:=[]) mixed au (nT 0 0 false true) Tryz.func79 (by rfl) (by rfl) (by rfl) ?_
 unfold xI
 repeat'((conv=>whnf);first|(intro hq;(try simp only[vw]at hq);try first|exact absurd hq (by decide)|exfalso;omega)|apply aI|with_reducible exact vM rfl|exact⟨⟩|apply nM|apply fM)
 all_goals((try apply vM);(try simp only[vq]at*);try omega)
 all_goals(try first|exact⟨h.L,hg5⟩|exact hq5|exact Sup.of (by rw[h.w])|exact Sup.of (by rw[h.s])|exact hl2|exact h.B|exact tV hkb|exact tT ((xJ ls).trans hlv)|exact hcy|omega)
 all_goals exact xH 3
end
end Go.Eng.YtcechbdgokjmgaaGreatDoor
namespace Go.Eng
open Go.RowKit
set_option linter.unusedSimpArgs false
set_option linter.unusedVariables false
def afy (f:Nat→Bool):Nat→Env→Env
 |_,[]=>[]
 |i,v::r=>(match f i with|true=>.any|false=>v)::afy f (i+1) r
def stX (c:Code) (f:Nat→Bool) (env:Env) (us:List (Nat × PV)):Env:=UY (afy f 0 (UW 0 env (dstsOf c))) us
def btw (a b i:Nat):Bool:=match ah7 a i with|true=>ah7 i b|false=>false
section
variable {P:Program} {r:Option Nat} {τ:TypeId→Option TE} {B:Imm→World→Prop} {p:Nat}
theorem zY {X:Type} (f:Nat→Bool) (I:X→Prop) (us:X→List (Nat × PV)) (hs:X→List (Nat × AO)) (μ:X→Nat) (x0:X) {md rf CP YP} (W:Walk P r B τ CP YP)
 {c:Code} {n:Nat} {Q:Exit→Env→Hp→Prop} {env:Env} {H:Hp} (hok:dL c=true) (hI:I x0)
 (h0:fD (hs x0) H fun H1=>bN (stX c f env (us x0)) fun env1=>fK (jZ [] H 0 H1) fun σ=>mH σ p env H env1 H1 Ok)
 (hb:∀x,I x→fD (hs x) H fun H1=>bN (stX c f env (us x)) fun env1=>ev P r B p τ md rf CP YP c n env1 H1 fun e env' H' _=>match e with
  |.normal=>Nx (∃(x':X) (extra:Sg),(I x'∧μ x'<μ x)∧fD (hs x') H fun H1=>bN (stX c f env (us x')) fun env1=>fK (jZ extra H' 0 H1) fun σ=>mH σ p env' H' env1 H1 Ok)
  |e=>Q e env' H'):Lp md rf CP YP n (AW P r B p (.loop c) Q env H):=by
 refine⟨Cz (X:={x:X // I x}) (fun x=>(stX c f env (us x.1),aZ H (hs x.1))) (fun x=>μ x.1) ⟨x0,hI⟩ ?_ fun x=>?_⟩
 ·simp only[fI,bg,fq]at h0
  exact(gy h0).2
 ·have h:=hb x.1 x.2
  simp only[fI,bg,fq]at h;refine(iB W.hB W.hm W.hτ W.hC W.hY c hok _ _ _ _ h).mono ?_
  rintro e env' H' ⟨_,h⟩
  cases e with
  |normal=>
   obtain⟨x',extra,⟨h0,h1⟩,h2⟩:=h.get;exact⟨⟨x',h0⟩,h1,(gy h2).2⟩
  |_=>exact h
end
end Go.Eng
namespace Go.Eng.YtcechbdgokjmgaaGreatDoor
open Go.Proofs
set_option linter.unusedSimpArgs false
set_option linter.unusedVariables false
set_option maxHeartbeats 0
set_option maxRecDepth 100000
section
variable {c:Int} {ls:List (List Int)} {sum:Int} {gv q:List Int}
theorem ahA (h:ImD c ls sum gv q) (hkb:kpB ls q=true):aF Tryz.prog 79 [pzV c ls sum gv,.agg [.isl (.ints .i64 q) .none,.bp false]] (.tup [pzT (c,ls,sum,imG c false gv q),.int .i64 0]):=by
 have hc:=h.p.c1;have hll:=h.p.ll;have hgl:=h.p.gl;have hql:=h.q.ln;have hsm:=h.p.sm;have hg5:gv.length≤5000:=by omega
 have hq5:q.length≤5000:=by omega
 have hl2:ls.length≤2000000:=by omega
 have hln:=(h.p.ln 0 (by omega)).len
 have hcy:(1≤gv.length∧gv.length≤1000000)∧ls.length≤5000∧∀i,i<ls.length→1≤(ls.getD i []).length∧(ls.getD i []).length≤5000:=⟨by omega,by omega,fun i hi=>by have:=h.p.ln i hi;exact⟨this.ne,h.L.at' i⟩⟩
 obtain⟨lv,hlv⟩:∃lv,(!jB ls)=lv:=⟨_,rfl⟩;have hC:=nT 0 0 lv true;refine bR (md:=1) (rf:=[]) mixed au hC Tryz.func79 (by rfl) (by rfl) (by rfl) ?_
 unfold xI
 repeat'((conv=>whnf);first|(intro hq;(try simp only[vw]at hq);try first|exact absurd hq (by decide)|exfalso;omega)|apply aI|with_reducible exact vM rfl|exact⟨⟩|apply nM|apply fM)
 all_goals((try apply vM);(try simp only[vq]at*);try omega)
 all_goals(try first|exact⟨h.L,hg5⟩|exact hq5|exact Sup.of (by rw[h.w])|exact Sup.of (by rw[h.s])|exact hl2|exact h.B|exact tV hkb|exact tT ((xJ ls).trans hlv)|exact hcy|omega)
 obtain⟨Z,hZ⟩:∃Z:Nat→List Int,∀i,Z i=lV (fun i=>gvX c false (gv.getD i 0)) q i gv:=⟨_,fun _=>rfl⟩;have hZ0:Z 0=gv:=hZ 0;conv=>whnf
 refine zY (X:=Nat) (fun k=>btw 7 13 k||btw 17 88 k) (fun i=>i≤gv.length) (fun i=>[(92,.int .i64 i)]) (fun i=>[(29,.cells (.ints .i64 (Z i)) false)]) (fun i=>gv.length-i) 0 ⟨aK,mixed,au,hC,aP⟩ (by rfl) (by omega) ?_ ?_
 ·repeat'((conv=>whnf);first|intro _|apply aI|with_reducible exact vM rfl|exact⟨⟩|apply nM|apply fM)
  all_goals((try apply vM);(try simp only[vq]at*);try omega)
  all_goals(rw[hZ0])
 intro i hi;have hGl:(Z i).length=gv.length:=by rw[hZ,jC]
 by_cases hlt:i<gv.length
 ·have hx:=h.q.at hlt
  have hg0:=h.p.gr (gv.getD i 0) (cu hlt);have hn:Z (i+1)=(Z i).set (q.getD i 0).toNat (gvX c false (gv.getD i 0)):=by rw[hZ,hZ,l9]
  by_cases hpos:0<gv.getD i 0
  ·have f1:gvX c false (gv.getD i 0)=gv.getD i 0:=by unfold gvX;first|rw[if_pos ⟨hpos,rfl⟩]|rw[if_neg (by simp)]
   repeat'((conv=>whnf);first|(intro hq;(try simp only[vw]at hq);try first|exact absurd hq (by decide)|exfalso;omega)|apply aI|with_reducible exact vM rfl|exact⟨⟩|apply nM|apply fM)
   all_goals((try apply vM);(try simp only[vq]at*);try omega)
   all_goals(try omega)
   refine⟨i+1,[],⟨by omega,by omega⟩,?_⟩
   rw[hn,f1]
   repeat'((conv=>whnf);first|intro _|apply aI|with_reducible exact vM rfl|exact⟨⟩|apply nM|apply fM)
   all_goals((try apply vM);(try simp only[vq]at*);try omega)
  ·have f2:gvX c false (gv.getD i 0)=gv.getD i 0:=by unfold gvX;rw[if_neg (fun e=>hpos e.1)]
   repeat'((conv=>whnf);first|(intro hq;(try simp only[vw]at hq);try first|exact absurd hq (by decide)|exfalso;omega)|apply aI|with_reducible exact vM rfl|exact⟨⟩|apply nM|apply fM)
   all_goals((try apply vM);(try simp only[vq]at*);try omega)
   all_goals(try omega)
   refine⟨i+1,[],⟨by omega,by omega⟩,?_⟩
   rw[hn,f2]
   repeat'((conv=>whnf);first|intro _|apply aI|with_reducible exact vM rfl|exact⟨⟩|apply nM|apply fM)
   all_goals((try apply vM);(try simp only[vq]at*);try omega)
 ·have e:i=gv.length:=by omega
  subst e;have hG2:imG c false gv q=Z gv.length:=by rw[hZ];exact MH h.q (by rw[ak2]) rfl
  rw[hG2];have s2:(CL.ints .i64 (Z gv.length)).sub 0 gv.length=.ints .i64 (Z gv.length):=congrArg (CL.ints .i64) (dA (by omega))
  repeat'((conv=>whnf);first|(intro hq;(try simp only[vw]at hq);try first|exact absurd hq (by decide)|exfalso;omega)|apply aI|with_reducible exact vM rfl|exact⟨⟩|apply nM|apply fM)
  all_goals((try apply vM);(try simp only[vq]at*);try omega)
  all_goals(try rw[s2])
  all_goals first|exact Sup.of rfl|skip
theorem ahB (h:ImD c ls sum gv q) (hkb:kpB ls q=true) (hlv0:jB ls=true) (S:Int) (hS:((ls.getD 0 []).length:Int)*(c+1)-sum=S) (hs: -999999999≤S∧S≤999999999):aF Tryz.prog 79 [pzV c ls sum gv,.agg [.isl (.ints .i64 q) .none,.bp true]] (.tup [pzT (c,ls,S,imG c true gv q),.int .i64 0]):=by
 have hc:=h.p.c1;have hll:=h.p.ll;have hgl:=h.p.gl;have hql:=h.q.ln;have hsm:=h.p.sm;have hg5:gv.length≤5000:=by omega
 have hq5:q.length≤5000:=by omega
 have hl2:ls.length≤2000000:=by omega
 have hln:=(h.p.ln 0 (by omega)).len
 have hcy:(1≤gv.length∧gv.length≤1000000)∧ls.length≤5000∧∀i,i<ls.length→1≤(ls.getD i []).length∧(ls.getD i []).length≤5000:=⟨by omega,by omega,fun i hi=>by have:=h.p.ln i hi;exact⟨this.ne,h.L.at' i⟩⟩
 have hM:0≤((ls.getD 0 []).length:Int)*(c+1)∧((ls.getD 0 []).length:Int)*(c+1)≤272:=by
  have h1:((ls.getD 0 []).length:Int)*(c+1)≤16*17:=alD (by omega) (by omega) (by omega) (by omega)
  have h2:0≤((ls.getD 0 []).length:Int)*(c+1):=alE (by omega) (by omega)
  omega
 have hM':0≤((ls.getD (akf 0) []).length:Int)*(c+1)∧((ls.getD (akf 0) []).length:Int)*(c+1)≤272:=hM;have hlv:(!jB ls)=false:=by rw[hlv0];rfl
 have hS':((ls.getD (akf 0) []).length:Int)*(c+1)-sum=S:=hS;have hC:=nT 0 0 false true;refine bR (md:=1) (rf:=[]) mixed au hC Tryz.func79 (by rfl) (by rfl) (by rfl) ?_
 unfold xI
 repeat'((conv=>whnf);first|(intro hq;(try simp only[vw]at hq);try first|exact absurd hq (by decide)|exfalso;omega)|apply aI|with_reducible exact vM rfl|exact⟨⟩|apply nM|apply fM)
 all_goals((try apply vM);(try simp only[vq]at*);try omega)
 all_goals(try first|exact⟨h.L,hg5⟩|exact hq5|exact Sup.of (by rw[h.w])|exact Sup.of (by rw[h.s])|exact hl2|exact h.B|exact tV hkb|exact tT ((xJ ls).trans hlv)|exact hcy|omega)
 rw[hS'];obtain⟨Z,hZ⟩:∃Z:Nat→List Int,∀i,Z i=lV (fun i=>gvX c true (gv.getD i 0)) q i gv:=⟨_,fun _=>rfl⟩;have hZ0:Z 0=gv:=hZ 0;conv=>whnf
 refine zY (X:=Nat) (fun k=>btw 7 13 k||btw 17 88 k) (fun i=>i≤gv.length) (fun i=>[(92,.int .i64 i)]) (fun i=>[(29,.cells (.ints .i64 (Z i)) false)]) (fun i=>gv.length-i) 0 ⟨aK,mixed,au,hC,aP⟩ (by rfl) (by omega) ?_ ?_
 ·repeat'((conv=>whnf);first|intro _|apply aI|with_reducible exact vM rfl|exact⟨⟩|apply nM|apply fM)
  all_goals((try apply vM);(try simp only[vq]at*);try omega)
  all_goals(rw[hZ0])
 intro i hi;have hGl:(Z i).length=gv.length:=by rw[hZ,jC]
 by_cases hlt:i<gv.length
 ·have hx:=h.q.at hlt
  have hg0:=h.p.gr (gv.getD i 0) (cu hlt);have hn:Z (i+1)=(Z i).set (q.getD i 0).toNat (gvX c true (gv.getD i 0)):=by rw[hZ,hZ,l9]
  by_cases hpos:0<gv.getD i 0
  ·have f1:gvX c true (gv.getD i 0)=c+1-gv.getD i 0:=by unfold gvX;first|rw[if_pos ⟨hpos,rfl⟩]|rw[if_neg (by simp)]
   repeat'((conv=>whnf);first|(intro hq;(try simp only[vw]at hq);try first|exact absurd hq (by decide)|exfalso;omega)|apply aI|with_reducible exact vM rfl|exact⟨⟩|apply nM|apply fM)
   all_goals((try apply vM);(try simp only[vq]at*);try omega)
   all_goals(try omega)
   refine⟨i+1,[],⟨by omega,by omega⟩,?_⟩
   rw[hn,f1]
   repeat'((conv=>whnf);first|intro _|apply aI|with_reducible exact vM rfl|exact⟨⟩|apply nM|apply fM)
   all_goals((try apply vM);(try simp only[vq]at*);try omega)
  ·have f2:gvX c true (gv.getD i 0)=gv.getD i 0:=by unfold gvX;rw[if_neg (fun e=>hpos e.1)]
   repeat'((conv=>whnf);first|(intro hq;(try simp only[vw]at hq);try first|exact absurd hq (by decide)|exfalso;omega)|apply aI|with_reducible exact vM rfl|exact⟨⟩|apply nM|apply fM)
   all_goals((try apply vM);(try simp only[vq]at*);try omega)
   all_goals(try omega)
   refine⟨i+1,[],⟨by omega,by omega⟩,?_⟩
   rw[hn,f2]
   repeat'((conv=>whnf);first|intro _|apply aI|with_reducible exact vM rfl|exact⟨⟩|apply nM|apply fM)
   all_goals((try apply vM);(try simp only[vq]at*);try omega)
 ·have e:i=gv.length:=by omega
  subst e;have hG2:imG c true gv q=Z gv.length:=by rw[hZ];exact MH h.q (by rw[ak2]) rfl
  rw[hG2];have s2:(CL.ints .i64 (Z gv.length)).sub 0 gv.length=.ints .i64 (Z gv.length):=congrArg (CL.ints .i64) (dA (by omega))
  repeat'((conv=>whnf);first|(intro hq;(try simp only[vw]at hq);try first|exact absurd hq (by decide)|exfalso;omega)|apply aI|with_reducible exact vM rfl|exact⟨⟩|apply nM|apply fM)
  all_goals((try apply vM);(try simp only[vq]at*);try omega)
  all_goals(try rw[s2])
  all_goals first|exact Sup.of rfl|skip
end
theorem BZ (c:Int) (ls:List (List Int)) (sum:Int) (gv q:List Int) (b:Bool) (hL:bO ls) (hg:gv.length≤5000) (hq5:q.length≤5000):aF Tryz.prog 79 [pzV c ls sum gv,.agg [.isl (.ints .i64 q) .none,.bp b]] (.tup [pzT (iX c ls sum gv q b).1,.int .i64 (iX c ls sum gv q b).2]):=by
 by_cases hw:pzE c ls sum gv=0
 case neg=>
  have e:iX c ls sum gv q b=((0,[],0,[]),pzE c ls sum gv):=if_pos hw;rw[e];exact agl hL hg b rfl hw
 by_cases hsy:iD q c=0
 case neg=>
  have e:iX c ls sum gv q b=((0,[],0,[]),iD q c):=by unfold iX;rw[if_neg (by rw[hw];simp),if_pos hsy]
  rw[e];exact agm hL hg b hw hq5 rfl hsy
 have hp:=bD.of hw;have hc:=hp.c1;have hgl:=hp.gl;have hsm:=hp.sm;obtain⟨hq,_,_,_⟩:=Jz hsy;have hbr:=Ub hw;have h:ImD c ls sum gv q:=⟨hL,hw,hsy,hp,⟨hL,MI hbr,hsy,hc,hp.ln,Ua hbr,hq⟩,by rw[show gv.length=c.toNat by omega];exact hq⟩
 have hR:iX c ls sum gv q b=if imE c ls sum q b≠0 then((0,[],0,[]),imE c ls sum q b)else((c,ls,smI c ls sum b,imG c b gv q),0):=by unfold iX;rw[if_neg (by rw[hw];simp),if_neg (by rw[hsy];simp)]
 have hbad:∀e,imE c ls sum q b=e→e≠0→iX c ls sum gv q b=((0,[],0,[]),e):=fun e h1 h2=>by rw[hR,if_pos (by rw[h1];exact h2),h1]
 have hgood:imE c ls sum q b=0→iX c ls sum gv q b=((c,ls,smI c ls sum b,imG c b gv q),0):=fun h1=>by rw[hR,if_neg (by rw[h1];simp)]
 cases hkb:kpB ls q with
 |false=>
  rw[hbad 7 (by unfold imE;rw[if_pos (.inl hkb)]) (by decide)]
  exact ahx h b hkb
 |true=>
 cases b with
 |false=>
  have hs:smI c ls sum false=sum:=rfl;rw[hgood (by unfold imE;rw[if_neg (by rw[hkb];simp),hs,if_neg (by omega)]),hs]
  exact ahA h hkb
 |true=>
 cases hlv:jB ls with
 |false=>
  rw[hbad 7 (by unfold imE;rw[if_pos (.inr ⟨rfl,hlv⟩)]) (by decide)]
  exact ahy h hkb hlv
 |true=>
 have hs:smI c ls sum true=((ls.getD 0 []).length:Int)*(c+1)-sum:=rfl;by_cases ho:((ls.getD 0 []).length:Int)*(c+1)-sum< -999999999∨999999999<((ls.getD 0 []).length:Int)*(c+1)-sum
 ·rw[hbad 3 (by unfold imE;rw[if_neg (by rw[hkb,hlv];simp),hs,if_pos ho]) (by decide)]
  exact ahz h hkb hlv ho
 ·rw[hgood (by unfold imE;rw[if_neg (by rw[hkb,hlv];simp),hs,if_neg ho]),hs]
  exact ahB h hkb hlv _ rfl (by omega)
def Xp:PSp:=fun xs K=>match xs with
 | [.agg [.int .i64 c,.isl (.rows .i64 ls) .none,.int .i64 sum,.isl (.ints .i64 gv) .none],.agg [.isl (.ints .i64 q) .none,.bp b]]=>VC (bO ls∧gv.length≤5000∧q.length≤5000)∧K (.tup [pzT (iX c ls sum gv q b).1,.int .i64 (iX c ls sum gv q b).2])
 |_=>False
theorem afz:POK Tryz.prog 79 Xp:=by
 intro xs K h;unfold Xp at h;split at h
 ·exact⟨_,h.2,BZ _ _ _ _ _ _ h.1.get.1 h.1.get.2.1 h.1.get.2.2⟩
 ·exact h.elim
structure ImC (c:Int) (ls:List (List Int)) (sum:Int) (gv q:List Int):Prop where
 hc:1≤c∧c≤16
 hll:1≤ls.length∧ls.length≤128
 hgl:gv.length=c.toNat
 hsm: -999999999≤sum∧sum≤999999999
 hln:(ls.getD 0 []).length≤16
 hk:ls.length≤1000000∧∀i,i<ls.length→(ls.getD i []).length≤5000∧∀x∈ls.getD i [],0≤x∧x<q.length
 hg:∀x∈gv,0≤x∧x≤c
 hq:Prm gv.length q
theorem hmul {c:Int} {ls:List (List Int)} (hc:1≤c∧c≤16) (hln:(ls.getD 0 []).length≤16):0≤((ls.getD 0 []).length:Int)*(c+1)∧((ls.getD 0 []).length:Int)*(c+1)≤272:=by
 have h1:((ls.getD 0 []).length:Int)*(c+1)≤16*17:=alD (by omega) (by omega) (by omega) (by omega)
 have h2:0≤((ls.getD 0 []).length:Int)*(c+1):=alE (by omega) (by omega)
 omega
section
variable {c:Int} {ls:List (List Int)} {sum:Int} {gv q:List Int}
end
theorem QA (q:List Int) (h:Prm q.length q) (hl:q.length≤5000):aF Tryz.prog 146 [.isl (.ints .i64 q) .none] (.isl (.ints .i64 (eF q)) .none):=by
 refine av (md:=1) (rf:=[]) mixed au aC Tryz.func146 (by rfl) (by rfl) (by rfl) ?_
 repeat'((conv=>whnf);first|(intro hq;(try simp only[vw]at hq);try first|exact absurd hq (by decide)|exfalso;omega)|apply aI|with_reducible exact vM rfl|exact⟨⟩|apply nM|apply fM)
 all_goals((try apply vM);(try simp only[vq]at*);try omega)
 all_goals(try exact .inl trivial)
 obtain⟨Z,hZ⟩:∃Z:Nat→List Int,∀i,Z i=lV (fun i=>(i:Int)) q i (ah9 q.length 0):=⟨_,fun _=>rfl⟩;have hZ0:Z 0=ah9 q.length 0:=hZ 0;conv=>whnf
 refine aM (X:=Nat) (fun i=>i≤q.length) (fun i=>[(4,.int .i64 i)]) (fun i=>[(0,.cells (.ints .i64 (Z i)) false)]) (fun i=>q.length-i) 0 ⟨aK,mixed,au,aC,aP⟩ (by rfl) (by omega) ?_ ?_
 ·repeat'((conv=>whnf);first|intro _|apply aI|with_reducible exact vM rfl|exact⟨⟩|apply nM|apply fM)
  all_goals((try apply vM);(try simp only[vq]at*);try omega)
  all_goals(rw[hZ0])
 intro i hi;have hGl:(Z i).length=q.length:=by rw[hZ,jC,ak2]
 by_cases hlt:i<q.length
 ·have hx:=h.at hlt
  have hn:Z (i+1)=(Z i).set (q.getD i 0).toNat (i:Int):=by rw[hZ,hZ,l9]
  repeat'((conv=>whnf);first|(intro hq;(try simp only[vw]at hq);try first|exact absurd hq (by decide)|exfalso;omega)|apply aI|with_reducible exact vM rfl|exact⟨⟩|apply nM|apply fM)
  all_goals((try apply vM);(try simp only[vq]at*);try omega)
  all_goals(try omega)
  refine⟨i+1,[],⟨by omega,by omega⟩,?_⟩
  rw[hn]
  repeat'((conv=>whnf);first|intro _|apply aI|with_reducible exact vM rfl|exact⟨⟩|apply nM|apply fM)
  all_goals((try apply vM);(try simp only[vq]at*);try omega)
 ·have e:i=q.length:=by omega
  subst e;have hG2:eF q=Z q.length:=(hZ _).symm;rw[hG2];have s2:(CL.ints .i64 (Z q.length)).sub 0 q.length=.ints .i64 (Z q.length):=congrArg (CL.ints .i64) (dA (by omega))
  repeat'((conv=>whnf);first|(intro hq;(try simp only[vw]at hq);try first|exact absurd hq (by decide)|exfalso;omega)|apply aI|with_reducible exact vM rfl|exact⟨⟩|apply nM|apply fM)
  all_goals((try apply vM);(try simp only[vq]at*);try omega)
  all_goals(try rw[s2])
  all_goals first|exact Sup.of rfl|skip
def JI:PSp:=fun xs K=>match xs with
 | [.isl (.ints .i64 q) .none]=>VC (Prm q.length q∧q.length≤5000)∧K (.isl (.ints .i64 (eF q)) .none)
 |_=>False
theorem Xq:POK Tryz.prog 146 JI:=by
 intro xs K h;unfold JI at h;split at h
 ·exact⟨_,h.2,QA _ h.1.get.1 h.1.get.2⟩
 ·exact h.elim
noncomputable def ahC:CPT:=aA 146 (aB JI) noC
theorem acD:aW Tryz.prog ahC:=aj (ak Xq) aC
theorem Us (q:List Int) (b:Bool) (h:Prm q.length q) (hl:q.length≤5000):aF Tryz.prog 82 [.agg [.isl (.ints .i64 q) .none,.bp b]] (.agg [.isl (.ints .i64 (eF q)) .none,.bp b]):=by
 refine av (md:=1) (rf:=[]) mixed au acD Tryz.func82 (by rfl) (by rfl) (by rfl) ?_
 repeat'((conv=>whnf);first|(intro hq;(try simp only[vw]at hq);try first|exact absurd hq (by decide)|exfalso;omega)|apply aI|with_reducible exact vM rfl|exact⟨⟩|apply nM|apply fM)
 all_goals((try apply vM);(try simp only[vq]at*);try omega)
 all_goals first|exact⟨h,hl⟩|exact Sup.of rfl|skip
def QB:PSp:=fun xs K=>match xs with
 | [.agg [.isl (.ints .i64 q) .none,.bp b]]=>VC (Prm q.length q∧q.length≤5000)∧K (.agg [.isl (.ints .i64 (eF q)) .none,.bp b])
 |_=>False
theorem acE:POK Tryz.prog 82 QB:=by
 intro xs K h;unfold QB at h;split at h
 ·exact⟨_,h.2,Us _ _ h.1.get.1 h.1.get.2⟩
 ·exact h.elim
theorem Xr (q F:List Int) (b:Bool) (h:Prm F.length q) (hl:F.length≤5000) (hF:∀x∈F,-1000000≤x∧x≤1000000):aF Tryz.prog 83 [.agg [.isl (.ints .i64 q) .none,.bp b],.isl (.ints .i64 F) .none] (.isl (.ints .i64 (apG b F q)) .none):=by
 have hql:=h.ln;refine av (md:=1) (rf:=[]) mixed au aC Tryz.func83 (by rfl) (by rfl) (by rfl) ?_
 repeat'((conv=>whnf);first|(intro hq;(try simp only[vw]at hq);try first|exact absurd hq (by decide)|exfalso;omega)|apply aI|with_reducible exact vM rfl|exact⟨⟩|apply nM|apply fM)
 all_goals((try apply vM);(try simp only[vq]at*);try omega)
 all_goals(try exact .inl trivial)
 obtain⟨Z,hZ⟩:∃Z:Nat→List Int,∀i,Z i=lV (fun i=>if b then(F.length:Int)+1-F.getD i 0 else F.getD i 0) q i (ah9 F.length 0):=⟨_,fun _=>rfl⟩;have hZ0:Z 0=ah9 F.length 0:=hZ 0;conv=>whnf
 refine aM (X:=Nat) (fun i=>i≤F.length) (fun i=>[(6,.int .i64 i)]) (fun i=>[(1,.cells (.ints .i64 (Z i)) false)]) (fun i=>F.length-i) 0 ⟨aK,mixed,au,aC,aP⟩ (by rfl) (by omega) ?_ ?_
 ·repeat'((conv=>whnf);first|intro _|apply aI|with_reducible exact vM rfl|exact⟨⟩|apply nM|apply fM)
  all_goals((try apply vM);(try simp only[vq]at*);try omega)
  all_goals(rw[hZ0])
 intro i hi;have hGl:(Z i).length=F.length:=by rw[hZ,jC,ak2]
 by_cases hlt:i<F.length
 ·have hx:=h.at hlt
  have hf:=hF (F.getD i 0) (cu hlt);have hn:Z (i+1)=(Z i).set (q.getD i 0).toNat (if b then(F.length:Int)+1-F.getD i 0 else F.getD i 0):=by rw[hZ,hZ,l9]
  cases b with
  |true=>
   simp only[if_true]at hn
   repeat'((conv=>whnf);first|(intro hq;(try simp only[vw]at hq);try first|exact absurd hq (by decide)|exfalso;omega)|apply aI|with_reducible exact vM rfl|exact⟨⟩|apply nM|apply fM)
   all_goals((try apply vM);(try simp only[vq]at*);try omega)
   all_goals(try omega)
   refine⟨i+1,[],⟨by omega,by omega⟩,?_⟩
   rw[hn]
   repeat'((conv=>whnf);first|intro _|apply aI|with_reducible exact vM rfl|exact⟨⟩|apply nM|apply fM)
   all_goals((try apply vM);(try simp only[vq]at*);try omega)
  |false=>
   simp only[aiF,if_false]at hn
   repeat'((conv=>whnf);first|(intro hq;(try simp only[vw]at hq);try first|exact absurd hq (by decide)|exfalso;omega)|apply aI|with_reducible exact vM rfl|exact⟨⟩|apply nM|apply fM)
   all_goals((try apply vM);(try simp only[vq]at*);try omega)
   all_goals(try omega)
   refine⟨i+1,[],⟨by omega,by omega⟩,?_⟩
   rw[hn]
   repeat'((conv=>whnf);first|intro _|apply aI|with_reducible exact vM rfl|exact⟨⟩|apply nM|apply fM)
   all_goals((try apply vM);(try simp only[vq]at*);try omega)
 ·have e:i=F.length:=by omega
  subst e;have hG2:apG b F q=Z F.length:=(hZ _).symm;rw[hG2];have s2:(CL.ints .i64 (Z F.length)).sub 0 F.length=.ints .i64 (Z F.length):=congrArg (CL.ints .i64) (dA (by omega))
  repeat'((conv=>whnf);first|(intro hq;(try simp only[vw]at hq);try first|exact absurd hq (by decide)|exfalso;omega)|apply aI|with_reducible exact vM rfl|exact⟨⟩|apply nM|apply fM)
  all_goals((try apply vM);(try simp only[vq]at*);try omega)
  all_goals(try rw[s2])
  all_goals first|exact Sup.of rfl|skip
def Xt:PSp:=fun xs K=>match xs with
 | [.agg [.isl (.ints .i64 q) .none,.bp b],.isl (.ints .i64 F) .none]=>VC (Prm F.length q∧F.length≤5000∧∀x∈F,-1000000≤x∧x≤1000000)∧K (.isl (.ints .i64 (apG b F q)) .none)
 |_=>False
theorem afA:POK Tryz.prog 83 Xt:=by
 intro xs K h;unfold Xt at h;split at h
 ·exact⟨_,h.2,Xr _ _ _ h.1.get.1 h.1.get.2.1 h.1.get.2.2⟩
 ·exact h.elim
def QC:PSp:=fun xs K=>match xs with
 | [.agg [.int .i64 c,.isl (.rows .i64 A) .none,.int .i64 sum,.isl (.ints .i64 gv) .none],.agg [.int .i64 c',.isl (.rows .i64 B) .none,.int .i64 sum',.isl (.ints .i64 gw) .none]]=>VC ((c=c'∧A=B∧sum=sum'∧gv=gw)∧A.length≤1000000∧(∀i,(A.getD i []).length≤2000000)∧gv.length≤2000000)∧K (.bool true)
 | [.agg [.int .i64 c,.isl (.rows .i64 A) .none,.int .i64 sum,.isl (.ints .i64 gv) .none],.agg [.int .i64 0,.isl (.ints .i64 []) .none,.int .i64 0,.isl (.ints .i64 []) .none]]=>VC (c=0∧A=[]∧sum=0∧gv=[])∧K (.bool true)
 |_=>False
theorem acF:POK Tryz.prog 46 QC:=by
 intro xs K hk;unfold QC at hk;split at hk
 ·obtain⟨⟨⟨rfl,rfl,rfl,rfl⟩,h1,h2,h3⟩,hk⟩:=hk
  exact⟨_,hk,iq (EK _ _ _ _ h1 h2 h3) ⟨fun hr=>by cases hr;exact .bool _ _⟩⟩
 ·obtain⟨⟨rfl,rfl,rfl,rfl⟩,hk⟩:=hk
  refine⟨_,hk,Qj (iq (EK 0 [] 0 [] (by decide) (fun i=>by simp) (by decide)) ⟨fun hr=>by cases hr;exact .bool _ _⟩) rfl fun i hi=>?_⟩
  match i,hi with
  |0,_=>exact dN _
  |1,_=>exact⟨fun hr=>by
   cases hr with
   |agg _ _ vs hl hh=>
    refine .agg _ _ _ hl fun i hi=>?_
    match i,hi with
    |0,_=>have:=hh 0 (by decide);simp only[aD]at this⊢;exact this
    |1,_=>have:=hh 1 (by decide);simp only[aD]at this⊢;generalize vs.getD 1 undef=u at this;exact ab1 this rfl
    |2,_=>have:=hh 2 (by decide);simp only[aD]at this⊢;exact this
    |3,_=>have:=hh 3 (by decide);simp only[aD]at this⊢;exact this⟩
 ·exact hk.elim
end Go.Eng.YtcechbdgokjmgaaGreatDoor
namespace Go.Eng.YtcechbdgokjmgaaGreatDoor
open Go.Proofs Go.RowKit
set_option linter.unusedSimpArgs false
set_option linter.unusedVariables false
set_option maxHeartbeats 0
set_option maxRecDepth 100000
def Xu:PSp:=fun xs K=>match xs with
 | [.agg [.int .i64 c,.isl (.rows .i64 ls) .none,.int .i64 sum,.isl (.ints .i64 gv) .none]]=>VC (bO ls∧gv.length≤5000)∧K (.tup [.int .i64 (fV c ls sum gv).1,.int .i64 (fV c ls sum gv).2.2])
 |_=>False
theorem afB:POK Tryz.prog 31 Xu:=by
 intro xs K h;unfold Xu at h;split at h
 ·exact⟨_,h.2,BK _ _ _ _ h.1.get.1 h.1.get.2⟩
 ·exact h.elim
theorem Xv (q:List Int) (b:Bool) (n:Int):aF Tryz.prog 80 [.agg [.isl (.ints .i64 q) .none,.bp b],.int .i64 n] (.int .i64 (iD q n)):=by
 by_cases h:q.length≤5000
 ·exact TM _ _ _ h
 unfold iD;by_cases h1:gW n=0
 case neg=>
  rw[if_pos h1];refine av (md:=1) (rf:=[]) mixed au tK Tryz.func80 (by rfl) (by rfl) (by rfl) ?_
  repeat'((conv=>whnf);first|(intro hq;(try simp only[vw]at hq);try first|exact absurd hq (by decide)|exfalso;omega)|apply aI|with_reducible exact vM rfl|exact⟨⟩|apply nM|apply fM)
  all_goals((try apply vM);(try simp only[vq]at*);try omega)
  all_goals first|omega|exact Sup.of rfl|(exfalso;exact hq h1)|(exfalso;exact h1 hq)|skip
 rw[if_neg (by rw[h1];simp)]
 have hn:n≤256:=by unfold gW at h1;split at h1<;>omega
 rw[if_pos (by omega)]
 refine av (md:=1) (rf:=[]) mixed au tK Tryz.func80 (by rfl) (by rfl) (by rfl) ?_
 repeat'((conv=>whnf);first|(intro hq;(try simp only[vw]at hq);try first|exact absurd hq (by decide)|exfalso;omega)|apply aI|with_reducible exact vM rfl|exact⟨⟩|apply nM|apply fM)
 all_goals((try apply vM);(try simp only[vq]at*);try omega)
 all_goals first|omega|exact Sup.of rfl|(exfalso;exact hq h1)|skip
def Ca:PSp:=fun xs K=>match xs with
 | [.agg [.isl (.ints .i64 q) .none,.bp b],.int .i64 n]=>VC (True)∧K (.int .i64 (iD q n))
 |_=>False
theorem JJ:POK Tryz.prog 80 Ca:=by
 intro xs K h;unfold Ca at h;split at h
 ·exact⟨_,h.2,Xv _ _ _⟩
 ·exact h.elim
def Xw (F:Int→List Int→Int × List (List Int) × Int × List Int):PSp:=fun xs K=>match xs with
 | [.agg [.int .i64 c,.isl (.rows .i64 ls) .none,.int .i64 sum,.isl (.ints .i64 gv) .none],.agg [.isl (.ints .i64 q) .none,.bp b]]=>VC ((bO ls∧gv.length≤5000∧q.length≤5000)∧iX c ls sum gv q b=(F sum gv,0))∧K (.tup [pzT (F sum gv),.int .i64 0])
 |_=>False
theorem afC (F:Int→List Int→Int × List (List Int) × Int × List Int):POK Tryz.prog 79 (Xw F):=by
 intro xs K hk;unfold Xw at hk;split at hk
 ·rename_i c ls sum gv q b
  obtain⟨⟨⟨h1,h2,h3⟩,h4⟩,hk⟩:=hk;have h:=BZ c ls sum gv q b h1 h2 h3;rw[h4]at h;exact⟨_,hk,h⟩
 ·exact hk.elim
def Xx (G:Int→List Int→List (List Int)):PSp:=fun xs K=>match xs with
 | [.agg [.int .i64 c,.isl (.rows .i64 ls) .none,.int .i64 sum,.isl (.ints .i64 gv) .none],.int .i64 m]=>VC ((bO ls∧gv.length≤5000)∧pK c ls sum gv m=(G sum gv,0))∧K (.tup [.isl (.rows .i64 (G sum gv)) .none,.int .i64 0])
 |_=>False
theorem afD (G:Int→List Int→List (List Int)):POK Tryz.prog 39 (Xx G):=by
 intro xs K hk;unfold Xx at hk;split at hk
 ·rename_i c ls sum gv m
  obtain⟨⟨⟨h1,h2⟩,h3⟩,hk⟩:=hk;have h:=sW c ls sum gv m h1 h2;rw[h3]at h;exact⟨_,hk,h⟩
 ·exact hk.elim
noncomputable def yE (b1:Bool) (n sy e:Int):CPT:=aA 17 (aB BO) (aA 19 (aB Jl) (aA 38 (aB (mU FV (.int .i64 n))) (aA 47 (aB (mU BQ (.bool b1))) (aA 79 (aB (mU Xp (.tup [pzT (0,[],0,[]),.int .i64 e]))) (aA 80 (aB (mU Ca (.int .i64 sy))) noC)))))
theorem qZ (b1:Bool) (n sy e:Int):aW Tryz.prog (yE b1 n sy e):=aj (ak Jk) (aj (ak Jm) (aj (ak (jN MC (.int .i64 n))) (aj (ak (jN Js (.bool b1))) (aj (ak (jN afz (.tup [pzT (0,[],0,[]),.int .i64 e]))) (aj (ak (jN JJ (.int .i64 sy))) aC)))))
noncomputable def Y6 (n:Int) (F:Int→List Int→Int × List (List Int) × Int × List Int) (G:Int→List Int→List (List Int)) (gn ge:Int):CPT:=aA 17 (aB BO) (aA 18 (aB (mU PD (.int .i64 0))) (aA 19 (aB Jl) (aA 31 (aB (mU Xu (.tup [.int .i64 gn,.int .i64 ge]))) (aA 38 (aB (mU FV (.int .i64 n))) (aA 39 (aB (Xx G)) (aA 46 (aB QC) (aA 47 (aB (mU BQ (.bool true))) (aA 48 (aB (mU Qm (.bool true))) (aA 79 (aB (Xw F)) (aA 80 (aB (mU Ca (.int .i64 0))) (aA 82 (aB QB) (aA 83 (aB Xt) noC))))))))))))
theorem Xy (n:Int) (F:Int→List Int→Int × List (List Int) × Int × List Int) (G:Int→List Int→List (List Int)) (gn ge:Int):aW Tryz.prog (Y6 n F G gn ge):=aj (ak Jk) (aj (ak (jN SA (.int .i64 0))) (aj (ak Jm) (aj (ak (jN afB (.tup [.int .i64 gn,.int .i64 ge]))) (aj (ak (jN MC (.int .i64 n))) (aj (ak (afD G)) (aj (ak acF) (aj (ak (jN Js (.bool true))) (aj (ak (jN ab7 (.bool true))) (aj (ak (afC F)) (aj (ak (jN JJ (.int .i64 0))) (aj (ak acE) (aj (ak afA) aC))))))))))))
theorem KT (c:Int) (ls:List (List Int)) (sum:Int) (gv q:List Int) (b:Bool) (hgm:gv.length≤9223372036854775807) (hqm:q.length≤9223372036854775807):aF Tryz.prog 15 [pzV c ls sum gv,.agg [.isl (.ints .i64 q) .none,.bp b]] (.bp true):=by
 obtain⟨z,hz⟩:∃z:Int,((zeN gv:Nat):Int)=z:=⟨_,rfl⟩;cases hs:xG c ls sum gv 9 10 with
 |false=>
  have hC:=qZ false z 0 0;refine bR (md:=1) (rf:=[]) mixed au hC Tryz.func15 (by rfl) (by rfl) (by rfl) ?_
  unfold yE
  repeat'((conv=>whnf);first|(intro hq;(try simp only[vw]at hq);try first|exact absurd hq (by decide)|exfalso;omega)|apply aI|with_reducible exact vM rfl|exact⟨⟩|apply nM|apply fM)
  all_goals((try apply vM);(try simp only[vq]at*);try omega)
  all_goals(try first|exact qW hs|exact dN _|exact iW hz|exact⟨hL,by omega,by omega⟩|exact iW hsy|exact hq5|(rw[h1];exact dN _)|omega)
 |true=>
 obtain⟨hpe,hL,hc9,hgl⟩:=afe hs (by decide) (by decide)
 have hp:=bD.of hpe;by_cases hz7:6<z
 ·have hC:=qZ true z 0 0
  refine bR (md:=1) (rf:=[]) mixed au hC Tryz.func15 (by rfl) (by rfl) (by rfl) ?_
  unfold yE
  repeat'((conv=>whnf);first|(intro hq;(try simp only[vw]at hq);try first|exact absurd hq (by decide)|exfalso;omega)|apply aI|with_reducible exact vM rfl|exact⟨⟩|apply nM|apply fM)
  all_goals((try apply vM);(try simp only[vq]at*);try omega)
  all_goals(try first|exact qW hs|exact dN _|exact iW hz|exact⟨hL,by omega,by omega⟩|exact iW hsy|exact hq5|(rw[h1];exact dN _)|omega)
 obtain⟨sy,hsy⟩:∃sy,iD q c=sy:=⟨_,rfl⟩;have hgle:=hp.gl;have hc1:=hp.c1;by_cases hs0:sy=0
 case neg=>
  have hC:=qZ true z sy 0;refine bR (md:=1) (rf:=[]) mixed au hC Tryz.func15 (by rfl) (by rfl) (by rfl) ?_
  unfold yE
  repeat'((conv=>whnf);first|(intro hq;(try simp only[vw]at hq);try first|exact absurd hq (by decide)|exfalso;omega)|apply aI|with_reducible exact vM rfl|exact⟨⟩|apply nM|apply fM)
  all_goals((try apply vM);(try simp only[vq]at*);try omega)
  all_goals(try first|exact qW hs|exact dN _|exact iW hz|exact⟨hL,by omega,by omega⟩|exact iW hsy|exact hq5|(rw[h1];exact dN _)|omega)
 subst hs0;obtain⟨hqc,_,_,hprm⟩:=Jz hsy;have hql:=hqc.ln;have hq5:q.length≤5000:=by omega
 have hbe:=Ub hpe;by_cases hk0:kpB ls q=false∨(b=true∧jB ls=false)
 ·have h1:iX c ls sum gv q b=((0,[],0,[]),7):=by
   have:imE c ls sum q b=7:=by unfold imE;rw[if_pos hk0]
   unfold iX;rw[if_neg (by rw[hpe];simp),if_neg (by rw[hsy];simp),this,if_pos (by decide)]
  have hC:=qZ true z 0 7;refine bR (md:=1) (rf:=[]) mixed au hC Tryz.func15 (by rfl) (by rfl) (by rfl) ?_
  unfold yE
  repeat'((conv=>whnf);first|(intro hq;(try simp only[vw]at hq);try first|exact absurd hq (by decide)|exfalso;omega)|apply aI|with_reducible exact vM rfl|exact⟨⟩|apply nM|apply fM)
  all_goals((try apply vM);(try simp only[vq]at*);try omega)
  all_goals(try first|exact qW hs|exact dN _|exact iW hz|exact⟨hL,by omega,by omega⟩|exact iW hsy|exact hq5|(rw[h1];exact dN _)|omega)
 by_cases hsr:smI c ls sum b< -999999999∨999999999<smI c ls sum b
 ·have h1:iX c ls sum gv q b=((0,[],0,[]),3):=by
   have:imE c ls sum q b=3:=by unfold imE;rw[if_neg hk0,if_pos hsr]
   unfold iX;rw[if_neg (by rw[hpe];simp),if_neg (by rw[hsy];simp),this,if_pos (by decide)]
  have hC:=qZ true z 0 3;refine bR (md:=1) (rf:=[]) mixed au hC Tryz.func15 (by rfl) (by rfl) (by rfl) ?_
  unfold yE
  repeat'((conv=>whnf);first|(intro hq;(try simp only[vw]at hq);try first|exact absurd hq (by decide)|exfalso;omega)|apply aI|with_reducible exact vM rfl|exact⟨⟩|apply nM|apply fM)
  all_goals((try apply vM);(try simp only[vq]at*);try omega)
  all_goals(try first|exact qW hs|exact dN _|exact iW hz|exact⟨hL,by omega,by omega⟩|exact iW hsy|exact hq5|(rw[h1];exact dN _)|omega)
 have hk:kpB ls q=true:=by cases e:kpB ls q with|true=>rfl|false=>exact absurd (.inl e) hk0
 have hv:b=true→jB ls=true:=fun e1=>by cases e:jB ls with|true=>rfl|false=>exact absurd (.inr ⟨e1,e⟩) hk0
 have h1:iX c ls sum gv q b=((c,ls,smI c ls sum b,imG c b gv q),0):=by
  have:imE c ls sum q b=0:=by unfold imE;rw[if_neg hk0,if_neg hsr]
  unfold iX;rw[if_neg (by rw[hpe];simp),if_neg (by rw[hsy];simp),this,if_neg (by decide)]
 have hback:=aco hbe hp hqc hk hv hsr;have hp':=Y4 hp hqc hsr;have hS:=Ui hbe hp hqc hk hv;have hP:=Qs (b:=b) hp hqc;have hqc':=MS (by omega) hqc
 have hgr:=acn hS hp hp' hP;have hen:=Xf hS hp hp' hP;have hil:=JD q;have hgl':=hp'.gl;have hpe':=MF hbe hp';have hap:∀F:List Int,(F.length:Int)=c→DZ c ls sum gv F→mW c ls (smI c ls sum b) (imG c b gv q) (apG b F q)=true:=fun F hF hSo=>by
  rw[agk hF hqc];exact(ab6 hp').2 (MQ hS hp hp' hP hSo)
 obtain⟨s',hs'⟩:∃s',smI c ls sum b=s':=⟨_,rfl⟩;obtain⟨gw,hgw⟩:∃gw,imG c b gv q=gw:=⟨_,rfl⟩;simp only[hs',hgw]at h1 hback hp' hgr hen hpe' hap hgl';have hze:∀l:List Int,(l.length:Int)=c→¬9<zeN l:=fun l hl=>by have:=aft l;omega
 have hsol:∀sx gx,pzE c ls sx gx=0→bD c ls sx gx→pK c ls sx gx 3=((eB c ls sx gx gx.length []).take 3,0):=fun sx gx he hpx=>by
  have h0:aJ [pzE c ls sx gx,mP 3]=0:=by rw[he];rfl
  have:=TH hpx 3;rw[show((3:Nat):Int)=3 from rfl]at this;unfold pK;rw[h0,if_neg (by simp),if_neg (hze gx hpx.gl),this]
 obtain⟨F,hF1,hF2⟩:∃F:Int→List Int→Int × List (List Int) × Int × List Int,F sum gv=(c,ls,s',gw)∧F s' gw=(c,ls,sum,gv):=by
  refine⟨fun a v=>if a=sum∧v=gv then(c,ls,s',gw)else(c,ls,sum,gv),if_pos ⟨rfl,rfl⟩,?_⟩;by_cases e:s'=sum∧gw=gv
  ·show(if s'=sum∧gw=gv then _ else _)=_
   rw[if_pos e,e.1,e.2]
  ·exact if_neg e
 obtain⟨G,hG1,hG2,hGl,hGn,hGs⟩:∃G:Int→List Int→List (List Int),pK c ls sum gv 3=(G sum gv,0)∧pK c ls s' gw 3=(G s' gw,0)∧(G s' gw).length=(G sum gv).length∧(G sum gv).length≤3∧∀i,i<(G sum gv).length→(((G sum gv).getD i []).length:Int)=c∧DZ c ls sum gv ((G sum gv).getD i []):=by
  refine⟨fun a v=>(eB c ls a v v.length []).take 3,hsol _ _ hpe hp,hsol _ _ hpe' hp',?_,by simp only[aiG];omega,fun i hi=>?_⟩
  ·simp only[aiG];rw[hen]
  ·have hm:((eB c ls sum gv gv.length []).take 3).getD i []∈eB c ls sum gv gv.length []:=List.mem_of_mem_take (cu hi)
   have:=(vo hp _).1 hm;exact⟨this.s.len,this⟩
 obtain⟨gn,ge,hgd1,hgd2⟩:∃gn ge,(fV c ls sum gv).1=gn∧(fV c ls sum gv).2.2=ge:=⟨_,_,rfl,rfl⟩;have hgd3:(fV c ls s' gw).1=gn∧(fV c ls s' gw).2.2=ge:=by
  have e1:fV c ls sum gv=fB c ls sum gv:=by unfold fV;rw[if_neg (by rw[hpe];simp)]
  have e2:fV c ls s' gw=fB c ls s' gw:=by unfold fV;rw[if_neg (by rw[hpe'];simp)]
  rw[e2,←hgr.1,←hgr.2,←e1];exact⟨hgd1,hgd2⟩
 have hGl':(G (F sum gv).2.2.1 (F sum gv).2.2.2).length=(G sum gv).length:=by rw[hF1];exact hGl
 have hgw5:gw.length≤5000:=by omega
 have hi5:(eF q).length≤5000:=by omega
 have hqq:Prm q.length q:=by rw[hql];exact hqc
 have hbb:ls.length≤1000000∧(∀i,(ls.getD i []).length≤2000000)∧gv.length≤2000000:=⟨hL.len,fun i=>by have:=hL.at' i;omega,by omega⟩
 have hFF:F (F sum gv).2.2.1 (F sum gv).2.2.2=(c,ls,sum,gv):=by rw[hF1];exact hF2
 have hC:=Xy z F G gn ge;refine bR (md:=1) (rf:=[]) mixed au hC Tryz.func15 (by rfl) (by rfl) (by rfl) ?_
 unfold Y6
 repeat'((conv=>whnf);first|(intro hq;(try simp only[vw]at hq);try first|exact absurd hq (by decide)|exfalso;omega)|apply aI|with_reducible exact vM rfl|exact⟨⟩|apply nM|apply fM)
 all_goals((try apply vM);(try simp only[vq]at*);try omega)
 all_goals(try first|exact qW hs|exact iW hz|exact iW hsy|(rw[hF1];exact⟨⟨hL,by omega,hq5⟩,h1⟩)|(simp only[hF1];exact⟨hL,hgw5⟩)|(simp only[hF1];exact iW hpe')|exact⟨hL,by omega⟩|(rw[hgd1,hgd2];exact dN _)|(simp only[hF1];rw[hgd3.1,hgd3.2];exact dN _)|exact⟨⟨hL,by omega⟩,hG1⟩|(simp only[hF1];exact⟨⟨hL,hgw5⟩,hG2⟩)|exact⟨hqq,hq5⟩|(simp only[hF1,hF2];exact⟨⟨hL,hgw5,hi5⟩,hback⟩)|(rw[hFF];exact⟨⟨rfl,rfl,rfl,rfl⟩,hbb⟩)|omega)
 conv=>whnf
 refine zY (X:=Nat) (fun k=>btw 6 10 k||btw 12 16 k||btw 18 118 k) (fun i=>i≤(G sum gv).length) (fun i=>[(17,.int .i64 i)]) (fun i=>[]) (fun i=>(G sum gv).length-i) 0 ⟨aK,mixed,au,hC,aP⟩ (by rfl) (by omega) ?_ ?_
 ·repeat'((conv=>whnf);first|intro _|apply aI|with_reducible exact vM rfl|exact⟨⟩|apply nM|apply fM)
  all_goals((try apply vM);(try simp only[vq]at*);try omega)
 intro i hi;by_cases hlt:i<(G sum gv).length
 ·obtain⟨g1,g2⟩:=hGs i hlt
  obtain⟨Fi,hFi⟩:∃Fi,(G sum gv).getD i []=Fi:=⟨_,rfl⟩;rw[hFi]at g1 g2;have g3:Prm Fi.length q:=by rw[show Fi.length=c.toNat by omega];exact hqc
  have g4:∀x∈Fi,-1000000≤x∧x≤1000000:=fun x hx=>by
   obtain⟨k,hk,rfl⟩:=(bG _ _).1 hx;have:=g2.s.rng hk;omega
  have g5:=hap Fi g1 g2;have g6:Prm Fi.length q∧Fi.length≤5000∧∀x∈Fi,-1000000≤x∧x≤1000000:=⟨g3,by omega,g4⟩
  repeat'((conv=>whnf);first|(intro hq;(try simp only[vw]at hq);try first|exact absurd hq (by decide)|exfalso;omega)|apply aI|with_reducible exact vM rfl|exact⟨⟩|apply nM|apply fM)
  all_goals((try apply vM);(try simp only[vq]at*);try omega)
  all_goals(try simp only[hFi]at*)
  all_goals(try first|omega|exact g6|(simp only[hF1];exact hp')|(simp only[hF1];exact qW g5))
  refine⟨i+1,[],⟨by omega,by omega⟩,?_⟩
  repeat'((conv=>whnf);first|intro _|apply aI|with_reducible exact vM rfl|exact⟨⟩|apply nM|apply fM)
  all_goals((try apply vM);(try simp only[vq]at*);try omega)
 ·have e:i=(G sum gv).length:=by omega
  subst e
  repeat'((conv=>whnf);first|(intro hq;(try simp only[vw]at hq);try first|exact absurd hq (by decide)|exfalso;omega)|apply aI|with_reducible exact vM rfl|exact⟨⟩|apply nM|apply fM)
  all_goals((try apply vM);(try simp only[vq]at*);try omega)
  all_goals first|omega|exact dN _|trace_state
end Go.Eng.YtcechbdgokjmgaaGreatDoor
