/- Contracts of functions of the program: what each returns. Their conditions stand in them. -/
import Derived.Test.YtmkagljofpddpaaGreatDoorHIntegersb
open Array renaming length_toList→alY
open Bool renaming false_eq_true→amn
open Classical renaming byContradiction→apP
open Int renaming natAbs_natCast→aoW,natCast_ediv→aol,toNat→an8,natAbs_neg→aoi,toNat_natCast→anG,tmod_eq_emod_of_nonneg→ao9,le_refl→apM
open List renaming mem_append→alD,mem_singleton→apz,findIdx_eq_length→apA,drop_zero→aoR,take_of_length_le→anB,isPrefixOf→ao2,length_drop→amJ,range→alA,find?_eq_none→an1,mem_range→anj,range_eq_range'→anb,range'_append_1→apB,find?_some→apC,getD_eq_getElem?_getD→alC,getElem?_eq_getElem→alH,replicate→alL,ext_getElem→anz,getElem_set→anD,getElem_map→anE,getElem_range→anF,length_take→amh,getElem?_take→ami,mem_of_find?_eq_some→anY,find?_eq_some_iff_getElem→an0,mem_map→apE,any_eq_true→apF,map_congr_left→anC,getElem_mem→apG,getElem_of_mem→alG,length_map→apH,length_set→alZ,length_append→amL,length_cons→alj,length_nil→alf,map_append→aoL,range_succ→aoQ,filter_append→apK,getElem?_append→amA,length_replicate→apL,getElem?_replicate→amI,mem_replicate→apN,take→aoz,drop→aoA,getElem?_map→amE,all_eq_true→am8
open Nat renaming zero_add→alO,sub_zero→ao6,gcd→aoF,le_refl→alo,zero_le→aml,le_trans→als,sub_add_cancel→apD,zero_mul→amo,succ_mul→aln,mul_one→alV,add_zero→alg,lt_irrefl→apI,lt_succ_self→apJ,min_eq_left→amd,beq→alI,zero_div→apO,mul_le_mul_right→al2
namespace Go.Eng.YtmkagljofpddpaaGreatDoor
open Go.Proofs Go.Eng.Dig Go.Eng.Dec
set_option linter.unusedSimpArgs false
set_option linter.unusedVariables false
set_option maxRecDepth 100000
theorem xB (a b:ByteArray):(a++b).data.toList=a.data.toList++b.data.toList:=by
 rw[ByteArray.data_append,Array.toList_append]
theorem lZ (s:ByteArray):s.data.toList.length=s.size:=by rw[alY];rfl
theorem yO (x:Nat):(bF x).data.toList=Go.Lib.decDigits x:=by unfold bF;rw[List.toList_toArray]
theorem l6 (x:Nat):bF x=itB (x:Int):=(pQ x).symm
theorem u7 (x:Nat):0<(bF x).size:=by rw[kE];exact jW x
theorem Vx (z:Int):∀b∈(itB z).data.toList,b≠47:=by
 intro b hb;rw[gX,xB]at hb;rcases alD.1 hb with h|h
 ·unfold sgB at h
  split at h
  ·rw[apz.1 h];decide
  ·cases h
 ·rw[yO]at h
  have:=sF z.natAbs b h
  rintro rfl
  simp at this
theorem YZ {l:List UInt8} (h:∀b∈l,b≠47):slP l=l.length:=by
 unfold slP;exact apA.2 λb hb=>by rw[beq_eq_false_iff_ne];exact h b hb
theorem aeV {l m:List UInt8} (h:∀b∈l,b≠47):slP (l++47::m)=l.length:=by
 have h1:l.findIdx (·==47)=l.length:=apA.2 λb hb=>by rw[beq_eq_false_iff_ne];exact h b hb
 unfold slP;rw[List.findIdx_append,h1,if_neg qqO];rw[List.findIdx_cons,show((47:UInt8)==47)=true from rfl,cond_true,alO]
theorem qH {q:Rat} (h:q.den=1):txQ q=itB q.num:=by unfold txQ;rw[if_pos h]
theorem Vy {q:Rat} (h:¬q.den=1):txQ q=itB q.num++kSl++bF q.den:=by unfold txQ;rw[if_neg h]
theorem GN {q:Rat} (h:¬q.den=1):(txQ q).data.toList=(itB q.num).data.toList++47::(bF q.den).data.toList:=by
 rw[Vy h,xB,xB,List.append_assoc];rfl
theorem lI (q:Rat):slP (txQ q).data.toList=(itB q.num).size:=by
 by_cases h:q.den=1
 ·rw[qH h,YZ (Vx _),lZ]
 ·rw[GN h,aeV (Vx _),lZ]
theorem iR (q:Rat):(txQ q).size=(itB q.num).size+(if q.den=1 then 0 else(bF q.den).size+1):=by
 by_cases h:q.den=1
 ·rw[qH h,if_pos h];rfl
 ·rw[Vy h,if_neg h,ByteArray.size_append,ByteArray.size_append,show(kSl:ByteArray).size=1 from rfl];omega
theorem sI (q:Rat):(txQ q).extract 0 (itB q.num).size=itB q.num:=by
 rw[ext_eq,aoR,ao6,<-lZ (itB q.num)];by_cases h:q.den=1
 ·rw[qH h,List.take_length,lX]
 ·rw[GN h,List.take_left,lX]
theorem yP {q:Rat} (h:¬q.den=1):(txQ q).extract ((itB q.num).size+1) (txQ q).size=bF q.den:=by
 rw[ext_eq,GN h,<-lZ (itB q.num),iR,if_neg h];have e:((itB q.num).data.toList++47::(bF q.den).data.toList).drop ((itB q.num).data.toList.length+1)=(bF q.den).data.toList:=by
  rw[<-List.drop_drop,List.drop_left];rfl
 rw[e,anB (by rw[lZ,lZ];omega),lX]
theorem Af (z:Int):preB (itB z) kMi=decide (z<0):=by
 by_cases h:z<0
 ·rw[decide_eq_true h,gX]
  unfold sgB preB Go.Lib.hasPrefix;rw[if_pos h,xB];rfl
 ·rw[decide_eq_false h,gX]
  unfold sgB;rw[if_neg h,ByteArray.empty_append];exact w9 _
theorem Vz (z:Int):mM (dQ (itB z) kMi):=by
 rw[yG];unfold mM;rw[yO];exact sF _
theorem CV (z:Int):rdI (itB z)=z:=by
 unfold rdI;rw[Af,yG];unfold vB;rw[yO,Uy];by_cases h:z<0
 ·rw[decide_eq_true h,if_pos rfl];omega
 ·rw[decide_eq_false h,if_neg qqS];omega
theorem NR {a b:Int} (h:itB a=itB b):a=b:=by rw[<-CV a,<-CV b,h]
theorem VA {p q:Rat} (h:txQ p=txQ q):p=q:=by
 have h1:=lI p;have h2:=lI q;rw[h]at h1;have h3:=sI p;have h4:=sI q;rw[h,<-h1,h2]at h3;have hn:p.num=q.num:=NR (h3.symm.trans h4);have hs1:=iR p;have hs2:=iR q;rw[h,hn]at hs1;have d1:=u7 p.den;have d2:=u7 q.den;have hd:p.den=q.den:=by
  by_cases a:p.den=1
  ·by_cases b:q.den=1
   ·omega
   ·rw[if_pos a]at hs1;rw[if_neg b]at hs2;omega
  ·by_cases b:q.den=1
   ·rw[if_neg a]at hs1;rw[if_pos b]at hs2;omega
   ·have t1:=yP a
    have t2:=yP b;rw[hn,h,t2,l6,l6]at t1;have:=NR t1;omega
 exact Rat.ext hn hd
def isQ (s:ByteArray):Prop:=∃q,s=txQ q
open Classical in
noncomputable def rdQ (s:ByteArray):Rat:=if h:∃q,s=txQ q then h.choose else 0
theorem jR (q:Rat):rdQ (txQ q)=q:=by
 have h:∃p,txQ q=txQ p:=⟨q,rfl⟩;unfold rdQ;rw[dif_pos h];exact VA h.choose_spec.symm
theorem sJ (q:Rat):isQ (txQ q):=⟨q,rfl⟩
def Q9 (q:Rat):Nat:=max (L9 q.num.natAbs) (L9 q.den)
theorem JX (z:Int):(itB z).size≤9*L9 z.natAbs+2:=by
 have h1:=yM z.natAbs;rw[gX,ByteArray.size_append];unfold sgB;split
 ·rw[show(kMi:ByteArray).size=1 from rfl];omega
 ·rw[show(ByteArray.empty).size=0 from rfl];omega
theorem ajg (q:Rat):(txQ q).size≤18*Q9 q+4:=by
 have h1:=JX q.num;have h2:=yM q.den;rw[iR];unfold Q9;split<;>omega
theorem aeW (q:Rat):txQ q=kZe↔q=0:=by
 have e:txQ 0=kZe:=by
  rw[qH rfl];show itB 0=_;rw[gX];show ByteArray.empty++bF 0=_;rw[ByteArray.empty_append];unfold bF;rw[dec_lt qqO];rfl
 constructor
 ·intro h
  exact VA (h.trans e.symm)
 ·rintro rfl;exact e
theorem CW (q:Rat):q.num<0↔q<0:=by
 rw[Rat.lt_iff];simp
theorem Y0 (q:Rat):preB (txQ q) kMi=decide (q<0):=by
 have e:preB (txQ q) kMi=preB (itB q.num) kMi:=by
  by_cases h:q.den=1
  ·rw[qH h]
  ·unfold preB Go.Lib.hasPrefix
   rw[GN h];cases hl:(itB q.num).data.toList with
   |nil=>
    have:=lZ (itB q.num);rw[hl,gX,ByteArray.size_append]at this;have:=u7 q.num.natAbs;simp at*;omega
   |cons b r=>
    show ao2 [45] (b::(r++_))=ao2 [45] (b::r);simp[ao2]
 rw[e,Af,decide_eq_decide];exact CW q
end Go.Eng.YtmkagljofpddpaaGreatDoor
namespace Go.Eng.YtmkagljofpddpaaGreatDoor
open Go.Proofs Go.Eng.Dig Go.Eng.Dec
set_option linter.unusedSimpArgs false
set_option linter.unusedVariables false
set_option maxHeartbeats 0
set_option maxRecDepth 100000
def fmB (neg br:Bool) (N M:ByteArray):Bool:=dcT N&&(!neg||decide (N≠⟨#[48]⟩))&&(!br||(dcT M&&decide (M≠⟨#[48]⟩)&&decide (M≠⟨#[49]⟩)))
def lrB (N M:ByteArray):Bool:=decide (600<N.size∨600<M.size)
def cmB (br:Bool) (N M:ByteArray):Bool:=br&&decide (aoF (vB N) (vB M)≠1)
def xC (neg br:Bool) (N M:ByteArray):Int:=if fmB neg br N M=false then 1 else if lrB N M=true then 4 else if cmB br N M=true then 1 else 0
def xD (a:ByteArray):Int:=xC (preB a kMi) (rH (dQ a kMi)) (nH (dQ a kMi)) (nI (dQ a kMi))
theorem aeX {s:ByteArray} (h:dcT s=true):s=bF (vB s):=JV (by rw[yO];exact(NP s).1 h)
theorem VB {s:ByteArray} (h:dcT s=true):mM s:=((Vv s).1 h).2.1
theorem sK {s:ByteArray} (h:dcT s=true):preB s kMi=false/\dQ s kMi=s/\rdI s=vB s:=by
 have e:=aeX h;have h1:=CV (vB s:Int);have h2:=Af (vB s:Int);rw[<-l6,<-e]at h1 h2;have h3:preB s kMi=false:=h2.trans (decide_eq_false qqO);refine⟨h3,?_,h1⟩;have h4:=yG (vB s:Int);rw[<-l6,<-e,aoW]at h4;rw[h4,<-e]
set_option exponentiation.threshold 4000 in
theorem Rz {s:ByteArray} (h:s.size≤600) (hd:dcT s=true):Lw (vB s)≤100:=by
 have h1:=Gy (show Dec.isD s.data.toList from VB hd);have h2:10 ^ s.data.toList.length≤10 ^ 600:=Nat.pow_le_pow_right qqO (by rw[alY];exact h)
 have h3:(10:Nat) ^ 600≤W ^ 100:=qqV;exact qV (show vB s<W ^ 100 from by unfold vB;omega)
noncomputable def akB:CPT:=ay 175 (aJ QG) (ay 176 (aJ Rq) (ay 177 (aJ JW) (ay 114 (aJ lu) (ay 113 (aJ rJ) (ay 179 (aJ Gz) (ay 178 (aU Ya) (ay 108 (aU ofP) (ay 118 (aU Gw) noC))))))))
theorem aeY:aZ Tryz.prog akB:=aj (aA ad9) (aj (aA Vr) (aj (aA YX) (aj (aA jJ) (aj (aA jr) (aj (aA Nu) (aj (aF Ut) (aj (aF oU) (aj (aF Ed) aC))))))))
theorem Y1 (s:ByteArray):(dQ s kMi).size≤s.size:=by
 unfold dQ;show(List.toArray _).size≤_;rw[List.size_toArray];unfold Go.Lib.trimPrefix;have:s.data.toList.length=s.size:=by rw[alY];rfl
 split
 ·rw[amJ];omega
 ·omega
theorem NS (s:ByteArray) (i j:Nat) (h:j≤s.size):(s.extract i j).size≤s.size:=by
 rw[ByteArray.size_extract];omega
theorem VD (s:ByteArray):(nH s).size≤s.size:=by
 unfold nH;split
 ·exact NS _ _ _ qqO
 ·exact alo _
theorem VE (s:ByteArray):(nI s).size≤s.size:=by
 unfold nI;split
 ·exact NS _ _ _ qqO
 ·exact aml _
theorem Ag (a b:Int):dZ [a,b]=if a=0 then b else a:=by
 simp only[dZ];by_cases h:a=0
 ·rw[if_pos h,if_pos h]
  by_cases g:b=0
  ·rw[if_pos g,g]
  ·rw[if_neg g]
 ·rw[if_neg h,if_neg h]
theorem Y2 {s:ByteArray} (h:dcT s=true) (hs:s.size≤1000000000):s.size≤1000000000/\mM (dQ s kMi):=⟨hs,by rw[(sK h).2.1];exact VB h⟩
theorem aeZ {N M:ByteArray} (h1:dcT N=true) (h2:dcT M=true) (g1:N.size≤600) (g2:M.size≤600):(nrm (rdI N)).OK/\(nrm (rdI M)).OK/\(nrm (rdI N)).L≤100000000000/\(nrm (rdI M)).L≤100000000000:=by
 rw[(sK h1).2.2,(sK h2).2.2];refine⟨bQ _,bQ _,?_,?_⟩
 ·rw[NI.L_nrm,aoW];exact als (Rz g1 h1) qqD
 ·rw[NI.L_nrm,aoW];exact als (Rz g2 h2) qqD
theorem NT {N M:ByteArray} (h1:dcT N=true) (h2:dcT M=true):aoF (nrm (rdI N)).val.natAbs (nrm (rdI M)).val.natAbs=aoF (vB N) (vB M):=by
 rw[bg,bg,(sK h1).2.2,(sK h2).2.2,aoW,aoW]
theorem ae0 {N M:ByteArray} (h1:dcT N=true) (h2:dcT M=true) (g1:N.size≤600) (g2:M.size≤600):(nr (aoF (nrm (rdI N)).val.natAbs (nrm (rdI M)).val.natAbs)).OK/\(⟨1,[]⟩:NI).OK/\(nr (aoF (nrm (rdI N)).val.natAbs (nrm (rdI M)).val.natAbs)).L≤100000000000/\(⟨1,[]⟩:NI).L≤100000000000:=by
 rw[NT h1 h2];refine⟨bQ _,Ei,?_,qqV⟩;unfold nr;rw[NI.L_nrm,aoW];have hv:=Rz g1 h1;by_cases h0:vB N=0
 ·rw[h0,Nat.gcd_zero_left];exact als (Rz g2 h2) qqD
 ·exact als (fK (Nat.gcd_le_left _ qqO)) (als hv qqD)
theorem NU {N M:ByteArray} (h1:dcT N=true) (h2:dcT M=true):(kT (nr (aoF (nrm (rdI N)).val.natAbs (nrm (rdI M)).val.natAbs)).val (NI.val ⟨1,[]⟩)≠0)=(aoF (vB N) (vB M)≠1):=by
 rw[NT h1 h2];unfold nr;rw[bg];show(kT _ 1≠0)=_;generalize aoF (vB N) (vB M)=g
 unfold kT;refine propext ⟨λh e=>h ?_,λh e=>h ?_⟩
 ·subst e;simp
 ·split at e
  ·omega
  ·split at e<;>omega
theorem yQ {a b:Int} (h:¬dZ [a,b]≠0):a=0/\b=0:=by
 rw[Ag]at h;split at h<;>omega
theorem yR {M:ByteArray} (h:(if 600<(M.size:Int)then(4:Int)else 0)=0):M.size≤600:=by
 split at h<;>omega
theorem Et {x y:Int} (h:x=y):Sup (dJ [.int .i64 x]) (.int .i64 y):=by subst h;exact Sup.of rfl
theorem RB (a:ByteArray) (ha:a.size≤1000000000):aB Tryz.prog 100 [.str a] (.int .i64 (xD a)):=by
 have h1:(dQ a ⟨#[45]⟩).size≤a.size:=Y1 a;have h2:(nH (dQ a ⟨#[45]⟩)).size≤(dQ a ⟨#[45]⟩).size:=VD _;have h3:(nI (dQ a ⟨#[45]⟩)).size≤(dQ a ⟨#[45]⟩).size:=VE _;have hr:xD a=xC (preB a ⟨#[45]⟩) (rH (dQ a ⟨#[45]⟩)) (nH (dQ a ⟨#[45]⟩)) (nI (dQ a ⟨#[45]⟩)):=rfl;rw[hr];refine au (md:=1) (rf:=[]) mixed ak aeY Tryz.func100 qqR qqR qqR ?_
 repeat'((conv=>whnf);first|(intro hq;(try simp only[vw]at hq);try exact aV hq)|apply aI|exact aD|apply nM|apply fM)
 all_goals((try apply vM);(try simp only[vq]at*);try omega)
 all_goals(try omega)
 all_goals(
  generalize hN:nH (dQ a ⟨#[45]⟩)=N at*
  generalize hM:nI (dQ a ⟨#[45]⟩)=M at*
  generalize hI:rH (dQ a ⟨#[45]⟩)=br at*
  generalize hP:preB a ⟨#[45]⟩=neg at*
  clear hN hM hI hP)
 all_goals first
  |(exfalso;have e1:br=true:=qqA
    have e2:br=false:=qqA;rw[e1]at e2;cases e2)
  |exact Y2 qqA qqO
  |(have q:=yR (yQ qqA).2;exact aeZ qqA qqA qqO q)
  |(have q:=yR (yQ qqA).2;exact ae0 qqA qqA qqO q)
  |(refine Et ?_;have h1:dcT N=true:=qqA
    have h2:dcT M=true:=qqA;have e:=NU h1 h2;simp only[dD,e];have q:=yQ qqA;have q2:=yR q.2;simp_all[xC,fmB,lrB,cmB];omega)
  |(refine Et ?_;have h1:dcT N=true:=qqA
    have h2:dcT M=true:=qqA;have e:=NU h1 h2;simp only[dD,e];have q:=yQ qqA;have q2:=yR q.2;simp_all[xC,fmB,lrB,cmB];done)
  |(exfalso;have q:=(yQ qqA).2;simp at q;done)
  |(exfalso;have q:=(yQ qqA).1;simp at q;done)
  |(refine Et ?_;simp only[Ag]at*;simp_all[xC,fmB,lrB,cmB];done)
  |(refine Et ?_;by_cases c0:N=⟨#[48]⟩<;>by_cases c1:M=⟨#[49]⟩<;>by_cases c2:600<(M.size:Int)<;>simp only[Ag]at* <;>simp_all[xC,fmB,lrB,cmB]<;>omega)
  |(refine Et ?_;by_cases c0:N=⟨#[48]⟩<;>by_cases c1:M=⟨#[49]⟩<;>by_cases c2:600<(M.size:Int)<;>simp_all[xC,fmB,lrB,cmB,Ag]<;>first|done|omega)
  |(refine Et ?_;simp only[Ag]at*;simp_all[xC,fmB,lrB,cmB];omega)
noncomputable def akC:CPT:=ay 203 (aJ Vk) (ay 126 (aJ YQ) (ay 199 (aJ Ri) (ay 204 (aJ CS) (ay 165 (aJ Vo) noC))))
theorem yS:aZ Tryz.prog akC:=aj (aA YN) (aj (aA ahG) (aj (aA Vi) (aj (aA Ep) (aj (aA YR) aC))))
theorem VF (x k:Nat):L9 (x / k)≤L9 x:=pR (Nat.div_le_self _ _)
theorem ae1 (x:Nat):((dl B9 x).length=1/\(dl B9 x).getD 0 0=1)↔x=1:=by
 constructor
 ·rintro⟨h1,h2⟩
  have h3:=bU B92 x;rw[h1]at h3;rw[bG B92,Nat.pow_zero,Nat.div_one,Nat.mod_eq_of_lt (by simpa using h3)]at h2
  omega
 ·rintro rfl
  have:dl B9 1=[1]:=qqV;rw[this];exact⟨rfl,rfl⟩
theorem frn (n:Int) (d:Int) (hd:0<d):(Rat.divInt n d).num=sgz (decide (n<0)) (n.natAbs / aoF n.natAbs d.natAbs)/\(Rat.divInt n d).den=d.natAbs / aoF n.natAbs d.natAbs:=by
 rw[Rat.num_divInt,Rat.den_divInt,if_neg qqO,Int.sign_eq_one_of_pos hd,Int.one_mul];have hg:d.gcd n=aoF n.natAbs d.natAbs:=by unfold Int.gcd;rw[Nat.gcd_comm]
 rw[hg];refine⟨?_,rfl⟩;unfold sgz;by_cases h:n<0
 ·rw[decide_eq_true h,if_pos rfl]
  have e:n= -((n.natAbs:Nat):Int):=qqO;generalize n.natAbs=x at*
  subst e;rw[Int.neg_ediv_of_dvd (Int.ofNat_dvd.2 (Nat.gcd_dvd_left _ _)),aol]
 ·rw[decide_eq_false h,if_neg qqS]
  have e:n=((n.natAbs:Nat):Int):=qqO;generalize n.natAbs=x at*
  subst e;rw[aol]
theorem NV (b:Bool) (A:Nat):sgz (decide (sgz b A<0)) A=sgz b A:=by
 unfold sgz;by_cases h:A=0
 ·subst h;cases b<;>rfl
 cases b
 ·simp only[amn,if_false]
  rw[decide_eq_false qqO,if_neg qqS]
 ·simp only[if_true]
  rw[decide_eq_true qqO,if_pos rfl]
theorem sB0 (B:Nat):decide ((B:Int)<0)=false:=decide_eq_false qqO
theorem rM (n d:Int) (hd:0<d) (h1:L9 n.natAbs≤400000000) (h2:L9 d.natAbs≤400000000):∃A B G:Nat,
 n.natAbs / aoF n.natAbs d.natAbs=A/\d.natAbs / aoF n.natAbs d.natAbs=B/\aoF n.natAbs d.natAbs=G/\
 (dl B9 A).length≤400000000/\(dl B9 B).length≤400000000/\(dl B9 G).length≤400000000/\dl B9 G≠[]/\
 (itB (sgz (decide (n<0)) A)).size≤3900000000/\(itB (B:Int)).size≤3900000000/\
 (((dl B9 B).length=1/\(dl B9 B).getD 0 0=1)↔B=1)/\
 txQ (Rat.divInt n d)=(if B=1 then itB (sgz (decide (n<0)) A)else itB (sgz (decide (n<0)) A)++kSl++itB (B:Int)):=by
 obtain⟨f1,f2⟩:=frn n d hd;have hg:0<aoF n.natAbs d.natAbs:=Nat.gcd_pos_of_pos_right _ qqO;have hgd:aoF n.natAbs d.natAbs≤d.natAbs:=Nat.gcd_le_right _ qqO;have l3:=als (pR hgd) h2;have l4:=als (VF n.natAbs (aoF n.natAbs d.natAbs)) h1;have l5:=als (VF d.natAbs (aoF n.natAbs d.natAbs)) h2;have hone:=ae1 (d.natAbs / aoF n.natAbs d.natAbs);have hne:dl B9 (aoF n.natAbs d.natAbs)≠[]:=λe=>by have:=(fD B92).1 e;omega
 have i1:=JX (sgz (decide (n<0)) (n.natAbs / aoF n.natAbs d.natAbs));have i2:=JX ((d.natAbs / aoF n.natAbs d.natAbs:Nat):Int);rw[jX]at i1;rw[aoW]at i2;refine⟨_,_,_,rfl,rfl,rfl,l4,l5,l3,hne,qqO,qqO,hone,?_⟩;rw[txQ,f1,f2,l6]
theorem VG (n d:Int) (hd:0<d) (h1:L9 n.natAbs≤400000000) (h2:L9 d.natAbs≤400000000):aB Tryz.prog 137 [zv n,zv d] (.str (txQ (Rat.divInt n d))):=by
 obtain⟨A,B,G,hA,hB,hG,hlA,hlB,hlG,hne,hAi,hBi,hone,htx⟩:=rM n d hd h1 h2;rw[htx];clear htx;rw[hG]at hA hB;have tl0:(⟨#[47]⟩:ByteArray).size=1:=rfl;have tl1:∀z:Int,(itB z++⟨#[47]⟩).size=(itB z).size+1:=λz=>by rw[ByteArray.size_append];rfl
 have ssz:=NV (decide (n<0)) A;have ssf:∀B:Nat,sgz false B=(B:Int):=λ_=>rfl;have hraw:dl B9 (v9 (dl B9 d.natAbs) / v9 (dl B9 ((v9 (dl B9 n.natAbs)).gcd (v9 (dl B9 d.natAbs)))))=dl B9 B:=by simp only[dR,hG,hB]
 have r1:(dl B9 (v9 (dl B9 d.natAbs) / v9 (dl B9 ((v9 (dl B9 n.natAbs)).gcd (v9 (dl B9 d.natAbs)))))).length=(dl B9 B).length:=by rw[hraw]
 have r2:(dl B9 (v9 (dl B9 d.natAbs) / v9 (dl B9 ((v9 (dl B9 n.natAbs)).gcd (v9 (dl B9 d.natAbs)))))).getD (an8 0) 0=(dl B9 B).getD 0 0:=by rw[hraw];rfl
 have V:∀_:Unit,(D9 (dl B9 n.natAbs)/\D9 (dl B9 d.natAbs)/\L9 n.natAbs≤400000000/\L9 d.natAbs≤400000000)/\(D9 (dl B9 n.natAbs)/\D9 (dl B9 G)/\(dl B9 n.natAbs).length≤400000000/\(dl B9 G).length≤400000000/\dl B9 G≠[])/\(D9 (dl B9 d.natAbs)/\D9 (dl B9 G)/\(dl B9 d.natAbs).length≤400000000/\(dl B9 G).length≤400000000/\dl B9 G≠[])/\L9 A≤400000000/\L9 B≤400000000/\((dl B9 A).length≤1000000000000/\D9 (dl B9 A))/\((dl B9 B).length≤1000000000000/\D9 (dl B9 B)):=λ_=>⟨⟨dK _,dK _,h1,h2⟩,⟨dK _,dK _,h1,hlG,hne⟩,⟨dK _,dK _,h2,hlG,hne⟩,hlA,hlB,⟨qqO,dK _⟩,⟨qqO,dK _⟩⟩;have dA:=dK A;have dB:=dK B;clear hlA hlG hne hraw h1 h2;by_cases hB1:B=1
 ·obtain⟨o1,o2⟩:=hone.2 hB1
  clear hone hlB;rw[if_pos hB1];refine au (md:=1) (rf:=[]) mixed ak yS Tryz.func137 qqR qqR qqR ?_;refine wk7 (λhq=>?_) (λhq=>?_) (λhq=>?_) (λhq=>?_) (λhq=>?_) (λhq=>?_) λhq hq hq=>?_;all_goals(try simp only[dR,pU,qG,jX,hA,hB,hG,ssz,ssf,sB0,aoW])
  all_goals first
   |exact(V ()).1
   |exact(V ()).2.1
   |exact(V ()).2.2.1
   |exact(V ()).2.2.2.1
   |exact(V ()).2.2.2.2.2.1
   |exact⟨dA,True.intro⟩
   |exact Sup.of rfl
 ·rw[if_neg hB1]
  have o3:¬((dl B9 B).length=1/\(dl B9 B).getD 0 0=1):=λh=>hB1 (hone.1 h);clear hone hlB;refine au (md:=1) (rf:=[]) mixed ak yS Tryz.func137 qqR qqR qqR ?_
  repeat'((conv=>whnf);first|(intro hq;(try simp only[vw]at hq);try exact aV hq)|apply aI|exact aD|apply nM|apply fM)
  all_goals((try apply vM);(try simp only[vq]at*);try omega)
  all_goals(try simp only[dR,pU,qG,jX,hA,hB,hG,ssz,ssf,tl0,tl1,sB0,aoW])
  all_goals first
   |exact(V ()).1
   |exact(V ()).2.1
   |exact(V ()).2.2.1
   |exact(V ()).2.2.2.1
   |exact(V ()).2.2.2.2.1
   |exact(V ()).2.2.2.2.2.1
   |exact(V ()).2.2.2.2.2.2
   |exact⟨dA,True.intro⟩
   |exact⟨dB,True.intro⟩
   |omega
   |exact Sup.of rfl
theorem VH (n' d':Int) (hd':d'<0) (h1':L9 n'.natAbs≤400000000) (h2':L9 d'.natAbs≤400000000):aB Tryz.prog 137 [zv n',zv d'] (.str (txQ (Rat.divInt n' d'))):=by
 have hdi:Rat.divInt n' d'=Rat.divInt (-n') (-d'):=by rw[Rat.divInt_neg',Int.neg_neg]
 rw[hdi];have en:(-sgz (decide (n'<0)) (v9 (dl B9 n'.natAbs)))= -n':=by rw[uY]
 have ed:(-sgz (decide (d'<0)) (v9 (dl B9 d'.natAbs)))= -d':=by rw[uY]
 obtain⟨n,hn⟩:∃n,n= -n':=⟨_,rfl⟩;obtain⟨d,hdd⟩:∃d,d= -d':=⟨_,rfl⟩;rw[<-hn,<-hdd];have hd:0<d:=qqO;have h1:L9 n.natAbs≤400000000:=by rw[hn,aoi];exact h1'
 have h2:L9 d.natAbs≤400000000:=by rw[hdd,aoi];exact h2'
 rw[<-hn]at en;rw[<-hdd]at ed;have Z:∀_:Unit,(D9 (dl B9 n'.natAbs)/\decide (n'<0)=decide (sgz (decide (n'<0)) (v9 (dl B9 n'.natAbs))<0))/\(D9 (dl B9 d'.natAbs)/\decide (d'<0)=decide (sgz (decide (d'<0)) (v9 (dl B9 d'.natAbs))<0))/\L9 (sgz (decide (n'<0)) (v9 (dl B9 n'.natAbs))).natAbs≤400000000/\L9 (sgz (decide (d'<0)) (v9 (dl B9 d'.natAbs))).natAbs≤400000000:=λ_=>⟨GH _,GH _,by rw[uY];exact h1',by rw[uY];exact h2'⟩
 obtain⟨A,B,G,hA,hB,hG,hlA,hlB,hlG,hne,hAi,hBi,hone,htx⟩:=rM n d hd h1 h2;rw[htx];clear htx;rw[hG]at hA hB;have tl0:(⟨#[47]⟩:ByteArray).size=1:=rfl;have tl1:∀z:Int,(itB z++⟨#[47]⟩).size=(itB z).size+1:=λz=>by rw[ByteArray.size_append];rfl
 have ssz:=NV (decide (n<0)) A;have ssf:∀B:Nat,sgz false B=(B:Int):=λ_=>rfl;have hraw:dl B9 (v9 (dl B9 (-sgz (decide (d'<0)) (v9 (dl B9 d'.natAbs))).natAbs) / v9 (dl B9 ((v9 (dl B9 (-sgz (decide (n'<0)) (v9 (dl B9 n'.natAbs))).natAbs)).gcd (v9 (dl B9 (-sgz (decide (d'<0)) (v9 (dl B9 d'.natAbs))).natAbs)))))=dl B9 B:=by rw[en,ed];simp only[dR,hG,hB]
 have r1:(dl B9 (v9 (dl B9 (-sgz (decide (d'<0)) (v9 (dl B9 d'.natAbs))).natAbs) / v9 (dl B9 ((v9 (dl B9 (-sgz (decide (n'<0)) (v9 (dl B9 n'.natAbs))).natAbs)).gcd (v9 (dl B9 (-sgz (decide (d'<0)) (v9 (dl B9 d'.natAbs))).natAbs)))))).length=(dl B9 B).length:=by rw[hraw]
 have r2:(dl B9 (v9 (dl B9 (-sgz (decide (d'<0)) (v9 (dl B9 d'.natAbs))).natAbs) / v9 (dl B9 ((v9 (dl B9 (-sgz (decide (n'<0)) (v9 (dl B9 n'.natAbs))).natAbs)).gcd (v9 (dl B9 (-sgz (decide (d'<0)) (v9 (dl B9 d'.natAbs))).natAbs)))))).getD (an8 0) 0=(dl B9 B).getD 0 0:=by rw[hraw];rfl
 have V:∀_:Unit,(D9 (dl B9 n.natAbs)/\D9 (dl B9 d.natAbs)/\L9 n.natAbs≤400000000/\L9 d.natAbs≤400000000)/\(D9 (dl B9 n.natAbs)/\D9 (dl B9 G)/\(dl B9 n.natAbs).length≤400000000/\(dl B9 G).length≤400000000/\dl B9 G≠[])/\(D9 (dl B9 d.natAbs)/\D9 (dl B9 G)/\(dl B9 d.natAbs).length≤400000000/\(dl B9 G).length≤400000000/\dl B9 G≠[])/\L9 A≤400000000/\L9 B≤400000000/\((dl B9 A).length≤1000000000000/\D9 (dl B9 A))/\((dl B9 B).length≤1000000000000/\D9 (dl B9 B)):=λ_=>⟨⟨dK _,dK _,h1,h2⟩,⟨dK _,dK _,h1,hlG,hne⟩,⟨dK _,dK _,h2,hlG,hne⟩,hlA,hlB,⟨qqO,dK _⟩,⟨qqO,dK _⟩⟩;have dA:=dK A;have dB:=dK B;clear hlA hlG hne hraw h1 h2;by_cases hB1:B=1
 ·obtain⟨o1,o2⟩:=hone.2 hB1
  clear hone hlB;rw[if_pos hB1];refine au (md:=1) (rf:=[]) mixed ak yS Tryz.func137 qqR qqR qqR ?_
  repeat'((conv=>whnf);first|(intro hq;(try simp only[vw]at hq);try exact aV hq)|apply aI|exact aD|apply nM|apply fM)
  all_goals((try apply vM);(try simp only[vq]at*);try omega)
  all_goals(try(first|exact(Z ()).1|exact(Z ()).2.1|exact(Z ()).2.2.1|exact(Z ()).2.2.2))
  all_goals(try rw[en])
  all_goals(try rw[ed])
  all_goals(try simp only[dR,pU,qG,jX,hA,hB,hG,ssz,ssf,sB0,aoW])
  all_goals first
   |exact(V ()).1
   |exact(V ()).2.1
   |exact(V ()).2.2.1
   |exact(V ()).2.2.2.1
   |exact(V ()).2.2.2.2.2.1
   |exact⟨dA,True.intro⟩
   |exact Sup.of rfl
 ·rw[if_neg hB1]
  have o3:¬((dl B9 B).length=1/\(dl B9 B).getD 0 0=1):=λh=>hB1 (hone.1 h);clear hone hlB;refine au (md:=1) (rf:=[]) mixed ak yS Tryz.func137 qqR qqR qqR ?_
  repeat'((conv=>whnf);first|(intro hq;(try simp only[vw]at hq);try exact aV hq)|apply aI|exact aD|apply nM|apply fM)
  all_goals((try apply vM);(try simp only[vq]at*);try omega)
  all_goals(try(first|exact(Z ()).1|exact(Z ()).2.1|exact(Z ()).2.2.1|exact(Z ()).2.2.2))
  all_goals(try rw[en])
  all_goals(try rw[ed])
  all_goals(try simp only[dR,pU,qG,jX,hA,hB,hG,ssz,ssf,tl0,tl1,sB0,aoW])
  all_goals first
   |exact(V ()).1
   |exact(V ()).2.1
   |exact(V ()).2.2.1
   |exact(V ()).2.2.2.1
   |exact(V ()).2.2.2.2.1
   |exact(V ()).2.2.2.2.2.1
   |exact(V ()).2.2.2.2.2.2
   |exact⟨dA,True.intro⟩
   |exact⟨dB,True.intro⟩
   |omega
   |exact Sup.of rfl
theorem LQ (n d:Int) (hd:d≠0) (h1:L9 n.natAbs≤400000000) (h2:L9 d.natAbs≤400000000):aB Tryz.prog 137 [zv n,zv d] (.str (txQ (Rat.divInt n d))):=by
 by_cases h:0<d
 ·exact VG n d h h1 h2
 ·exact VH n d qqO h1 h2
def NW:PSp:=λxs K=>match xs with| [p,q]=>z1 p λa=>z1 q λb=>VC (b≠0/\L9 a.natAbs≤400000000/\L9 b.natAbs≤400000000)/\K (.str (txQ (Rat.divInt a b)))|_=>False
theorem VI:POK Tryz.prog 137 NW:=aks (C:=λa b=>b≠0/\L9 a.natAbs≤400000000/\L9 b.natAbs≤400000000) (r:=λa b=>.str (txQ (Rat.divInt a b))) λa b h=>LQ a b h.1 h.2.1 h.2.2
theorem RD (q:Rat):(-q).num= -q.num:=Rat.neg_num q
theorem RF (q:Rat):(-q).den=q.den:=Rat.neg_den q
theorem ahS {z:Int} (h:z<0):itB z=kMi++itB (-z):=by
 rw[gX z,gX (-z)];unfold sgB;rw[if_pos h,if_neg qqO,ByteArray.empty_append,aoi]
theorem ahT {q:Rat} (h:q<0):txQ q=kMi++txQ (-q):=by
 have h1:=ahS ((CW q).2 h);unfold txQ;rw[RD,RF];split
 ·exact h1
 ·rw[h1,ByteArray.append_assoc,ByteArray.append_assoc,ByteArray.append_assoc]
theorem Y3 (c:UInt8) (s:ByteArray):((⟨#[c]⟩:ByteArray)++s).extract 1 ((⟨#[c]⟩:ByteArray)++s).size=s:=by
 rw[ext_eq,xB,ByteArray.size_append];have:(⟨#[c]⟩:ByteArray).size=1:=rfl;rw[this];show(⟨((s.data.toList).take (1+s.size-1)).toArray⟩:ByteArray)=s;rw[anB (by rw[lZ];omega),lX]
theorem ahU {q:Rat} (h:q<0):(txQ q).extract 1 (txQ q).size=txQ (-q):=by rw[ahT h];exact Y3 45 _
theorem ae2 (s:ByteArray):preB s kMi=true↔(0<s.size/\((s.data.getD 0 0).toNat:Int)=45):=by
 constructor
 ·intro h
  have:=aeU h rfl;exact⟨this.1,this.2.1⟩
 ·rintro⟨h1,h2⟩
  rcases Bool.eq_false_or_eq_true (preB s kMi)with h|h
  ·exact h
  ·exact absurd h2 ((ahP h rfl).1 h1)
theorem JY (q:Rat):0<(txQ q).size/\(((txQ q).data.getD (an8 0) 0).toNat=(45:Int)↔q<0):=by
 have h0:0<(txQ q).size:=by
  rw[iR,gX,ByteArray.size_append];have:=u7 q.num.natAbs;omega
 refine⟨h0,?_⟩;have h1:=ae2 (txQ q);rw[Y0,decide_eq_true_iff]at h1;rw[h1];exact⟨λh=>⟨h0,h⟩,λh=>h.2⟩
theorem akD {g:FuncId} {C:Rat->Prop} {r:Rat->PV} (h:∀q,C q->aB Tryz.prog g [.str (txQ q)] (r q)):POK Tryz.prog g (λxs K=>match xs with| [.str s]=>VC (isQ s/\C (rdQ s))/\K (r (rdQ s))|_=>False):=by
 intro xs K hk;split at hk
 ·obtain⟨⟨q,rfl⟩,h2⟩:=hk.1.get
  refine⟨_,hk.2,?_⟩;rw[jR]at h2⊢;exact h q h2
 ·exact hk.elim
def sgQ (q:Rat):Int:=if q=0 then 0 else if q<0 then-1 else 1
theorem RG (q:Rat):aB Tryz.prog 27 [.str (txQ q)] (.int .i64 (sgQ q)):=by
 have h:txQ q=⟨#[48]⟩↔q=0:=aeW q;obtain⟨h0,h1⟩:=JY q;unfold sgQ;refine au (md:=1) (rf:=[]) mixed ak aC Tryz.func27 qqR qqR qqR ?_;refine wk3 (λhq=>?_) (λhq hq hq=>?_) λhq hq hq=>?_;all_goals first
  |(rw[if_pos (h.1 hq)];exact Sup.of rfl)
  |(have hz:¬q=0:=λe=>(by assumption:¬_) (h.2 e);rw[if_neg hz,if_pos (h1.1 hq)];exact Sup.of rfl)
  |(have hz:¬q=0:=λe=>(by assumption:¬txQ q=_) (h.2 e);rw[if_neg hz,if_neg (λe=>hq (h1.2 e))];exact Sup.of rfl)
def VJ:PSp:=λxs K=>match xs with| [.str s]=>VC (isQ s/\True)/\K (.int .i64 (sgQ (rdQ s)))|_=>False
theorem Y4:POK Tryz.prog 27 VJ:=akD (C:=λ_=>True) (r:=λq=>.int .i64 (sgQ q)) λq _=>RG q
theorem ae3 {q:Rat}:sgQ q<0↔q<0:=by
 unfold sgQ;split
 ·rename_i h;subst h;simp
 ·split<;>simp_all
noncomputable def ajh:CPT:=ay 27 (aJ VJ) noC
theorem Y5:aZ Tryz.prog ajh:=aj (aA Y4) aC
def xE (q:Rat):Rat:=if q<0 then-q else q
theorem ahV (q:Rat) (hs:(txQ q).size≤1000000000000):aB Tryz.prog 154 [.str (txQ q)] (.str (txQ (xE q))):=by
 have h0:=(JY q).1;have hc:= @ahU q;have h1:= @ae3 q;unfold xE;refine au (md:=1) (rf:=[]) mixed ak Y5 Tryz.func154 qqR qqR qqR ?_;refine wk3 ?_ (λhq=>?_) λhq=>?_;all_goals(try rw[jR]at hq)
 all_goals first
  |exact sJ q
  |(rw[if_pos (h1.1 hq)];exact(hc (h1.1 hq))▸Sup.of rfl)
  |(rw[if_neg (λe=>hq (h1.2 e))];exact Sup.of rfl)
def abE:PSp:=λxs K=>match xs with| [.str s]=>VC (isQ s/\s.size≤1000000000000)/\K (.str (txQ (xE (rdQ s))))|_=>False
theorem ae4:POK Tryz.prog 154 abE:=by
 intro xs K hk;unfold abE at hk;split at hk
 ·obtain⟨⟨q,rfl⟩,h2⟩:=hk.1.get
  refine⟨_,hk.2,?_⟩;rw[jR];exact ahV q h2
 ·exact hk.elim
noncomputable def akE:CPT:=ay 123 (aJ JQ) noC
theorem Eu:aZ Tryz.prog akE:=aj (aA YS) aC
theorem VK (q:Rat) (hs:(txQ q).size≤1099511627776):aB Tryz.prog 155 [.str (txQ q)] (.str (itB q.num)):=by
 have hsl:=lI q;have hh:=sI q;have hsz:=iR q;have hle:(itB q.num).size≤(txQ q).size:=qqO;clear hsz;refine au (md:=1) (rf:=[]) mixed ak Eu Tryz.func155 qqR qqR qqR ?_;refine wk1 ?_;all_goals(try simp only[hsl,anG,hh])
 all_goals first
  |omega
  |exact Sup.of rfl
theorem VL (q:Rat) (hs:(txQ q).size≤1099511627776):aB Tryz.prog 156 [.str (txQ q)] (.str (itB (q.den:Int))):=by
 have hsl:=lI q;have hh:=sI q;have hsz:=iR q;have ei:(((itB q.num).size:Int)+1).toNat=(itB q.num).size+1:=qqO;by_cases h:q.den=1
 ·rw[if_pos h]at hsz
  have e:itB ((q.den:Nat):Int)=⟨#[49]⟩:=by rw[h,pQ];unfold bF;rw[dec_lt qqO];rfl
  rw[e];refine au (md:=1) (rf:=[]) mixed ak Eu Tryz.func156 qqR qqR qqR ?_;refine wk1 λhq=>?_;all_goals(try simp only[hsl])
  all_goals first
   |omega
   |exact Sup.of rfl
 ·rw[if_neg h]at hsz
  have ht:=yP h;rw[l6]at ht;refine au (md:=1) (rf:=[]) mixed ak Eu Tryz.func156 qqR qqR qqR ?_;refine wk1 λhq=>?_;all_goals(try simp only[hsl,ei,ht])
  all_goals first
   |omega
   |exact Sup.of rfl
theorem abF {g:FuncId} {n:Nat} {r:Rat->PV} (h:∀q,(txQ q).size≤n->aB Tryz.prog g [.str (txQ q)] (r q)):POK Tryz.prog g (λxs K=>match xs with| [.str s]=>VC (isQ s/\s.size≤n)/\K (r (rdQ s))|_=>False):=by
 intro xs K hk;split at hk
 ·obtain⟨⟨q,rfl⟩,h2⟩:=hk.1.get
  refine⟨_,hk.2,?_⟩;rw[jR];exact h q h2
 ·exact hk.elim
def aji:PSp:=λxs K=>match xs with| [.str s]=>VC (isQ s/\s.size≤1099511627776)/\K (.str (itB (rdQ s).num))|_=>False
theorem ae5:POK Tryz.prog 155 aji:=abF (r:=λq=>.str (itB q.num)) VK
def ajj:PSp:=λxs K=>match xs with| [.str s]=>VC (isQ s/\s.size≤1099511627776)/\K (.str (itB ((rdQ s).den:Int)))|_=>False
theorem ae6:POK Tryz.prog 156 ajj:=abF (r:=λq=>.str (itB (q.den:Int))) VL
theorem ahW (q:Rat):(xE q).num=(q.num.natAbs:Nat)/\(xE q).den=q.den:=by
 unfold xE;by_cases h:q<0
 ·rw[if_pos h]
  have:=(CW q).2 h;refine⟨?_,rfl⟩;have e:(-q).num= -q.num:=rfl;rw[e];omega
 ·rw[if_neg h]
  have:¬q.num<0:=λg=>h ((CW q).1 g);exact⟨qqO,rfl⟩
theorem ae7 (q:Rat):rH (txQ q)=decide (q.den≠1):=by
 unfold rH;rw[lI,iR,decide_eq_decide];by_cases h:q.den=1
 ·rw[if_pos h];omega
 ·rw[if_neg h];omega
theorem ae8 (q:Rat):nH (txQ q)=itB q.num:=by
 unfold nH;rw[lI];split
 ·exact sI q
 ·rename_i h
  have:q.den=1:=by
   refine Decidable.byContradiction λg=>h ?_;rw[iR,if_neg g];omega
  exact qH this
theorem ae9 {q:Rat} (h:¬q.den=1):nI (txQ q)=bF q.den:=by
 unfold nI;rw[lI,if_pos,yP h];rw[iR,if_neg h];omega
theorem jK {c d:CL} (h:gW c d) {S:Imm} {w:World} {ι:Ix} {t:Tok} {v:Value} (hr:Rep S w ι (.isl c t) v):Rep S w ι (.isl d .none) v:=by
 have hc:=h.cnt;have he:=h.esz;have hn:d.ncell=c.ncell:=by rw[bI,bI,hc,he]
 cases hr with
 |islnil _ _ _ g=>exact .islnil _ _ _ (by rw[hc];exact g)
 |isl _ _ _ b off cap h1 h2 h3 h4 h5=>
  rw[<-hc];refine .isl _ _ _ b off cap (by rw[hc];exact h1) (λj hj=>h2 j qqO) (λj hj=>by rw[h.get j qqO];exact h3 j qqO) (λg=>by cases g) (λk g=>by cases g)
theorem Y6 {c d:CL} (h:gW c d) (t:Tok):Sup (.isl c t) (.isl d .none):=⟨λhr=>jK h hr⟩
theorem JZ {p p' q q':PV} (h1:∀{S:Imm} {w:World} {ι:Ix} {v:Value},Rep S w ι p v->Rep S w ι p' v) (h2:∀{S:Imm} {w:World} {ι:Ix} {v:Value},Rep S w ι q v->Rep S w ι q' v):Sup (.tup [p,q]) (.tup [p',q']):=⟨λhr=>by
 cases hr with
 |tup _ _ vs hl hh=>
  refine .tup _ _ vs hl λi hi=>?_;have:i=0∨i=1:=by simp at hi;omega
  rcases this with rfl|rfl
  ·exact h1 (hh 0 qqS)
  ·exact h2 (hh 1 qqS)⟩
theorem vg {c d:CL} (h:gW c d) (t:Tok) (q:PV):Sup (.tup [.isl c t,q]) (.tup [.isl d .none,q]):=JZ (λhr=>jK h hr) (λhr=>hr)
theorem Ah {d:CL} (h:d.cnt=0) (q:PV):Sup (.tup [.nils,q]) (.tup [.isl d .none,q]):=JZ (λhr=>by cases hr;exact .islnil _ _ _ h) (λhr=>hr)
theorem CX {cs:List PV} {n:Nat} {f:Nat->PV} (hl:cs.length=n) (h:∀i,i<n->aG cs i=f i):gW (.pv cs) (.gen n f):=⟨by simp[CL.cnt,hl],rfl,λj hj=>by simp only[CL.ncell]at hj;simp only[CL.get];exact(h j qqO).symm⟩
theorem afa {q:Rat} (h:q.den=1):can q=⟨nrm q.num,gD⟩:=by
 unfold can;rw[h];congr 1
noncomputable def akF:CPT:=ay 176 (aJ Rq) (ay 179 (aJ Gz) (ay 112 (aU xu) noC))
theorem NY:aZ Tryz.prog akF:=aj (aA Vr) (aj (aA Nu) (aj (aF uW) aC))
theorem VN (q:Rat) (hs:(txQ q).size≤1000000000):aB Tryz.prog 115 [.str (txQ q)] (frV (can q)):=by
 have h1:=ae7 q;have h2:=ae8 q;have h3:=Vz q.num;have h4:=Vz (q.den:Int);have h5:=CV q.num;have h6:=CV (q.den:Int);have h7:=iR q;by_cases hd:q.den=1
 ·rw[afa hd]
  rw[decide_eq_false (p:=q.den≠1) (λg=>g hd)]at h1;refine au (md:=1) (rf:=[]) mixed ak NY Tryz.func115 qqR qqR qqR ?_;refine wk5 (λhq=>?_) (λhq=>?_) (λhq=>?_) (λhq=>?_) λhq=>?_;all_goals(try simp only[h1,h2,h5]at*)
  all_goals first
   |omega
   |contradiction
   |(exfalso;simp_all;done)
   |exact⟨qqO,h3⟩
   |exact Sup.of rfl
 ·have h8:=ae9 hd
  rw[l6]at h8;rw[if_neg hd,l6]at h7;rw[decide_eq_true (p:=q.den≠1) hd]at h1;refine au (md:=1) (rf:=[]) mixed ak NY Tryz.func115 qqR qqR qqR ?_;refine wk5 (λhq=>?_) (λhq=>?_) (λhq=>?_) (λhq=>?_) λhq=>?_;all_goals(try simp only[h1,h2,h5,h6,h8]at*)
  all_goals first
   |omega
   |contradiction
   |(exfalso;simp_all;done)
   |exact⟨qqO,h3⟩
   |exact⟨qqO,h4⟩
   |exact Sup.of rfl
def GQ:PSp:=λxs K=>match xs with
 | [.str s]=>VC (isQ s/\s.size≤1000000000)/\K (frV (can (rdQ s)))
 |_=>False
theorem NZ:POK Tryz.prog 115 GQ:=by
 intro xs K hk;unfold GQ at hk;split at hk
 ·obtain⟨⟨q,rfl⟩,h2⟩:=hk.1.get
  refine⟨_,hk.2,?_⟩;rw[jR];exact VN q h2
 ·exact hk.elim
def rsS (q:Rat):ByteArray:=if lgQ q=true then⟨#[]⟩else txQ q
def rsE (q:Rat):Int:=if lgQ q=true then 4 else 0
noncomputable def akG:CPT:=ay 192 (aU JH) (ay 193 (aU Q7) noC)
theorem afb:aZ Tryz.prog akG:=aj (aF JI) (aj (aF NA) aC)
theorem LU (a:Fr) (h:FT a):aB Tryz.prog 111 [frV a] (.tup [.str (rsS a.val),.int .i64 (rsE a.val)]):=by
 unfold rsS rsE;cases hl:lgQ a.val
 all_goals(
  refine au (md:=1) (rf:=[]) mixed ak afb Tryz.func111 qqR qqR qqR ?_;refine wk2 (λhq=>?_) λhq=>?_;all_goals(try simp only[cu,hl]at*)
  all_goals first
   |exact h
   |contradiction
   |exact Sup.of rfl
   )
def GR:PSp:=λxs K=>match xs with| [p]=>fr1 p λa=>VC (FT a)/\K (.tup [.str (rsS a.val),.int .i64 (rsE a.val)])|_=>False
theorem Ev:POK Tryz.prog 111 GR:=Ab (C:=λa=>FT a) (r:=λa=>.tup [.str (rsS a.val),.int .i64 (rsE a.val)]) λa h=>LU a h
noncomputable def akH:CPT:=ay 108 (aU ofP) (ay 136 (aU QY) (ay 111 (aU GR) noC))
theorem N7:aZ Tryz.prog akH:=aj (aF oU) (aj (aF Nw) (aj (aF Ev) aC))
def ofS (a n:Int):ByteArray:=if n=0 then⟨#[]⟩else rsS (Rat.divInt a n)
def ofE (a n:Int):Int:=if n=0 then 6 else rsE (Rat.divInt a n)
theorem J2 (a n:Int) (ha:iO a) (hn:iO n):aB Tryz.prog 39 [.int .i64 a,.int .i64 n] (.tup [.str (ofS a n),.int .i64 (ofE a n)]):=by
 unfold ofS ofE;have oa:(⟨a,[]⟩:NI).OK:=.inl ⟨rfl,ha⟩;have on:(⟨n,[]⟩:NI).OK:=.inl ⟨rfl,hn⟩;have la:(⟨a,[]⟩:NI).L≤1:=by unfold NI.L;rw[NI.val_sm];refine ow ?_;unfold iO at ha;omega
 have ln:(⟨n,[]⟩:NI).L≤1:=by unfold NI.L;rw[NI.val_sm];refine ow ?_;unfold iO at hn;omega
 by_cases h0:n=0
 ·rw[if_pos h0,if_pos h0]
  refine au (md:=1) (rf:=[]) mixed ak N7 Tryz.func39 qqR qqR qqR ?_;refine wk1 λhq=>?_;all_goals first|omega|exact Sup.of rfl
 ·rw[if_neg h0,if_neg h0]
  have hft:FT (gF ⟨a,[]⟩ ⟨n,[]⟩):=by
   refine⟨Yv oa on,?_⟩;unfold Fr.L;rw[FC];exact als (UQ (show NI.val ⟨n,[]⟩≠0 from h0) la ln) qqD
  have hv:(gF ⟨a,[]⟩ ⟨n,[]⟩).val=Rat.divInt a n:=FC;refine au (md:=1) (rf:=[]) mixed ak N7 Tryz.func39 qqR qqR qqR ?_;refine wk2 (λhq=>?_) λhq=>?_;all_goals(try simp only[cu,hv])
  all_goals first
   |omega
   |exact⟨oa,on,h0,qqO,qqO⟩
   |exact hft
   |exact Sup.of rfl
end Go.Eng.YtmkagljofpddpaaGreatDoor
namespace Go.Eng.Pm
set_option linter.unusedSimpArgs false
set_option linter.unusedVariables false
theorem ahX:∀(N:Nat) (c:Nat->Nat),(∀i,i<N+1->c i<N)->∃i j,i<j/\j<N+1/\c i=c j:=by
 intro N;induction N with
 |zero=>intro c h;have:=h 0 qqO;omega
 |succ N ih=>
  intro c h;by_cases hv:∃i,i<N+1/\c i=c (N+1)
  ·obtain⟨i,h1,h2⟩:=hv;exact⟨i,N+1,qqO,qqO,h2⟩
  ·have hne:∀i,i<N+1->c i≠c (N+1):=λi hi e=>hv ⟨i,hi,e⟩
   have hl:=h (N+1) qqO;obtain⟨i,j,h1,h2,h3⟩:=ih (λi=>if c i=N then c (N+1)else c i) (λi hi=>by
    have a:=h i qqO;have b:=hne i hi;by_cases e:c i=N
    ·simp only[e,if_true];omega
    ·simp only[e,if_false];omega)
   refine⟨i,j,h1,qqO,?_⟩;have a:=hne i qqO;have b:=hne j qqO;by_cases e1:c i=N
   ·by_cases e2:c j=N
    ·omega
    ·simp only[e1,e2,if_true,if_false]at h3;omega
   ·by_cases e2:c j=N
    ·simp only[e1,e2,if_true,if_false]at h3;omega
    ·simp only[e1,e2,if_false]at h3;exact h3
theorem FK {p:Nat->Bool} {n:Nat} (h:∀i,i<n->p i=false):(alA n).find? p=none:=by
 simp only[an1,anj];exact λi hi=>by simp[h i hi]
theorem VO {p:Nat->Bool} {n y:Nat} (hy:y<n) (hp:p y=true) (h:∀i,i<y->p i=false):(alA n).find? p=some y:=by
 have e:alA n=alA y++(y::List.range' (y+1) (n-y-1)):=by
  rw[anb,anb,show n=y+(1+(n-y-1)) by omega,<-apB,<-apB]
  simp
 rw[e,List.find?_append,FK h];simp[hp]
def jl (f:Nat->Int) (n:Nat):Int:=match(alA n).find? (λi=>decide (f i≠0))with
 |some i=>f i
 |none=>0
theorem nW {f:Nat->Int} {n:Nat} (h:∀i,i<n->f i=0):jl f n=0:=by
 unfold jl;rw[FK (λi hi=>by simpa using h i hi)]
theorem nX {f:Nat->Int} {n y:Nat} (hy:y<n) (hp:f y≠0) (h:∀i,i<y->f i=0):jl f n=f y:=by
 unfold jl;rw[VO hy (by simpa using hp) (λi hi=>by simpa using h i hi)]
theorem LV {f:Nat->Int} {n:Nat} (h:jl f n=0):∀i,i<n->f i=0:=by
 intro i hi;unfold jl at h;cases hf:(alA n).find? (λi=>decide (f i≠0))with
 |some j=>
  rw[hf]at h;have:=apC hf;simp only[decide_eq_true_eq]at this;exact absurd h this
 |none=>
  rw[an1]at hf;simpa using hf i (by simpa using hi)
theorem J3 (l:List Int) (b:Int):b∈l↔∃i,i<l.length/\l.getD i 0=b:=by
 rw[List.mem_iff_getElem];constructor
 ·rintro⟨i,hi,e⟩;exact⟨i,hi,by rw[alC,alH hi];exact e⟩
 ·rintro⟨i,hi,e⟩;exact⟨i,hi,by rw[alC,alH hi]at e;exact e⟩
theorem Gc (l:List Int) (b:Int) (i:Nat) (hi:i<l.length):b∈l.take (i+1)↔b∈l.take i∨b=l.getD i 0:=by
 have e:l.take (i+1)=l.take i++[l.getD i 0]:=by rw[List.take_add_one,alC,alH hi];rfl
 rw[e,alD,apz]
def Ew (p:List Int) (i:Nat):Int:=if p.getD i 0<0∨p.length≤p.getD i 0∨p.getD i 0∈p.take i then 14 else 0
def xG (e1:Int) (p:List Int):Int:=if 256<p.length then e1 else jl (Ew p) p.length
def kN (p:List Int) (i:Nat):List Bool:=(alA p.length).map λx:Nat=>decide ((x:Int)∈p.take i)
theorem VP (p:List Int) (i:Nat):(kN p i).length=p.length:=by simp[kN]
theorem Y7 (p:List Int) (i:Nat) (x:Int) (h:0≤x/\x<p.length):(kN p i).getD x.toNat false=decide (x∈p.take i):=by
 have:x.toNat<p.length:=qqO;simp[kN,alC,this,show max x 0=x by omega]
theorem RH (p:List Int):alL p.length false=kN p 0:=by
 refine anz (by simp[kN]) λj h1 h2=>by simp[kN]
theorem RI (p:List Int) (i:Nat) (hi:i<p.length) (h:0≤p.getD i 0/\p.getD i 0<p.length):(kN p i).set (p.getD i 0).toNat true=kN p (i+1):=by
 refine anz (by simp[kN]) λj h1 h2=>?_
 rw[anD];have hj:j<p.length:=by simpa [kN]using h1
 simp only[kN,anE,anF,Gc p _ i hi];by_cases e:(p.getD i 0).toNat=j
 ·rw[if_pos e];exact(decide_eq_true (.inr qqO)).symm
 ·rw[if_neg e]
  have:¬((j:Int)=p.getD i 0):=qqO;simp only[this,or_false]
structure OK (p:List Int):Prop where
 rng:∀i,i<p.length->0≤p.getD i 0/\p.getD i 0<p.length
 inj:∀i j,i<p.length->j<p.length->p.getD i 0=p.getD j 0->i=j
theorem Y8 {p:List Int} {i j:Nat} (hi:i<j) (hj:j≤p.length):p.getD i 0∈p.take j:=by
 rw[J3];refine⟨i,by rw[amh];omega,?_⟩
 simp[alC,ami,hi]
theorem ajk {p:List Int} {e:Int} (he:e≠0) (h:xG e p=0):OK p:=by
 unfold xG at h;split at h
 ·exact absurd h he
 have hz:=LV h;have h1:∀i,i<p.length->0≤p.getD i 0/\p.getD i 0<p.length/\p.getD i 0∉p.take i:=λi hi=>by
  have:=hz i hi;unfold Ew at this;split at this
  ·omega
  ·rename_i hn
   exact⟨qqO,qqO,λhm=>hn (.inr (.inr hm))⟩
 have h2:∀i j,i<j->j<p.length->p.getD i 0≠p.getD j 0:=λi j hi hj e=>(h1 j hj).2.2 (by rw[<-e];exact Y8 hi qqO)
 refine⟨λi hi=>⟨(h1 i hi).1,(h1 i hi).2.1⟩,λi j hi hj e=>?_⟩;rcases Nat.lt_trichotomy i j with g|g|g
 ·exact absurd e (h2 i j g hj)
 ·exact g
 ·exact absurd e.symm (h2 j i g hi)
theorem Y9 {p:List Int} {e:Int} (he:e≠0) (h:xG e p=0):p.length≤256:=by
 unfold xG at h;split at h
 ·exact absurd h he
 ·omega
def ap (p:List Int) (x:Nat):Nat:=(p.getD x 0).toNat
def it (p:List Int):Nat->Nat->Nat
 |0,x=>x
 |k+1,x=>ap p (it p k x)
theorem ajl {p:List Int} (h:OK p) {x:Nat} (hx:x<p.length):ap p x<p.length:=by
 have:=h.rng x hx;unfold ap;omega
theorem N8 {p:List Int} (h:OK p) {x:Nat} (hx:x<p.length):((ap p x:Nat):Int)=p.getD x 0:=by
 have:=h.rng x hx;unfold ap;omega
theorem ahY {p:List Int} (h:OK p) {x y:Nat} (hx:x<p.length) (hy:y<p.length) (e:ap p x=ap p y):x=y:=
 h.inj x y hx hy (by rw[<-N8 h hx,<-N8 h hy,e])
theorem GU {p:List Int} (h:OK p) {x:Nat} (hx:x<p.length):∀k,it p k x<p.length:=by
 intro k;induction k with
 |zero=>exact hx
 |succ k ih=>exact ajl h ih
theorem ahZ {p:List Int} (h:OK p) {x y:Nat} (hx:x<p.length) (hy:y<p.length):∀k,it p k x=it p k y->x=y:=by
 intro k;induction k with
 |zero=>exact id
 |succ k ih=>exact λe=>ih (ahY h (GU h hx k) (GU h hy k) e)
theorem xH (p:List Int) (x j:Nat):∀k,it p (k+j) x=it p k (it p j x):=by
 intro k;induction k with
 |zero=>rw[alO];rfl
 |succ k ih=>rw[Nat.succ_add];show ap p _=ap p _;rw[ih]
theorem back {p:List Int} (h:OK p) {x:Nat} (hx:x<p.length):∃k,1≤k/\k≤p.length/\it p k x=x:=by
 obtain⟨i,j,h1,h2,h3⟩:=ahX p.length (λi=>it p i x) (λi _=>GU h hx i);refine⟨j-i,qqO,qqO,?_⟩;have e:j=i+(j-i):=qqO;rw[e,xH]at h3;exact(ahZ h hx (GU h hx _) i h3).symm
def per (p:List Int) (x:Nat):Nat:=match(alA p.length).find? (λk=>it p (k+1) x==x)with
 |some k=>k+1
 |none=>0
theorem Ai {p:List Int} (h:OK p) {x:Nat} (hx:x<p.length):1≤per p x/\per p x≤p.length/\it p (per p x) x=x/\∀k,1≤k->k<per p x->it p k x≠x:=by
 obtain⟨k,h1,h2,h3⟩:=back h hx;unfold per;cases e:(alA p.length).find? (λk=>it p (k+1) x==x)with
 |none=>
  have:=an1.1 e (k-1) (anj.2 qqO);rw[apD h1,h3]at this;simp at this
 |some m=>
  simp only;have a1:=anj.1 (anY e);obtain⟨a2,i,hi,a3,a4⟩:=an0.1 e;simp only[anF]at a3;refine⟨qqO,qqO,by simpa using a2,λq hq hlt he=>?_⟩
  have:=a4 (q-1) qqO;simp only[anF]at this;rw[apD hq,he]at this;simp at this
theorem ah0 {p:List Int} (h:OK p) {x:Nat} (hx:x<p.length) (k:Nat):it p (k % per p x) x=it p k x:=by
 obtain⟨h1,h2,h3,h4⟩:=Ai h hx;have hm:∀m,it p (m*per p x) x=x:=by
  intro m;induction m with
  |zero=>rw[amo];rfl
  |succ m ih=>rw[aln,xH,h3,ih]
 have e:k=k % per p x+k / per p x*per p x:=by
  have:=Nat.div_add_mod k (per p x);rw[Nat.mul_comm]at this;omega
 have:=xH p x (k / per p x*per p x) (k % per p x);rw[<-e,hm]at this;exact this.symm
def cyc (p:List Int) (x:Nat):List Int:=(alA (per p x)).map λk=>((it p k x:Nat):Int)
def inC (p:List Int) (x y:Nat):Prop:=∃k,it p k x=y
theorem VQ {p:List Int} (h:OK p) {x y:Nat} (hx:x<p.length) (c:inC p x y):∃k,k<per p x/\it p k x=y:=by
 obtain⟨k,e⟩:=c;exact⟨k % per p x,Nat.mod_lt _ (Ai h hx).1,by rw[ah0 h hx,e]⟩
theorem inC.symm {p:List Int} (h:OK p) {x y:Nat} (hx:x<p.length) (c:inC p x y):inC p y x:=by
 obtain⟨k,hk,e⟩:=VQ h hx c;obtain⟨h1,h2,h3,h4⟩:=Ai h hx;refine⟨per p x-k,?_⟩;rw[<-e,<-xH,apD qqO,h3]
theorem inC.trans {p:List Int} {x y z:Nat} (c:inC p x y) (d:inC p y z):inC p x z:=by
 obtain⟨k,rfl⟩:=c;obtain⟨m,rfl⟩:=d;exact⟨m+k,xH _ _ _ _⟩
theorem inC.refl (p:List Int) (x:Nat):inC p x x:=⟨0,rfl⟩
theorem afc {p:List Int} (h:OK p) {x y:Nat} (hx:x<p.length):((y:Nat):Int)∈cyc p x↔inC p x y:=by
 unfold cyc;rw[apE];constructor
 ·rintro⟨k,_,e⟩
  exact⟨k,qqO⟩
 ·intro c
  obtain⟨k,hk,e⟩:=VQ h hx c;exact⟨k,anj.2 hk,by rw[e]⟩
def inB (p:List Int) (x y:Nat):Bool:=(cyc p x).contains (y:Int)
theorem N9 {p:List Int} (h:OK p) {x y:Nat} (hx:x<p.length):inB p x y=true↔inC p x y:=by
 unfold inB;rw[List.contains_iff_mem,afc h hx]
def hd (p:List Int) (i:Nat):Bool:=!(alA i).any (λj=>inB p j i)
theorem afd {p:List Int} (h:OK p) {i y:Nat} (hi:i≤p.length):(alA i).any (λj=>inB p j y)=true↔∃j,j<i/\inC p j y:=by
 rw[apF];constructor
 ·rintro⟨j,hj,e⟩
  have hj:=anj.1 hj;exact⟨j,hj,(N9 h qqO).1 e⟩
 ·rintro⟨j,hj,c⟩
  exact⟨j,anj.2 hj,(N9 h qqO).2 c⟩
def pw (p:List Int) (k:Int) (x:Nat):Nat:=it p (k % (per p x:Nat)).toNat x
theorem least {p:List Int} (h:OK p):∀(x:Nat),x<p.length->∃i,i≤x/\hd p i=true/\inC p i x:=by
 intro x;induction x using Nat.strongRecOn with
 |_ x ih=>
  intro hx;by_cases hh:hd p x=true
  ·exact⟨x,alo _,hh,.refl p x⟩
  ·unfold hd at hh
   rw[Bool.not_eq_true',Bool.not_eq_false]at hh;obtain⟨j,hj,c⟩:=(afd h qqO).1 hh;obtain⟨i,h1,h2,h3⟩:=ih j hj qqO;exact⟨i,qqO,h2,h3.trans c⟩
end Go.Eng.Pm
namespace Go.Eng.YtmkagljofpddpaaGreatDoor
open Go.Proofs Go.Eng.Dig Go.Eng.Dec Go.Eng.Pm
set_option linter.unusedSimpArgs false
set_option linter.unusedVariables false
set_option maxHeartbeats 0
set_option maxRecDepth 100000
def Aj (l:List ByteArray):Int:=jl (λi=>xD (l.getD i .empty)) l.length
structure RJ (l:List ByteArray):Prop where
 len:l.length≤1000000
 sz:∀i,i<l.length->(l.getD i .empty).size≤1000000000
def RN:PSp:=λxs K=>match xs with
 | [.str a]=>VC (a.size≤1000000000)/\K (.int .i64 (xD a))
 |_=>False
theorem VR:POK Tryz.prog 100 RN:=by
 intro xs K h;unfold RN at h;split at h
 ·exact⟨_,h.2,RB _ h.1.get⟩
 ·exact h.elim
noncomputable def akI:CPT:=ay 100 (aJ RN) noC
theorem Oa:aZ Tryz.prog akI:=aj (aA VR) aC
theorem xI (l:List ByteArray) (h:RJ l):aB Tryz.prog 161 [.isl (.strs l) .none] (.int .i64 (Aj l)):=by
 have hl:=h.len;have hz:=h.sz;unfold Aj;obtain⟨f,hf⟩:∃f:Nat->Int,(λi=>xD (l.getD i .empty))=f:=⟨_,rfl⟩;have hfi:∀i,xD (l.getD i .empty)=f i:=λi=>congrFun hf i;rw[hf];refine au (md:=1) (rf:=[]) mixed ak Oa Tryz.func161 qqR qqR qqR ?_
 repeat'((conv=>whnf);first|intro _|apply aI|exact aD|apply nM|apply fM)
 all_goals((try apply vM);(try simp only[vq]at*);try omega)
 conv=>whnf
 refine aR (X:=Nat) (λi=>i≤l.length/\∀j,j<i->f j=0) (λi=>[(8,.int .i64 i),(4,.any),(5,.any)]) (λ_=>[]) (λi=>l.length-i) 0 ⟨aH,mixed,ak,Oa,aN⟩ qqR ⟨qqO,λj hj=>qqO⟩ ?_ ?_
 ·all_goals exact iG
 intro i ⟨hi,hok⟩;by_cases hlt:i<l.length
 ·have e1:=hfi i
  have e2:=hz i hlt
  repeat'((conv=>whnf);first|(intro hq;(try simp only[vw]at hq);try exact aV hq)|apply aI|exact aD|apply nM|apply fM)
  all_goals((try apply vM);(try simp only[vq]at*);try omega)
  all_goals(try simp only[e1]at*)
  all_goals first
   |omega
   |(rw[nX hlt qqA hok];exact Sup.of rfl)
   |(refine⟨i+1,[],⟨⟨qqO,λj hj=>?_⟩,qqO⟩,?_⟩
     ·by_cases e:j=i
      ·subst e;exact Decidable.not_not.1 qqA
      ·exact hok j qqO
     all_goals exact iG)
 ·have:i=l.length:=qqO
  subst this;rw[nW hok]
  repeat'((conv=>whnf);first|(intro hq;(try simp only[vw]at hq);try exact aV hq)|apply aI|exact aD|apply nM|apply fM)
  all_goals((try apply vM);(try simp only[vq]at*);try omega)
  all_goals first|exact Sup.of rfl
def RO:PSp:=λxs K=>match xs with
 | [.isl (.strs l) .none]=>VC (RJ l)/\K (.int .i64 (Aj l))
 |_=>False
theorem afe:POK Tryz.prog 161 RO:=by
 intro xs K h;unfold RO at h;split at h
 ·exact⟨_,h.2,xI _ h.1.get⟩
 ·exact h.elim
abbrev stV (l:List ByteArray):PV:=.isl (.strs l) .none
def tmV (m:Nat) (f:Nat->List ByteArray):PV:=.isl (.gen m λi=>stV (f i)) .none
def mrE (f:Nat->List ByteArray) (i:Nat):Int:=if 256<(f i).length then 5 else if(f i).length≠(f 0).length then 2 else Aj (f i)
def uf (m:Nat) (f:Nat->List ByteArray):Int:=if 256<m then 5 else jl (mrE f) m
structure RP (m:Nat) (f:Nat->List ByteArray):Prop where
 len:m≤1000000
 row:∀i,i<m->RJ (f i)
noncomputable def akJ:CPT:=ay 161 (aJ RO) (ay 113 (aJ rJ) (ay 114 (aJ lu) noC))
theorem Ey:aZ Tryz.prog akJ:=aj (aA afe) (aj (aA jr) (aj (aA jJ) aC))
theorem LW (m:Nat) (f:Nat->List ByteArray) (h:RP m f):aB Tryz.prog 160 [tmV m f,.fn (.func 161) [] []] (.int .i64 (uf m f)):=by
 have hm:=h.len;have hr:=h.row;have hrl:∀i,i<m->(f i).length≤1000000:=λi hi=>(hr i hi).len;unfold uf;by_cases h256:256<m
 ·rw[if_pos h256]
  refine au (md:=1) (rf:=[]) mixed ak Ey Tryz.func160 qqR qqR qqR ?_;refine wk1 λhq=>?_;all_goals first|omega|exact Sup.of rfl
 rw[if_neg h256];refine au (md:=1) (rf:=[]) mixed ak Ey Tryz.func160 qqR qqR qqR ?_;refine wk1 λhq=>?_;conv=>whnf
 refine aR (X:=Nat) (λi=>i≤m/\∀j,j<i->mrE f j=0) (λi=>[(14,.int .i64 i),(6,.any),(7,.any),(8,.any)]) (λ_=>[]) (λi=>m-i) 0 ⟨aH,mixed,ak,Ey,aN⟩ qqR ⟨qqO,λj hj=>qqO⟩ ?_ ?_
 ·exact wk0
  all_goals skip
 intro i ⟨hi,hok⟩;by_cases hlt:i<m
 ·have e1:mrE f i=if 256<(f i).length then 5 else if(f i).length≠(f 0).length then 2 else Aj (f i):=rfl
  have e2:=hr i hlt;have e3:=hrl i hlt;have e4:=hrl 0 qqO;have fin:mrE f i≠0->jl (mrE f) m=mrE f i:=λa1=>nX hlt a1 hok;have nxt:mrE f i=0->∀j,j<i+1->mrE f j=0:=λa j hj=>by
   by_cases e:j=i
   ·subst e;exact a
   ·exact hok j qqO
  generalize mrE f i=E at*
  refine wk3 (λhq hq=>?_) (λhq hq hq=>?_) λhq hq hq=>?_;all_goals(try simp only[Ag]at*)
  all_goals first
   |(generalize hA:(if(if 256<((f i).length:Int)then(5:Int)else 0)=0 then if((f i).length:Int)≠((f (an8 0)).length:Int)then(2:Int)else 0 else if 256<((f i).length:Int)then(5:Int)else 0)=A at*
     have hE:E=A:=by
      rw[e1,<-hA,show an8 0=0 from rfl];rw[<-hA,show an8 0=0 from rfl]at hq
      (repeat' split)<;>first|rfl|omega|(exfalso;split at hq<;>omega)
     rw[fin (by rw[hE];exact hq),hE];exact Sup.of rfl)
   |(have hE:E=Aj (f i):=by
      rw[e1];rw[show an8 0=0 from rfl]at hq
      (repeat' split)<;>first|rfl|omega|(exfalso;(repeat' split at hq)<;>omega)
     first
      |(rw[fin (by rw[hE];assumption),hE];exact Sup.of rfl)
      |(refine⟨i+1,[],⟨⟨qqO,nxt (by rw[hE];exact Decidable.not_not.1 qqA)⟩,qqO⟩,?_⟩
        exact wk0;all_goals skip))
 ·have:i=m:=qqO
  subst this;rw[nW hok];refine wk1 λhq=>?_;all_goals first|exact Sup.of rfl
def abG (xs:List PV) (r:PV):PSp:=λys K=>VC (ys=xs)/\K r
theorem yT {g:FuncId} {xs:List PV} {r:PV} (h:aB Tryz.prog g xs r):POK Tryz.prog g (abG xs r):=by
 rintro ys K ⟨⟨rfl⟩,hK⟩
 exact⟨r,hK,h⟩
noncomputable def iJ (g:FuncId) (xs:List PV) (r:PV) (C:CPT):CPT:=ay g (aJ (abG xs r)) C
theorem bB {g:FuncId} {xs:List PV} {r:PV} {C:CPT} (h:aB Tryz.prog g xs r) (hC:aZ Tryz.prog C):aZ Tryz.prog (iJ g xs r C):=aj (aA (yT h)) hC
theorem VT (m:Nat) (f:Nat->List ByteArray) (h:RP m f):aB Tryz.prog 71 [tmV m f] (.int .i64 (uf m f)):=by
 have hc:=bB (LW m f h) aC;refine au (md:=1) (rf:=[]) mixed ak hc Tryz.func71 qqR qqR qqR ?_;refine wk1 ?_;all_goals first|rfl|exact Sup.of rfl
def wdt (m:Nat) (f:Nat->List ByteArray):Nat:=if m=0 then 0 else(f 0).length
theorem vk (m:Nat) (f:Nat->List ByteArray) (h:RP m f):aB Tryz.prog 130 [tmV m f] (.int .i64 (wdt m f:Nat)):=by
 have hl:=h.len;unfold wdt;by_cases h0:m=0
 ·subst h0
  refine au (md:=1) (rf:=[]) mixed ak aC Tryz.func130 qqR qqR qqR ?_;refine wk1 λhq=>?_;all_goals first|exact Sup.of rfl|omega
 ·rw[if_neg h0]
  have:=(h.row 0 qqO).len;refine au (md:=1) (rf:=[]) mixed ak aC Tryz.func130 qqR qqR qqR ?_;refine wk1 λhq=>?_;all_goals first|exact Sup.of rfl|omega
theorem abH:Qj.size=1:=qqR
theorem ajm:Qj.bytes=16:=qqR
abbrev frC (a:Fr):List PV:=[.int .i64 a.n.s,.nnl (.ints .u64 a.n.w),.int .i64 a.d.s,.nnl (.ints .u64 a.d.w)]
abbrev frL (w:Nat) (f:Nat->Fr):PV:=.isl (.genr 4 w λi=>frC (f i)) .none
def ixF (f:Nat->Bool) (n:Nat):Int:=match(alA n).find? f with
 |some i=>i
 |none=> -1
theorem J4 {f:Nat->Bool} {n:Nat} (h:∀i,i<n->f i=false):ixF f n= -1:=by
 unfold ixF;cases e:(alA n).find? f with
 |none=>rfl
 |some i=>
  have h1:=apC e;rw[h i (anj.1 (anY e))]at h1;cases h1
theorem J5 {f:Nat->Bool} {n i:Nat} (hi:i<n) (h1:f i=true) (h:∀j,j<i->f j=false):ixF f n=i:=by
 unfold ixF;rw[(an0 (xs:=alA n) (p:=f)).2 ⟨h1,i,by simpa using hi,qqS,λj hj=>by simp[h j hj]⟩]
theorem VU (f:Nat->Bool) (n:Nat):decide (0≤ixF f n)=(alA n).any f:=by
 unfold ixF;cases e:(alA n).find? f with
 |none=>
  rw[an1]at e;rw[show(alA n).any f=false from by
   rw[<-Bool.not_eq_true,apF]
   rintro⟨i,hi,e2⟩
   exact absurd e2 (e i hi)]
  rfl
 |some i=>
  rw[show(alA n).any f=true from apF.2 ⟨i,anY e,apC e⟩];show decide (0≤((i:Nat):Int))=true;exact decide_eq_true qqO
noncomputable def ajn:CPT:=ay 192 (aU JH) noC
theorem J6:aZ Tryz.prog ajn:=aj (aF JI) aC
theorem VW (w:Nat) (f:Nat->Fr) (hw:w≤1000000) (hf:∀i,i<w->FT (f i)):aB Tryz.prog 247 [frL w f,.fn (.func 192) [] []] (.int .i64 (ixF (λi=>lgQ (f i).val) w)):=by
 obtain⟨g,hg⟩:∃g:Nat->Bool,(λi=>lgQ (f i).val)=g:=⟨_,rfl⟩;have hgi:∀i,lgQ (f i).val=g i:=λi=>congrFun hg i;rw[hg];refine au (md:=1) (rf:=[]) mixed ak J6 Tryz.func247 qqR qqR qqR ?_;refine wk1 ?_;conv=>whnf
 refine aR (X:=Nat) (λi=>i≤w/\∀j,j<i->g j=false) (λi=>[(8,.int .i64 i),(5,.any)]) (λ_=>[]) (λi=>w-i) 0 ⟨aH,mixed,ak,J6,aN⟩ qqR ⟨qqO,λj hj=>qqO⟩ ?_ ?_
 ·exact wk0
  all_goals skip
 intro i ⟨hi,hok⟩;by_cases hlt:i<w
 ·have e1:=hgi i
  have e2:=hf i hlt;refine wk3 (λhq=>?_) (λhq hq=>?_) λhq hq=>?_;all_goals(try simp only[cu,e1]at*)
  all_goals first
   |omega
   |exact e2
   |rfl
   |(rw[J5 hlt qqA hok];exact Sup.of rfl)
   |(refine⟨i+1,[],⟨⟨qqO,λj hj=>?_⟩,qqO⟩,?_⟩
     ·by_cases e:j=i
      ·subst e;assumption
      ·exact hok j qqO
     exact wk0;all_goals skip)
 ·have:i=w:=qqO
  subst this;rw[J4 hok];refine wk1 λhq=>?_;all_goals first|exact Sup.of rfl
def kP (w:Nat) (f:Nat->Fr):Bool:=(alA w).any λi=>lgQ (f i).val
theorem VX (w:Nat) (f:Nat->Fr) (hw:w≤1000000) (hf:∀i,i<w->FT (f i)):aB Tryz.prog 220 [frL w f,.fn (.func 192) [] []] (.bp (kP w f)):=by
 have hc:=bB (VW w f hw hf) aC;unfold kP;rw[<-VU];refine au (md:=1) (rf:=[]) mixed ak hc Tryz.func220 qqR qqR qqR ?_;refine wk1 ?_;all_goals first|rfl|exact Sup.of rfl
def txL (w:Nat) (f:Nat->Fr):List ByteArray:=(alA w).map λi=>txQ (f i).val
def txT (w:Nat) (f:Nat->Fr) (t:Nat):List ByteArray:=(alA w).map λi=>if i<t then txQ (f i).val else .empty
theorem aff (w:Nat) (f:Nat->Fr) (t:Nat):(txT w f t).length=w:=by simp[txT]
theorem Za (w:Nat) (f:Nat->Fr):alL w ByteArray.empty=txT w f 0:=by
 refine anz (by simp[txT]) λj h1 h2=>by simp[txT]
theorem Zb (w:Nat) (f:Nat->Fr) (t:Nat):(txT w f t).set t (txQ (f t).val)=txT w f (t+1):=by
 refine anz (by simp[txT]) λj h1 h2=>?_
 rw[anD];simp only[txT,anE,anF];by_cases e:t=j
 ·subst e;simp
 ·rw[if_neg e]
  by_cases g:j<t
  ·rw[if_pos g,if_pos qqO]
  ·rw[if_neg g,if_neg qqO]
theorem afg (w:Nat) (f:Nat->Fr):txT w f w=txL w f:=by
 refine anz (by simp[txT,txL]) λj h1 h2=>?_
 have:j<w:=by simpa [txT]using h1
 simp[txT,txL,this]
noncomputable def ajo:CPT:=ay 193 (aU Q7) noC
theorem J7:aZ Tryz.prog ajo:=aj (aF NA) aC
theorem afh (l:List ByteArray) (n:Nat) (h:l.length=n):Sup (dJ [PV.isl ((CL.strs l).sub 0 n) .none]) (stV l):=by
 subst h;refine Sup.of ?_;simp[dJ,CL.sub]
theorem RQ (w:Nat) (f:Nat->Fr) (hw:w≤1000000) (hf:∀i,i<w->FT (f i)):aB Tryz.prog 221 [frL w f] (stV (txL w f)):=by
 refine au (md:=1) (rf:=[]) mixed ak J7 Tryz.func221 qqR qqR qqR ?_;refine wk3 ?_ ?_ ?_
 ·rw[ajm];omega
 ·exact .inl trivial
 conv=>whnf
 refine aR (X:=Nat) (λi=>i≤w) (λi=>[(11,.int .i64 i),(4,.any),(5,.any)]) (λi=>[(0,.cells (.strs (txT w f i)) false)]) (λi=>w-i) 0 ⟨aH,mixed,ak,J7,aN⟩ qqR qqO ?_ ?_
 ·refine wk1 ?_
  all_goals first|exact Za w f|skip
 intro i hi;have e0:=aff w f i;by_cases hlt:i<w
 ·have e1:=Zb w f i
  have e2:=hf i hlt;refine wk3 (λhq=>?_) (λhq=>?_) λhq=>?_;all_goals(try simp only[cu,abH,alV])
  all_goals first
   |omega
   |exact e2
   |rfl
   |(refine⟨i+1,[],⟨qqO,qqO⟩,?_⟩
     exact wk0;all_goals(try simp only[abH,alV])
     all_goals first|exact e1|exact e1.symm|skip)
 ·have:i=w:=qqO
  subst this;rw[afg]at*;refine wk1 λhq=>?_;all_goals first|omega|exact afh _ _ e0
def rwR (w:Nat) (f:Nat->Fr):PV:=if kP w f=true then .tup [stV [],.int .i64 4]else .tup [stV (txL w f),.int .i64 0]
theorem J8 (w:Nat) (f:Nat->Fr) (hw:w≤1000000) (hf:∀i,i<w->FT (f i)):aB Tryz.prog 171 [frL w f] (rwR w f):=by
 have hc:=bB (VX w f hw hf) (bB (RQ w f hw hf) aC);unfold rwR;cases h:kP w f
 ·rw[if_neg qqS]
  rw[h]at hc;refine au (md:=1) (rf:=[]) mixed ak hc Tryz.func171 qqR qqR qqR ?_;refine wk1 λhq=>?_;all_goals first|rfl|contradiction|exact Sup.of rfl
 ·rw[if_pos rfl]
  rw[h]at hc;refine au (md:=1) (rf:=[]) mixed ak hc Tryz.func171 qqR qqR qqR ?_;refine wk1 λhq=>?_;all_goals first|rfl|contradiction|exact Ah rfl _
def qsL (w:Nat) (q:Nat->Rat):List ByteArray:=(alA w).map λi=>txQ (q i)
theorem gU (w:Nat) (q:Nat->Rat):(qsL w q).length=w:=by simp[qsL]
theorem sM {w:Nat} (q:Nat->Rat) {i:Nat} (hi:i<w):(qsL w q).getD i .empty=txQ (q i):=by simp[qsL,alC,hi]
def frZ:List PV:=[.int .i64 0,.nils,.int .i64 0,.nils]
def fqT (w:Nat) (q:Nat->Rat) (t:Nat):List (List PV):=(alA w).map λi=>if i<t then frC (can (q i))else frZ
def fqL (w:Nat) (q:Nat->Rat):List (List PV):=(alA w).map λi=>frC (can (q i))
theorem afi (w:Nat) (q:Nat->Rat) (t:Nat):(fqT w q t).length=w:=by simp[fqT]
theorem J9 (w:Nat) (q:Nat->Rat):alL w frZ=fqT w q 0:=by
 refine anz (by simp[fqT]) λj h1 h2=>by simp[fqT]
theorem Zc (w:Nat) (q:Nat->Rat) (t:Nat):(fqT w q t).set t (frC (can (q t)))=fqT w q (t+1):=by
 refine anz (by simp[fqT]) λj h1 h2=>?_
 rw[anD];simp only[fqT,anE,anF];by_cases e:t=j
 ·subst e;simp
 ·rw[if_neg e]
  by_cases g:j<t
  ·rw[if_pos g,if_pos qqO]
  ·rw[if_neg g,if_neg qqO]
theorem afj (w:Nat) (q:Nat->Rat):fqT w q w=fqL w q:=by
 refine anz (by simp[fqT,fqL]) λj h1 h2=>?_
 have:j<w:=by simpa [fqT]using h1
 simp[fqT,fqL,this]
theorem rO {α:Type} (l:List α) (f:α->List PV) (h:∀x,iL.inlF (f x)=true):fJ (l.map f):=by
 induction l with
 |nil=>trivial
 |cons x l ih=>exact⟨h x,ih⟩
theorem Kc (w:Nat) (q:Nat->Rat):Xv (.recs 4 (fqL w q)):=rO _ _ λi=>rfl
theorem Ob (w:Nat) (q:Nat->Rat) (t:Nat):fJ (fqT w q t):=rO _ _ λi=>by split<;>rfl
theorem afk (w:Nat) (q:Nat->Rat):fJ (alL w frZ):=by rw[J9 w q];exact Ob _ _ _
noncomputable def akK:CPT:=ay 115 (aJ GQ) noC
theorem Oc:aZ Tryz.prog akK:=aj (aA NZ) aC
theorem ah1:qR.bytes=64:=qqR
theorem sN:qR.size=4:=qqR
theorem FL (w:Nat) (q:Nat->Rat) (hw:w≤1000000) (hq:∀i,i<w->(txQ (q i)).size≤1000000000):dN Tryz.prog 172 [stV (qsL w q)] [] [.rsc 0 4 w] [.rowo (.recs 4 (fqL w q))]:=by
 refine eB (md:=1) (rf:=[6008]) mixed ak Oc 0 [(0,0)] Tryz.func172 qqR qqR qqR ?_;have hlen:=gU w q;have hat:=λi (hi:i<w)=>sM q hi;generalize qsL w q=l at*
 subst hlen;refine wk3 ?_ ?_ ?_
 ·rw[ah1];omega
 ·exact .inl trivial
 conv=>whnf
 refine aR (X:=Nat) (λi=>i≤l.length) (λi=>[(11,.int .i64 i),(4,.any),(5,.any)]) (λi=>[(0,.cells (.recs 4 (fqT l.length q i)) false)]) (λi=>l.length-i) 0 ⟨aH,mixed,ak,Oc,aN⟩ qqR qqO ?_ ?_
 ·refine wk1 ?_
  all_goals first|exact⟨J9 _ q,afk _ q⟩|skip
 intro i hi;have e0:=afi l.length q i;by_cases hlt:i<l.length
 ·have e1:=Zc l.length q i
  have e6:fJ ((fqT l.length q i).set i (frC (can (q i)))):=by rw[e1];exact Ob _ _ _
  have e2:=hq i hlt;have e3:=hat i hlt;have e4:rdQ (l.getD i .empty)=q i:=by rw[e3,jR]
  have e5:isQ (l.getD i .empty)/\(l.getD i .empty).size≤1000000000:=⟨by rw[e3];exact sJ _,by rw[e3];exact e2⟩
  refine wk2 (λhq=>?_) λhq=>?_;all_goals(try simp only[e4])
  all_goals first
   |omega
   |exact e5
   |rfl
   |(refine⟨i+1,[],⟨qqO,qqO⟩,?_⟩
     refine wk1 ?_;all_goals first|exact⟨e1,e6⟩|skip)
 ·have:i=l.length:=qqO
  subst this;rw[afj];refine wk1 λhq=>?_;all_goals first|omega|exact⟨rfl,Kc _ _⟩|exact Kc _ _
noncomputable def fsL (l:List ByteArray):List (List PV):=l.map λs=>frC (can (rdQ s))
theorem Ez (l:List ByteArray):(fsL l).length=l.length:=by simp[fsL]
theorem VY (w:Nat) (q:Nat->Rat):fsL (qsL w q)=fqL w q:=by
 unfold fsL qsL fqL;rw[List.map_map];refine anC λi _=>?_;show frC (can (rdQ (txQ (q i))))=_;rw[jR]
structure Ak (l:List ByteArray):Prop where
 len:l.length≤1000000
 ok:∀i,i<l.length->isQ (l.getD i .empty)/\(l.getD i .empty).size≤1000000000
theorem afl {l:List ByteArray} (h:Ak l):l=qsL l.length λi=>rdQ (l.getD i .empty):=by
 refine anz (by simp[qsL]) λi h1 h2=>?_
 obtain⟨⟨q,hq⟩,_⟩:=h.ok i h1;simp only[qsL,anE,anF];rw[hq,jR];rw[alC,alH h1]at hq;exact hq
theorem Ak.qs {w:Nat} {q:Nat->Rat} (hw:w≤1000000) (hq:∀j,j<w->(txQ (q j)).size≤1000000000):Ak (qsL w q):=
 ⟨by rw[gU];exact hw,λi hi=>by rw[gU]at hi;rw[sM _ hi];exact⟨sJ _,hq i hi⟩⟩
theorem RS (l:List ByteArray) (h:Ak l):dN Tryz.prog 172 [stV l] [] [.rsc 0 4 l.length] [.rowo (.recs 4 (fsL l))]:=by
 have e:=afl h;obtain⟨w,hw⟩:∃w,w=l.length:=⟨_,rfl⟩;obtain⟨q,hq⟩:∃q:Nat->Rat,q=λi=>rdQ (l.getD i .empty):=⟨_,rfl⟩;rw[<-hw,<-hq]at e;have hl:=h.len;have hs:∀i,i<w->(txQ (q i)).size≤1000000000:=λi hi=>by
  have:=(h.ok i qqO).2;rw[e,sM _ hi]at this;exact this
 rw[<-hw,e,VY];exact FL w q qqO hs
noncomputable def abI:LSp:=λys os K=>match ys,os with
 | [.isl (.strs l) .none],[]=>VC (Ak l)/\K [.rsc 0 4 l.length] [.rowo (.recs 4 (fsL l))]
 |_,_=>False
theorem Zd:LOK Tryz.prog 172 abI:=by
 intro xs objs K hk;unfold abI at hk;split at hk
 ·exact⟨_,_,hk.2,RS _ hk.1.get⟩
 ·exact hk.elim
def qmL (w:Nat) (q:Nat->Nat->Rat):Nat->List ByteArray:=λi=>qsL w (q i)
noncomputable def fqM (m w:Nat) (q:Nat->Nat->Rat):AO:=.qmat m (λ_=>2) (λi=>.recs 4 (fsL (qsL w (q i))))
theorem xJ (m w:Nat) (q:Nat->Nat->Rat) (hm:1≤m/\m≤256) (hw:w≤256) (hq:∀i,i<m->∀j,j<w->(txQ (q i j)).size≤1000000000) (hz:uf m (qmL w q)=0):
 dN Tryz.prog 129 [tmV m (qmL w q)] [] [.rsl 0 0 m,.int .i64 0] [fqM m w q]:=by
 have hc:=bB (VT m (qmL w q) ⟨qqO,λi hi=>⟨by unfold qmL;rw[gU];omega,λj hj=>by unfold qmL at hj⊢;rw[gU]at hj;rw[sM _ hj];exact hq i hi j hj⟩⟩) (aj (g:=172) (bX [] Zd) aC)
 rw[hz]at hc;refine eB (md:=1) (rf:=[4022,23]) mixed ak hc 0 [(5,0)] Tryz.func129 qqR qqR qqR ?_
 repeat'((conv=>whnf);first|intro _|apply aI|exact aD|apply nM|apply fM)
 all_goals((try apply vM);(try simp only[vq]at*);try omega)
 conv=>whnf
 refine aR (X:=Nat) (λi=>i≤m) (λi=>[(15,.int .i64 i),(7,.any),(5,match i with|0=>.nils|j+1=>.rsl 5 0 (j+1))]) (λi=>match i with|0=>[]|j+1=>[(5,fqM (j+1) w q)]) (λi=>m-i) 0 ⟨aH,mixed,ak,hc,aN⟩ qqR qqO ?_ ?_
 ·all_goals exact iG
 intro i hi;have hQ:∀j,j<m->Ak (qsL w (q j)):=λj hj=>Ak.qs qqO (hq j hj);have hL:∀j,(fsL (qsL w (q j))).length=w:=λj=>by rw[Ez,gU]
 have hL2:∀j,(qsL w (q j)).length=w:=λj=>gU w (q j);cases i with
 |zero=>
  have h0:=hQ 0 qqO
  repeat'((conv=>whnf);first|(intro hq;(try simp only[vw]at hq);try exact aV hq)|apply aI|exact aD|apply nM|apply fM)
  all_goals((try apply vM);(try simp only[vq]at*);try omega)
  all_goals first
   |exact h0
   |(rw[Ez])
   |(refine⟨1,[(9,5)],⟨qqO,qqO⟩,?_⟩
     repeat'((conv=>whnf);first|intro _|apply aI|exact aD|apply nM|apply fM)
     all_goals((try apply vM);(try simp only[vq]at*);try omega)
     all_goals exact⟨λ_ _=>trivial,λi hi _=>by rw[show i=0 by omega];rfl⟩)
 |succ i=>
  by_cases hlt:i+1<m
  ·have h0:=hQ (i+1) hlt
   repeat'((conv=>whnf);first|(intro hq;(try simp only[vw]at hq);try exact aV hq)|apply aI|exact aD|apply nM|apply fM)
   all_goals((try apply vM);(try simp only[vq]at*);try omega)
   all_goals first
    |exact h0
    |(rw[Ez])
    |exact .inr trivial
    |(refine⟨i+2,[(9,5)],⟨qqO,qqO⟩,?_⟩
      repeat'((conv=>whnf);first|intro _|apply aI|exact aD|apply nM|apply fM)
      all_goals((try apply vM);(try simp only[vq]at*);try omega)
      all_goals exact⟨λk _=>by split<;>rfl,λk hk _=>by
       split
       ·rfl
       ·rw[show k=i+1 by omega];rfl⟩)
  ·have:m=i+1:=qqO
   subst this
   repeat'((conv=>whnf);first|(intro hq;(try simp only[vw]at hq);try exact aV hq)|apply aI|exact aD|apply nM|apply fM)
   all_goals((try apply vM);(try simp only[vq]at*);try omega)
   all_goals exact⟨λ_ _=>trivial,λ_ _ _=>trivial⟩
end Go.Eng.YtmkagljofpddpaaGreatDoor
namespace Go.Eng.YtmkagljofpddpaaGreatDoor
open Go.Proofs Go.Eng.Dig Go.Eng.Dec Go.Eng.ElG
set_option linter.unusedSimpArgs false
set_option linter.unusedVariables false
set_option maxHeartbeats 0
set_option maxRecDepth 100000
def RU (C:Fr->Prop) (r:Fr->PV):PSp:=λxs K=>match xs with
 | [.agg [],p]=>fr1 p λa=>VC (C a)/\K (r a)
 |_=>False
def Ke (C:Fr->Fr->Prop) (r:Fr->Fr->PV):PSp:=λxs K=>match xs with
 | [.agg [],p,q]=>fr1 p λa=>fr1 q λb=>VC (C a b)/\K (r a b)
 |_=>False
theorem Od {g:FuncId} {C:Fr->Prop} {r:Fr->PV} (h:∀a,C a->aB Tryz.prog g [.agg [],frV a] (r a)):POK Tryz.prog g (RU C r):=by
 intro xs K hk;unfold RU at hk;split at hk
 ·obtain⟨a,⟨h1,h2⟩,hr⟩:=pO hk
  exact⟨_,h2,dh (λS w vs hA=>by
   refine⟨hA.1,λi hi=>?_⟩;have:=hA.2 i hi
   match i,hi with
   |0,_=>exact this
   |1,_=>exact hr _ _ _ this) (h a h1.get)⟩
 ·exact hk.elim
theorem EA {g:FuncId} {C:Fr->Fr->Prop} {r:Fr->Fr->PV} (h:∀a b,C a b->aB Tryz.prog g [.agg [],frV a,frV b] (r a b)):POK Tryz.prog g (Ke C r):=by
 intro xs K hk;unfold Ke at hk;split at hk
 ·obtain⟨a,hk',hr⟩:=pO hk
  obtain⟨b,⟨h1,h2⟩,hs⟩:=pO (K:=λb=>VC (C a b)/\K (r a b)) hk';exact⟨_,h2,dh (λS w vs hA=>by
   refine⟨hA.1,λi hi=>?_⟩;have:=hA.2 i hi
   match i,hi with
   |0,_=>exact this
   |1,_=>exact hr _ _ _ this
   |2,_=>exact hs _ _ _ this) (h a b h1.get)⟩
 ·exact hk.elim
noncomputable def akL:CPT:=ay 117 (aU YE) (ay 132 (aU ffP) (ay 133 (aU CJ) (ay 182 (aU abx) (ay 230 (aU Q5) noC))))
theorem sO:aZ Tryz.prog akL:=aj (aF UW) (aj (aF CG) (aj (aF yJ) (aj (aF aex) (aj (aF Nz) aC))))
theorem zfr (a:Fr) (h:a.OK):decide (fC a.n.val=0)=decide (a.val=0):=by
 rw[decide_eq_decide,<-Rat.num_eq_zero,Fr.num h];unfold fC
 (repeat' split)<;>omega
theorem Ze (a:Fr) (h:a.OK):aB Tryz.prog 327 [.agg [],frV a] (.bp (decide (a.val=0))):=by
 rw[<-zfr a h];refine au (md:=1) (rf:=[]) mixed ak sO Tryz.func327 qqR qqR qqR ?_;refine wk1 ?_;all_goals(try simp only[cu])
 all_goals first|exact h|exact Sup.of rfl
theorem Zf (a:Fr) (h:FB a/\a.val≠0):aB Tryz.prog 326 [.agg [],frV a] (frV (can (a.val⁻¹))):=by
 refine au (md:=1) (rf:=[]) mixed ak sO Tryz.func326 qqR qqR qqR ?_;refine wk1 ?_;all_goals(try simp only[cu])
 all_goals first|exact h|exact Sup.of rfl
theorem Zg (a b:Fr) (h:FB a/\FB b):aB Tryz.prog 328 [.agg [],frV a,frV b] (frV (can (a.val*b.val))):=by
 refine au (md:=1) (rf:=[]) mixed ak sO Tryz.func328 qqR qqR qqR ?_;refine wk1 ?_;all_goals(try simp only[cu])
 all_goals first|exact h|exact Sup.of rfl
theorem Kg (a b:Fr) (h:FB a/\FB b):aB Tryz.prog 330 [.agg [],frV a,frV b] (frV (iP a b)):=by
 refine au (md:=1) (rf:=[]) mixed ak sO Tryz.func330 qqR qqR qqR ?_;refine wk1 ?_;all_goals(try simp only[cu])
 all_goals first|exact h|exact Sup.of rfl
theorem Zh (n:Int):aB Tryz.prog 329 [.agg [],.int .i64 n] (frV ⟨⟨n,[]⟩,gD⟩):=by
 refine au (md:=1) (rf:=[]) mixed ak sO Tryz.func329 qqR qqR qqR ?_;refine wk1 ?_;all_goals first|exact Sup.of rfl
noncomputable def akM:CPT:=ay 327 (aU (RU Fr.OK λa=>.bp (decide (a.val=0)))) (ay 326 (aU (RU (λa=>FB a/\a.val≠0) λa=>frV (can (a.val⁻¹)))) (ay 328 (aU (Ke (λa b=>FB a/\FB b) λa b=>frV (can (a.val*b.val)))) (ay 330 (aU (Ke (λa b=>FB a/\FB b) λa b=>frV (iP a b))) noC)))
theorem kQ:aZ Tryz.prog akM:=aj (aF (Od Ze)) (aj (aF (Od Zf)) (aj (aF (EA Zg)) (aj (aF (EA Kg)) aC)))
end Go.Eng.YtmkagljofpddpaaGreatDoor
namespace Go.Eng.ElG
abbrev pvI (l:List Nat):List Int:=l.map λi:Nat=>(i:Int)
end Go.Eng.ElG
namespace Go.Eng.YtmkagljofpddpaaGreatDoor
open Go.Proofs Go.Eng.Dig Go.Eng.Dec Go.Eng.ElG
set_option linter.unusedSimpArgs false
set_option linter.unusedVariables false
set_option maxHeartbeats 0
set_option maxRecDepth 100000
theorem fA:Qm.size=1:=qqR
theorem CY:Ql.size=1:=qqR
structure CXf where
 c:Nat
 l:List Nat
 D:bL Fr
structure CIf (cols w m:Nat) (M0:bL Fr) (l0:List Nat) (x:CXf):Prop where
 hc:x.c≤cols
 hl:x.l.length=m
 hn:x.l.Nodup
 hi:∀b,b∈l0->b∈x.l
 ho:∀r,r<m->x.l.getD r 0∈l0
 hD:∀r,r<m->∀j,x.D (x.l.getD r 0) j=(aO Ff w m M0 x.c).M r j
structure RXf where
 i:Nat
 D:bL Fr
structure RIf (w m:Nat) (M:bL Fr) (n c:Nat) (L:List Nat) (x:RXf):Prop where
 hi:x.i≤m
 hD:∀r,r<m->∀j,x.D (L.getD r 0) j=if r<x.i then dG Ff w M n c r j else M r j
abbrev fnM (w:Nat) (D:bL Fr):RC:=.fn 4 w λb j=>frC (D b j)
theorem afm {a b:Fr} (h:frC a=frC b):a=b:=by
 obtain⟨⟨s,w⟩,⟨t,v⟩⟩:=a;obtain⟨⟨s',w'⟩,⟨t',v'⟩⟩:=b;simp only[frC,List.cons.injEq,PV.int.injEq,PV.nnl.injEq,CL.ints.injEq,true_and,and_true]at h;obtain⟨rfl,rfl,rfl,rfl⟩:=h;rfl
noncomputable def CZ (g:Nat->Nat->List PV):bL Fr:=λb=>open Classical in if h:∃d:Nat->Fr,g b=λj=>frC (d j)then h.choose else λ_=>⟨⟨0,[]⟩,⟨0,[]⟩⟩
theorem Kh {g:Nat->Nat->List PV} {b:Nat} {d:Nat->Fr} (h:g b=λj=>frC (d j)):(g b=λj=>frC (CZ g b j))/\CZ g b=d:=by
 have hx:∃d:Nat->Fr,g b=λj=>frC (d j):=⟨d,h⟩;have e:CZ g b=hx.choose:=by unfold CZ;rw[dif_pos hx]
 have h2:=hx.choose_spec;rw[e];refine⟨h2,funext λj=>?_⟩;exact(afm (congrFun (h.symm.trans h2) j)).symm
def odC (P:List Int) (H:List (List PV)) (o:Bool):List PV:=[.nils,.isl (.ints .i64 P) (.own 4),.isl (.recs 4 H) (.own 5),.bp o]
theorem Al {m w cols b:Nat} {M0:bL Fr} (hm:1≤m/\m≤256) (hw:w≤1000) (hcw:cols≤w) (h0:∀r,r<m->∀j,j<w->GL b 0 (M0 r j)) (hB:Bd b m≤1000000000):
 dN Tryz.prog 131 [.agg [],.rsl 0 0 m,.int .i64 (cols:Int)] [.pmat m (fnM w M0)]
  [.agg [.rsl 0 0 (aO Ff w m M0 cols).piv.length,.isl (.ints .i64 (pvI (aO Ff w m M0 cols).piv)) .none,.isl (.recs 4 ((aO Ff w m M0 cols).heads.map frC)) .none,.bp (aO Ff w m M0 cols).odd]] [.pmat m (fnM w (aO Ff w m M0 cols).M)]:=by
 refine F7 (pre:=[]) (post:=[]) (enters' Tryz.func131 qqR qqR) λl g hl hnd hg=>?_;obtain⟨D0,hD0⟩:∃D0:bL Fr,D0=CZ g:=⟨_,rfl⟩;have hlm:∀r,r<m->l.getD r 0∈l:=λr hr=>by
  rw[alC,alH qqO];exact apG _
 have h00:∀i,i<m->∀j,D0 (l.getD i 0) j=M0 i j:=λi hi j=>by
  rw[hD0,(Kh (hg i hi)).2]
 have hgb:∀b,b∈l->g b=λj=>frC (D0 b j):=λb hb=>by
  obtain⟨i,hi,rfl⟩:=alG hb;have:=hg i qqO;rw[alC,alH hi]at this;rw[hD0];exact(Kh this).1
 have hlen:=λc=>fU Ff w m M0 c;have hhom:=λc hc=>jq (yK b) (M':=λi j=>(M0 i j).val) (λr hr j hj=>⟨h0 r hr j hj,rfl⟩) c (show c≤w from hc);refine eB (md:=0) (rf:=[]) mixed ak kQ 1 [] Tryz.func131 qqR qqR qqR ?_;conv=>whnf
 refine aR (X:=CXf) (CIf cols w m M0 l) (λx=>[(17,.int .i64 x.c)]) (λx=>[(0,.mat l x.l (fnM w x.D)),(3,.cells (.pv (odC (pvI (aO Ff w m M0 x.c).piv) ((aO Ff w m M0 x.c).heads.map frC) (aO Ff w m M0 x.c).odd)) false),
  (4,.tok 1 (aO Ff w m M0 x.c).piv.length),(5,.tok 4 (aO Ff w m M0 x.c).heads.length)]) (λx=>cols-x.c) ⟨0,l,D0⟩ ⟨aH,mixed,ak,kQ,aN⟩ qqR ?_ ?_ ?_
 ·exact⟨aml _,hl,hnd,λ_ h=>h,hlm,h00⟩
 ·exact wk0
 ·rintro⟨c,lx,D⟩ ⟨x1,x2,x3,x4,x5,x6⟩
  simp only at x1 x2 x3 x4 x5 x6;obtain⟨y1,y2,y3⟩:=hlen c;have hsucc:aO Ff w m M0 (c+1)=jg Ff w m (aO Ff w m M0 c) c:=rfl;by_cases hcw2:c<cols
  ·obtain⟨h1,_,_,_,_⟩:=hhom c qqO
   have hG:∀r,r<m->∀j,j<w->GL b (aO Ff w m M0 c).piv.length ((aO Ff w m M0 c).M r j):=λr hr j hj=>(h1 r hr j hj).1;clear h1 hhom hlen;generalize aO Ff w m M0 c=S at*
   have hPn:(pvI S.piv).length=S.piv.length:=by simp[pvI]
   have hHn:(S.heads.map frC).length=S.piv.length:=by rw[apH,y3]
   have hBn:Bd b S.piv.length≤1000000000:=als (lY b qqO) hB;have hZ:∀r,r<m->(S.M r c).OK:=λr hr=>(hG r hr c qqO).ok;generalize hP:pvI S.piv=P at*
   generalize hH:S.heads.map frC=H at*
   generalize hO:S.odd=od at*
   rw[<-hPn]at hG hBn;refine wk1 λhq=>?_;conv=>whnf
   refine aR (X:=Nat) (λa=>(P.length≤a/\a≤m)/\∀r,P.length≤r->r<a->Ff.z (S.M r c)=true) (λa=>[(10,.int .i64 a)]) (λ_=>[]) (λa=>m-a) P.length ⟨aH,mixed,ak,kQ,aN⟩ qqR ⟨qqO,λr h1 h2=>qqO⟩ ?_ ?_
   ·refine wk1 ?_
    all_goals exact λ_ _=>trivial
   ·rintro a ⟨⟨ha1,ha2⟩,haz⟩
    by_cases ham:a<m
    ·have ea:D (lx.getD a 0) c=S.M a c:=x6 a ham c
     have hnm:P.length<m:=qqO;have hL:∀r,r<m->(swl lx P.length a).getD r 0∈l:=λr hr=>by
      rw[uL qqO qqO];exact x5 _ (Cq hnm ham hr)
     have hza:=hZ a ham;have hza':(D (lx.getD a 0) c).OK:=by rw[ea];exact hza
     have hsw:lx.getD a 0=(swl lx P.length a).getD P.length 0:=by rw[lT qqO qqO,if_pos rfl]
     have hfb:FB (D (lx.getD a 0) c):=by rw[ea];exact(hG a ham c qqO).fb qqO
     repeat'((conv=>whnf);first|(intro hq;(try simp only[vw]at hq);try exact aV hq)|apply aI|exact aD|apply nM|apply fM)
     all_goals((try apply vM);(try simp only[vq]at*);try omega)
     all_goals(try first|rfl|(simp only[CY,fA,sN,alV,alO,alg,anG,alZ,x2,cu,amL,chunks,alj,alf];first|omega|exact x5 _ qqO|exact hza'|exact hL _ hnm))
     ·simp only[fA,alV,cu,ea]at hq
      refine⟨a+1,[],⟨⟨qqO,λr h1 h2=>?_⟩,qqO⟩,?_⟩
      ·by_cases er:r=a
       ·subst er;exact decide_eq_true hq
       ·exact haz r h1 qqO
      ·refine wk1 ?_
       all_goals exact λ_ _=>trivial
     ·rename_i hq1
      simp only[fA,alV,cu]at hq1⊢;rw[show((lx.set P.length (lx.getD a 0)).set a (lx.getD P.length 0))=swl lx P.length a from rfl,<-hsw];exact⟨hfb,hq1⟩
     rename_i hq1;simp only[fA,sN,alV,cu]at hq1⊢;have g1:∀r,(swl lx P.length a).getD r 0=if r=P.length then lx.getD a 0 else if r=a then lx.getD P.length 0 else lx.getD r 0:=λr=>lT qqO qqO;have g2:(swl lx P.length a).length=m:=by simp[swl,x2]
     have g3:=Fx (n:=P.length) (a:=a) qqO qqO x3;have g4:∀b,b∈l->b∈swl lx P.length a:=λb hb=>MS qqO qqO (x4 b hb);have g5:∀r,r<m->∀j,D ((swl lx P.length a).getD r 0) j=gL S.M P.length a r j:=λr hr j=>by
      rw[g1];unfold gL;by_cases h1:r=P.length
      ·rw[if_pos h1,if_pos h1];exact x6 a ham j
      ·rw[if_neg h1,if_neg h1]
       by_cases h2:r=a
       ·rw[if_pos h2,if_pos h2];exact x6 _ hnm j
       ·rw[if_neg h2,if_neg h2];exact x6 r hr j
     have g6:∀r,r<m->∀j,j<w->GL b P.length (gL S.M P.length a r j):=λr hr j hj=>by
      unfold gL;by_cases h1:r=P.length
      ·rw[if_pos h1];exact hG a ham j hj
      ·rw[if_neg h1]
       by_cases h2:r=a
       ·rw[if_pos h2];exact hG _ hnm j hj
       ·rw[if_neg h2];exact hG r hr j hj
     have hfz:Ff.z (S.M a c)=false:=decide_eq_false (by rw[<-ea];exact hq1)
     have hfind:findAt Ff S.M c S.piv.length m=a:=by
      rw[<-hPn];exact wS ham qqO hfz (λr h1 h2=>haz r qqO h2)
     rw[show((lx.set P.length (lx.getD a 0)).set a (lx.getD P.length 0))=swl lx P.length a from rfl];generalize swl lx P.length a=L at*
     generalize hM1:gL S.M P.length a=M1 at*
     have hs:D (L.getD P.length 0) c=M1 P.length c:=g5 _ hnm c;rw[hs];have hbn:=hL _ hnm;generalize hbd:L.getD P.length 0=bn at*
     have e1:∀j,D bn j=M1 P.length j:=λj=>by rw[<-hbd];exact g5 _ hnm j
     generalize hsv:M1 P.length c=sv at*
     obtain⟨iv,hiv⟩:∃iv,iv=can (sv.val⁻¹):=⟨_,rfl⟩;have giv:FB iv/\iv.L≤1000000000:=by
      have h1:=g6 _ hnm c qqO;rw[hsv]at h1;have h2:=Q8 sv;have h3:=h1.le;rw[hiv];exact⟨⟨eY _,qqO⟩,qqO⟩
     rw[<-hiv];conv=>whnf
     refine aR (X:=Nat) (λk=>k≤w) (λk=>[(30,.any),(80,.any),(94,.int .i64 k)]) (λk=>[(0,.mat l L (fnM w (λb j=>if b=bn/\j<k then can ((D b j).val*iv.val)else D b j)))]) (λk=>w-k) 0 ⟨aH,mixed,ak,kQ,aN⟩ qqR qqO ?_ ?_
     ·refine wk1 ?_
      ·intro b hb
       refine funext λj=>congrArg frC ?_;rw[if_neg qqO]
     ·intro k hk
      by_cases hkw:k<w
      ·have e2:=e1 k
       have e3:=g6 _ hnm k hkw;have e4:FB (D bn k):=by rw[e2];exact e3.fb qqO
       repeat'((conv=>whnf);first|(intro hq;(try simp only[vw]at hq);try exact aV hq)|apply aI|exact aD|apply nM|apply fM)
       all_goals((try apply vM);(try simp only[vq]at*);try omega)
       all_goals(try first|rfl|(simp only[CY,fA,sN,alV,alO,alg,anG,alZ,g2,hbd,cu,amL,chunks,alj,alf];first|omega|exact hL _ qqO|assumption))
       ·simp only[fA,alV,hbd,cu]
        rw[if_neg (λh=>absurd h.2 (apI _))];exact⟨e4,giv.1⟩
       ·refine⟨k+1,[],⟨qqO,qqO⟩,?_⟩
        simp only[fA,alV,hbd,cu];refine wk1 ?_;intro b hb;unfold bA;by_cases eb:b=bn
        ·subst eb
         rw[if_pos rfl];refine funext λj=>?_;by_cases ej:j=k
         ·subst ej
          simp only[true_and,apI,and_false,if_false,if_true,apJ]
         ·have hx:(j<k+1)=(j<k):=propext ⟨λh=>qqO,λh=>qqO⟩
          simp only[if_neg ej,true_and,hx]
        ·rw[if_neg eb]
         refine funext λj=>congrArg frC ?_;rw[if_neg (λh=>eb h.1),if_neg (λh=>eb h.1)]
      ·have hkk:k=w:=qqO
       subst hkk;obtain⟨D2,hD2⟩:∃D2:bL Fr,D2=λb j=>if b=bn/\j<k then can ((D b j).val*iv.val)else D b j:=⟨_,rfl⟩;have d1:∀r,r<m->∀j,D2 (L.getD r 0) j=dS Ff k M1 P.length iv r j:=λr hr j=>by
        rw[hD2];unfold dS;by_cases er:r=P.length
        ·subst er
         rw[if_pos rfl];simp only[hbd,true_and];by_cases ej:j<k
         ·rw[if_pos ej,if_pos ej,e1 j];rfl
         ·rw[if_neg ej,if_neg ej,e1 j]
        ·have:L.getD r 0≠bn:=λh=>er ((kD.1 g3) r P.length qqO qqO (h.trans hbd.symm))
         simp only;rw[if_neg (λh=>this h.1),if_neg er];exact g5 r hr j
       have d2:∀r,r<m->∀j,j<k->FB (dS Ff k M1 P.length iv r j)/\(dS Ff k M1 P.length iv r j).L≤2000000000:=λr hr j hj=>by
        unfold dS;by_cases er:r=P.length
        ·subst er
         rw[if_pos rfl,if_pos hj];have h1:=g6 _ hnm j hj;have h2:=h1.le;have h3:=qY (M1 P.length j) iv;have h4:=giv.2;exact⟨⟨eY _,by show(can _).L≤_;omega⟩,by show(can _).L≤_;omega⟩
        ·rw[if_neg er]
         have h1:=g6 r hr j hj;have h2:=h1.le;exact⟨h1.fb qqO,qqO⟩
       have hM2c:∀r,r<m->r≠P.length->(dS Ff k M1 P.length iv r c)=M1 r c/\(M1 r c).L≤1000000000:=λr hr h=>by
        have h1:=(g6 r hr c qqO).le;exact⟨by unfold dS;rw[if_neg h],qqO⟩
       generalize hM2:dS Ff k M1 P.length iv=M2 at*
       rw[show(fnM k λb j=>if b=bn/\j<k then can ((D b j).val*iv.val)else D b j)=fnM k D2 by rw[hD2]]
       clear hD2;refine wk1 λhq=>?_;conv=>whnf
       refine aR (X:=RXf) (RIf k m M2 P.length c L) (λx=>[(117,.int .i64 x.i)]) (λx=>[(0,.mat l L (fnM k x.D))]) (λx=>m-x.i) ⟨0,D2⟩ ⟨aH,mixed,ak,kQ,aN⟩ qqR ⟨aml _,λr hr j=>by show _=if r<0 then _ else _;rw[if_neg qqO];exact d1 r hr j⟩ ?_ ?_
       ·refine wk1 ?_
        all_goals exact λ_ _=>trivial
       ·rintro⟨i,D3⟩ ⟨i1,i2⟩
        simp only at i1 i2;by_cases him:i<m
        ·have hiw:D3 (L.getD i 0) c=M2 i c:=by rw[i2 i him c,if_neg qqO]
         have hbi:=hL _ him;have ti:=d2 i him c qqO;have f1:∀j,D3 (L.getD i 0) j=M2 i j:=λj=>by rw[i2 i him j,if_neg qqO]
         have f2:∀j,D3 bn j=M2 P.length j:=λj=>by
          rw[<-hbd,i2 _ hnm j];split
          ·unfold dG;rw[if_pos (.inl rfl)]
          ·rfl
         have tok:(D3 (L.getD i 0) c).OK:=by rw[hiw];exact ti.1.ok
         refine wk8 (λhq=>?_) (λhq=>?_) (λhq=>?_) (λhq hq=>?_) (λhq hq hq=>?_) (λhq hq hq=>?_) (λhq hq hq=>?_) λhq hq=>?_;all_goals(try first|rfl|(simp only[CY,fA,sN,alV,alO,alg,anG,alZ,g2,hbd,cu];first|omega|exact hL _ qqO|exact tok))
         ·have hz:=hq
          simp only[fA,alV,cu,hiw]at hz;refine⟨⟨i+1,D3⟩,[],⟨⟨by(show i+1≤m);omega,λr hr j=>?_⟩,by(show m-(i+1)<m-i);omega⟩,?_⟩
          ·show D3 (L.getD r 0) j=if r<i+1 then dG Ff k M2 P.length c r j else M2 r j
           rw[i2 r hr j];by_cases e5:r<i
           ·rw[if_pos e5,if_pos qqO]
           ·rw[if_neg e5]
            by_cases e6:r=i
            ·subst e6
             rw[if_pos qqO];unfold dG;rw[if_pos (.inr (decide_eq_true hz))]
            ·rw[if_neg qqO]
          ·all_goals exact uH
         ·have hz:=hq
          simp only[fA,sN,alV,cu,hiw]at hz⊢;have hni:i≠P.length:=qqO;have hne:L.getD i 0≠bn:=λh=>by
           have:=(kD.1 g3) i P.length qqO qqO (h.trans hbd.symm);omega
          obtain⟨hq1',hq2'⟩:=hM2c i him hni;rw[<-hq1']at hq2';generalize hbi2:L.getD i 0=bi at*
          generalize htv:M2 i c=tv at*
          conv=>whnf
          refine aR (X:=Nat) (λq=>q≤k) (λq=>[(132,.any),(141,.int .i64 q)]) (λq=>[(0,.mat l L (fnM k (λb j=>if b=bi/\j<q then iP (D3 b j) (can (tv.val*(M2 P.length j).val))else D3 b j)))]) (λq=>k-q) 0 ⟨aH,mixed,ak,kQ,aN⟩ qqR qqO ?_ ?_
          ·repeat'((conv=>whnf);first|intro _|apply aI|exact aD|apply nM|apply fM)
           all_goals((try apply vM);(try simp only[vq]at*);try omega)
           ·intro b hb
            refine funext λj=>congrArg frC ?_;rw[if_neg qqO]
          ·intro q hqk
           by_cases hqw:q<k
           ·have u1:=f1 q
            have u2:=f2 q;have u3:=d2 _ hnm q hqw;have u4:=d2 _ him q hqw;have u5:=qY tv (M2 P.length q);have u6:FB (can (tv.val*(M2 P.length q).val)):=⟨eY _,qqO⟩
            repeat'((conv=>whnf);first|(intro hq;(try simp only[vw]at hq);try exact aV hq)|apply aI|exact aD|apply nM|apply fM)
            all_goals((try apply vM);(try simp only[vq]at*);try omega)
            all_goals(try first|rfl|(simp only[CY,fA,sN,alV,alO,alg,anG,alZ,g2,hbd,hbi2,cu];first|omega|exact hL _ qqO|assumption))
            ·simp only[fA,alV,hbd,cu]
             rw[if_neg (λh=>hne h.1.symm),u2];exact⟨ti.1,u3.1⟩
            ·simp only[fA,alV,hbd,hbi2,cu]
             rw[if_neg (λh=>absurd h.2 (apI _)),if_neg (λh=>hne h.1.symm),u1,u2];exact⟨u4.1,u6⟩
            ·refine⟨q+1,[],⟨qqO,qqO⟩,?_⟩
             simp only[fA,alV,hbd,hbi2,cu]
             repeat'((conv=>whnf);first|intro _|apply aI|exact aD|apply nM|apply fM)
             all_goals((try apply vM);(try simp only[vq]at*);try omega)
             intro b hb;unfold bA;by_cases eb:b=bi
             ·subst eb
              rw[if_pos rfl];refine funext λj=>?_;by_cases ej:j=q
              ·subst ej
               simp only[true_and,apI,and_false,if_false,if_true,apJ,u2]
              ·have hx:(j<q+1)=(j<q):=propext ⟨λh=>qqO,λh=>qqO⟩
               simp only[if_neg ej,true_and,hx]
             ·rw[if_neg eb]
              refine funext λj=>congrArg frC ?_;rw[if_neg (λh=>eb h.1),if_neg (λh=>eb h.1)]
           ·have hqq:q=k:=qqO
            subst hqq
            repeat'((conv=>whnf);first|(intro hq;(try simp only[vw]at hq);try exact aV hq)|apply aI|exact aD|apply nM|apply fM)
            all_goals((try apply vM);(try simp only[vq]at*);try omega)
            refine⟨⟨i+1,λb j=>if b=bi/\j<q then iP (D3 b j) (can (tv.val*(M2 P.length j).val))else D3 b j⟩,[],⟨⟨by(show i+1≤m);omega,λr hr j=>?_⟩,by(show m-(i+1)<m-i);omega⟩,?_⟩
            ·show(if L.getD r 0=bi/\j<q then iP (D3 (L.getD r 0) j) (can (tv.val*(M2 P.length j).val))else D3 (L.getD r 0) j)=if r<i+1 then dG Ff q M2 P.length c r j else M2 r j
             by_cases er:r=i
             ·subst er
              rw[if_pos (apJ r),hbi2];have hcl:dG Ff q M2 P.length c r j=if j<q then iP (M2 r j) (can (tv.val*(M2 P.length j).val))else M2 r j:=by
               unfold dG;rw[htv,if_neg (λh=>h.elim hni (λh2=>hz (of_decide_eq_true h2)))];rfl
              rw[hcl,f1 j];by_cases ej:j<q
              ·rw[if_pos ⟨rfl,ej⟩,if_pos ej]
              ·rw[if_neg (λh=>ej h.2),if_neg ej]
             ·have:L.getD r 0≠bi:=λh=>er (kD.1 g3 r i qqO qqO (h.trans hbi2.symm))
              rw[if_neg (λh=>this h.1),i2 r hr j];by_cases e5:r<i
              ·rw[if_pos e5,if_pos qqO]
              ·rw[if_neg e5,if_neg qqO]
            ·all_goals exact uH
         ·have hin:i=P.length:=qqO
          refine⟨⟨i+1,D3⟩,[],⟨⟨by(show i+1≤m);omega,λr hr j=>?_⟩,by(show m-(i+1)<m-i);omega⟩,?_⟩
          ·show D3 (L.getD r 0) j=if r<i+1 then dG Ff k M2 P.length c r j else M2 r j
           rw[i2 r hr j];by_cases e5:r<i
           ·rw[if_pos e5,if_pos qqO]
           ·rw[if_neg e5]
            by_cases e6:r=i
            ·rw[if_pos qqO]
             unfold dG;rw[if_pos (.inl qqO)]
            ·rw[if_neg qqO]
          ·refine wk1 ?_
           all_goals exact λ_ _=>trivial
        ·have hii:i=m:=qqO
         have hstep:jg Ff k m S c=⟨dG Ff k M2 P.length c,S.piv++[c],S.heads++[sv],S.odd !=decide (P.length≠a)⟩:=by
          have hi2:Ff.inv sv=iv:=hiv.symm;unfold jg;rw[hfind,if_neg qqO,<-hPn,hM1,hsv,hi2,hM2]
         have hpv:pvI (S.piv++[c])=P++[(c:Int)]:=by rw[<-hP];simp[pvI]
         have hhd:(S.heads++[sv]).map frC=H++[frC sv]:=by rw[aoL,hH];rfl
         have hl1:(S.piv++[c]).length=S.piv.length+1:=qqS;have hl2:(S.heads++[sv]).length=S.heads.length+1:=qqS;refine wk2 (λhq=>?_) λhq=>?_
         ·rw[amL,alj,alf];omega
         ·refine⟨⟨c+1,L,D3⟩,[],⟨⟨by(show c+1≤cols);omega,g2,g3,g4,hL,λr hr j=>?_⟩,by(show cols-(c+1)<cols-c);omega⟩,?_⟩
          ·show D3 (L.getD r 0) j=(aO Ff k m M0 (c+1)).M r j
           rw[hsucc,hstep,i2 r hr j,if_pos qqO]
          ·simp only[hsucc,hstep,hpv,hhd,hl1,hl2,hO]
           refine wk2 ?_ ?_;all_goals first
            |exact λ_ _=>trivial
            |(have hd:decide ((P.length:Int)≠(a:Int))=decide (P.length≠a):=decide_eq_decide.2 ⟨λh=>qqO,λh=>qqO⟩
              rw[hd];rfl)
    ·have hstep:jg Ff w m S c=S:=by
      unfold jg;rw[rF (λr h1 h2=>haz r qqO qqO),if_pos rfl]
     refine wk1 λhq hq=>?_;refine⟨⟨c+1,lx,D⟩,[],⟨⟨by(show c+1≤cols);omega,x2,x3,x4,x5,λr hr j=>?_⟩,by(show cols-(c+1)<cols-c);omega⟩,?_⟩
     ·show D (lx.getD r 0) j=(aO Ff w m M0 (c+1)).M r j
      rw[hsucc,hstep];exact x6 r hr j
     ·simp only[hsucc,hstep,hP,hH,hO]
      refine wk1 ?_;all_goals exact λ_ _=>trivial
  ·have hcc:c=cols:=qqO
   subst hcc;have hPn:(pvI (aO Ff w m M0 c).piv).length=(aO Ff w m M0 c).piv.length:=by simp[pvI]
   refine wk2 (λhq=>?_) λhq=>?_;conv=>whnf
   repeat'((conv=>whnf);first|intro _|apply aI|exact aD|apply nM|apply fM)
   all_goals((try apply vM);(try simp only[vq]at*);try omega)
   all_goals first
    |exact x4 _ qqA
    |omega
    |(refine funext λj=>congrArg frC ?_;exact x6 _ qqA j)
end Go.Eng.YtmkagljofpddpaaGreatDoor
namespace Go.Eng.YtmkagljofpddpaaGreatDoor
open Go.Proofs Go.Eng.ElG
set_option linter.unusedSimpArgs false
set_option linter.unusedVariables false
set_option maxHeartbeats 0
set_option maxRecDepth 100000
def cO (w:Nat) (f:Nat->Int):List Int:=(alA w).map f
theorem fE (w:Nat) (f:Nat->Int):(cO w f).length=w:=by simp[cO]
theorem qI {w:Nat} (f:Nat->Int) {j:Nat} (h:j<w):(cO w f).getD j 0=f j:=by
 simp[cO,alC,List.getElem?_range h]
theorem qJ {w:Nat} (f:Nat->Int) (k:Nat) (v:Int):(cO w f).set k v=cO w (λj=>if j=k then v else f j):=by
 apply anz
 ·simp[cO]
 ·intro j h1 h2
  simp only[cO,alZ,apH,List.length_range]at h1;rw[anD];simp only[cO,anE,anF];by_cases e:k=j
  ·subst e;simp
  ·rw[if_neg e,if_neg (λh=>e h.symm)]
theorem jL {w:Nat} {f g:Nat->Int} (h:∀j,j<w->f j=g j):cO w f=cO w g:=by
 unfold cO;exact anC (λj hj=>h j (anj.1 hj))
def Fp (p:Int):Fld Int:=⟨λa=>decide (a=0),λa b=>(a-b+p) % p,λa b=>a*b % p,λa=>(iI a p).1⟩
structure PrI (p:Int):Prop where
 lo:2≤p
 hi:p≤999999999
def InP (p:Int) (x:Int):Prop:=0≤x/\x<p
theorem nK {p:Int} (h:PrI p) (x:Int):InP p (x % p):=⟨Int.emod_nonneg _ (by have:=h.lo;omega),Int.emod_lt_of_pos _ (by have:=h.lo;omega)⟩
theorem afn {p x y:Int} (h:PrI p) (hx:InP p x) (hy:InP p y):0≤x*y/\x*y≤999999998000000001:=by
 obtain⟨a,b⟩:=hx;obtain⟨c,d⟩:=hy;have:=h.hi;have h1:=Int.mul_le_mul (show x≤999999999 by omega) (show y≤999999999 by omega) c qqO
 exact⟨Int.mul_nonneg a c,qqO⟩
noncomputable def akN:CPT:=ay 142 (aJ Rv) noC
theorem afo:aZ Tryz.prog akN:=aj (aA Vt) aC
abbrev rsV (p:Int):PV:=.agg [.int .i64 p]
theorem Zi (p a:Int):aB Tryz.prog 332 [rsV p,.int .i64 a] (.bp (decide (a=0))):=by
 refine au (md:=1) (rf:=[]) mixed ak aC Tryz.func332 qqR qqR qqR ?_;refine wk1 ?_;all_goals exact Sup.of rfl
theorem Zj (p a:Int) (h:PrI p) (ha:InP p a):aB Tryz.prog 331 [rsV p,.int .i64 a] (.int .i64 (iI a p).1):=by
 obtain⟨h1,h2⟩:=h;obtain⟨a1,a2⟩:=ha;refine au (md:=1) (rf:=[]) mixed ak afo Tryz.func331 qqR qqR qqR ?_;refine wk1 ?_;all_goals first|exact⟨qqO,qqO⟩|exact Sup.of rfl
theorem Zk (p a b:Int) (h:PrI p) (ha:InP p a) (hb:InP p b):aB Tryz.prog 333 [rsV p,.int .i64 a,.int .i64 b] (.int .i64 (a*b % p)):=by
 obtain⟨m1,m2⟩:=afn h ha hb;obtain⟨h1,h2⟩:=h;have e:(a*b).tmod p=a*b % p:=ao9 m1;refine au (md:=1) (rf:=[]) mixed ak aC Tryz.func333 qqR qqR qqR ?_;refine wk1 ?_;all_goals(try simp only[e])
 all_goals first|omega|(rw[<-e];exact Sup.of rfl)|exact Sup.of rfl
theorem Ki (p a b:Int) (h:PrI p) (ha:InP p a) (hb:InP p b):aB Tryz.prog 334 [rsV p,.int .i64 a,.int .i64 b] (.int .i64 ((a-b+p) % p)):=by
 obtain⟨h1,h2⟩:=h;obtain⟨a1,a2⟩:=ha;obtain⟨b1,b2⟩:=hb;have e:(a-b+p).tmod p=(a-b+p) % p:=ao9 qqO;refine au (md:=1) (rf:=[]) mixed ak aC Tryz.func334 qqR qqR qqR ?_;refine wk1 ?_;all_goals(try simp only[e])
 all_goals first|omega|(rw[<-e];exact Sup.of rfl)|exact Sup.of rfl
theorem Am (p a:Int) (h:PrI p) (ha: -999999999≤a/\a≤999999999):aB Tryz.prog 214 [rsV p,.int .i64 a] (.int .i64 (a % p)):=by
 obtain⟨h1,h2⟩:=h;obtain⟨e,e2,e3⟩:=qZ a p qqO;refine au (md:=1) (rf:=[]) mixed ak aC Tryz.func214 qqR qqR qqR ?_;refine wk1 ?_;all_goals(try simp only[e])
 all_goals first|omega|(rw[<-e];exact Sup.of rfl)|exact Sup.of rfl
def Ao (C:Int->Int->Prop) (r:Int->Int->PV):PSp:=λxs K=>match xs with
 | [.agg [.int .i64 p],.int .i64 a]=>VC (C p a)/\K (r p a)
 |_=>False
def Kj (C:Int->Int->Int->Prop) (r:Int->Int->Int->PV):PSp:=λxs K=>match xs with
 | [.agg [.int .i64 p],.int .i64 a,.int .i64 b]=>VC (C p a b)/\K (r p a b)
 |_=>False
theorem sP {g:FuncId} {C:Int->Int->Prop} {r:Int->Int->PV} (h:∀p a,C p a->aB Tryz.prog g [rsV p,.int .i64 a] (r p a)):POK Tryz.prog g (Ao C r):=by
 intro xs K hk;unfold Ao at hk;split at hk
 ·exact⟨_,hk.2,h _ _ hk.1.get⟩
 ·exact hk.elim
theorem EB {g:FuncId} {C:Int->Int->Int->Prop} {r:Int->Int->Int->PV} (h:∀p a b,C p a b->aB Tryz.prog g [rsV p,.int .i64 a,.int .i64 b] (r p a b)):POK Tryz.prog g (Kj C r):=by
 intro xs K hk;unfold Kj at hk;split at hk
 ·exact⟨_,hk.2,h _ _ _ hk.1.get⟩
 ·exact hk.elim
noncomputable def akO:CPT:=ay 332 (aJ (Ao (λ_ _=>True) λp a=>.bp (decide (a=0)))) (ay 331 (aJ (Ao (λp a=>PrI p/\InP p a) λp a=>.int .i64 (iI a p).1)) (ay 333 (aJ (Kj (λp a b=>PrI p/\InP p a/\InP p b) λp a b=>.int .i64 (a*b % p))) (ay 334 (aJ (Kj (λp a b=>PrI p/\InP p a/\InP p b) λp a b=>.int .i64 ((a-b+p) % p))) (ay 214 (aJ (Ao (λp a=>PrI p/\ -999999999≤a/\a≤999999999) λp a=>.int .i64 (a % p))) noC))))
theorem kR:aZ Tryz.prog akO:=aj (aA (sP λp a _=>Zi p a)) (aj (aA (sP λp a h=>Zj p a h.1 h.2)) (aj (aA (EB λp a b h=>Zk p a b h.1 h.2.1 h.2.2)) (aj (aA (EB λp a b h=>Ki p a b h.1 h.2.1 h.2.2)) (aj (aA (sP λp a h=>Am p a h.1 h.2)) aC))))
theorem afp {p:Int} (h:PrI p) (a:Int):InP p (iI a p).1:=nK h _
theorem abJ {p:Int} (h:PrI p):Hom (Fp p) (Fp p) id (λ_=>InP p)where
 up:=λc x h=>h
 z:=λc x h=>rfl
 scale:=λc a s ha hs h0=>⟨rfl,nK h _⟩
 clear:=λc a t b s ha ht hb hs h0=>⟨rfl,nK h _⟩
theorem jh:XI.size=1:=qqR
theorem GV:XJ.size=1:=qqR
structure CXi where
 c:Nat
 l:List Nat
 D:bL Int
structure CIi (p:Int) (cols w m:Nat) (M0:bL Int) (l0:List Nat) (x:CXi):Prop where
 hc:x.c≤cols
 hl:x.l.length=m
 hn:x.l.Nodup
 hi:∀b,b∈l0->b∈x.l
 ho:∀r,r<m->x.l.getD r 0∈l0
 hD:∀r,r<m->∀j,x.D (x.l.getD r 0) j=(aO (Fp p) w m M0 x.c).M r j
structure RXi where
 i:Nat
 D:bL Int
structure RIi (p:Int) (w m:Nat) (M:bL Int) (n c:Nat) (L:List Nat) (x:RXi):Prop where
 hi:x.i≤m
 hD:∀r,r<m->∀j,x.D (L.getD r 0) j=if r<x.i then dG (Fp p) w M n c r j else M r j
abbrev fnI (w:Nat) (D:bL Int):RC:=.ints .i64 λb=>cO w (D b)
theorem VZ {l:List Nat} (h:l.Nodup) {i:Nat} (hi:i<l.length):l.idxOf (l.getD i 0)=i:=by
 rw[alC,alH hi];exact h.idxOf_getElem i hi
def odI (P:List Int) (H:List Int) (o:Bool):List PV:=[.nils,.isl (.ints .i64 P) (.own 4),.isl (.ints .i64 H) (.own 5),.bp o]
theorem Kk {p:Int} {m w cols:Nat} {M0:bL Int} (hp:PrI p) (hm:1≤m/\m≤256) (hw:w≤1000) (hcw:cols≤w) (h0:∀r,r<m->∀j,j<w->InP p (M0 r j)):
 dN Tryz.prog 150 [rsV p,.rsl 0 0 m,.int .i64 (cols:Int)] [.pmat m (fnI w M0)]
  [.agg [.rsl 0 0 (aO (Fp p) w m M0 cols).piv.length,.isl (.ints .i64 (pvI (aO (Fp p) w m M0 cols).piv)) .none,.isl (.ints .i64 (aO (Fp p) w m M0 cols).heads) .none,.bp (aO (Fp p) w m M0 cols).odd]] [.pmat m (fnI w (aO (Fp p) w m M0 cols).M)]:=by
 refine Ce (pre:=[]) (post:=[]) (enters' Tryz.func150 qqR qqR) λl g hl hnd hg=>?_;obtain⟨D0,hD0⟩:∃D0:bL Int,D0=λb=>M0 (l.idxOf b):=⟨_,rfl⟩;have hlm:∀r,r<m->l.getD r 0∈l:=λr hr=>by
  rw[alC,alH qqO];exact apG _
 have h00:∀i,i<m->∀j,D0 (l.getD i 0) j=M0 i j:=λi hi j=>by
  rw[hD0];simp only[VZ hnd (show i<l.length by omega)]
 have hgb:∀b,b∈l->g b=cO w (D0 b):=λb hb=>by
  obtain⟨i,hi,rfl⟩:=alG hb;have:=hg i qqO;have h2:=VZ hnd hi;rw[alC,alH hi]at this h2;rw[hD0];simp only[Option.getD_some]at this h2;simp only[h2];exact this
 have hlen:=λc=>fU (Fp p) w m M0 c;have hhom:=λc hc=>jq (abJ hp) (M':=M0) (λr hr j hj=>⟨h0 r hr j hj,rfl⟩) c (show c≤w from hc);refine eB (md:=0) (rf:=[]) mixed ak kR 1 [] Tryz.func150 qqR qqR qqR ?_;conv=>whnf
 refine aR (X:=CXi) (CIi p cols w m M0 l) (λx=>[(17,.int .i64 x.c)]) (λx=>[(0,.mat l x.l (fnI w x.D)),(3,.cells (.pv (odI (pvI (aO (Fp p) w m M0 x.c).piv) (aO (Fp p) w m M0 x.c).heads (aO (Fp p) w m M0 x.c).odd)) false),
  (4,.tok 1 (aO (Fp p) w m M0 x.c).piv.length),(5,.tok 1 (aO (Fp p) w m M0 x.c).heads.length)]) (λx=>cols-x.c) ⟨0,l,D0⟩ ⟨aH,mixed,ak,kR,aN⟩ qqR ?_ ?_ ?_
 ·exact⟨aml _,hl,hnd,λ_ h=>h,hlm,h00⟩
 ·exact wk0
 ·rintro⟨c,lx,D⟩ ⟨x1,x2,x3,x4,x5,x6⟩
  simp only at x1 x2 x3 x4 x5 x6;obtain⟨y1,y2,y3⟩:=hlen c;have hsucc:aO (Fp p) w m M0 (c+1)=jg (Fp p) w m (aO (Fp p) w m M0 c) c:=rfl;by_cases hcw2:c<cols
  ·obtain⟨h1,_,_,_,_⟩:=hhom c qqO
   have hG:∀r,r<m->∀j,j<w->InP p ((aO (Fp p) w m M0 c).M r j):=λr hr j hj=>(h1 r hr j hj).1;clear h1 hhom hlen;have mgc:∀f:Nat->Int,(cO w f).getD c 0=f c:=λf=>qI f qqO;generalize aO (Fp p) w m M0 c=S at*
   have hPn:(pvI S.piv).length=S.piv.length:=by simp[pvI]
   have hHn:S.heads.length=S.piv.length:=y3;have hZ:∀r,r<m->InP p (S.M r c):=λr hr=>hG r hr c qqO;generalize hP:pvI S.piv=P at*
   obtain⟨H,hH⟩:∃H,S.heads=H:=⟨_,rfl⟩;rw[hH]at hHn y3⊢;generalize hO:S.odd=od at*
   refine wk1 λhq=>?_;conv=>whnf
   refine aR (X:=Nat) (λa=>(P.length≤a/\a≤m)/\∀r,P.length≤r->r<a->(Fp p).z (S.M r c)=true) (λa=>[(10,.int .i64 a)]) (λ_=>[]) (λa=>m-a) P.length ⟨aH,mixed,ak,kR,aN⟩ qqR ⟨qqO,λr h1 h2=>qqO⟩ ?_ ?_
   ·refine wk1 ?_
    all_goals exact λ_ _=>trivial
   ·rintro a ⟨⟨ha1,ha2⟩,haz⟩
    by_cases ham:a<m
    ·have ea:D (lx.getD a 0) c=S.M a c:=x6 a ham c
     have hnm:P.length<m:=qqO;have hL:∀r,r<m->(swl lx P.length a).getD r 0∈l:=λr hr=>by
      rw[uL qqO qqO];exact x5 _ (Cq hnm ham hr)
     have hza:=hZ a ham;have hza':InP p (D (lx.getD a 0) c):=by rw[ea];exact hza
     have hsw:lx.getD a 0=(swl lx P.length a).getD P.length 0:=by rw[lT qqO qqO,if_pos rfl]
     have hfb:InP p (D (lx.getD a 0) c):=by rw[ea];exact hG a ham c qqO
     repeat'((conv=>whnf);first|(intro hq;(try simp only[vw]at hq);try exact aV hq)|apply aI|exact aD|apply nM|apply fM)
     all_goals((try apply vM);(try simp only[vq]at*);try omega)
     all_goals(try first|rfl|(simp only[GV,jh,zS,alV,alO,alg,anG,alZ,x2,fE,mgc,amL,chunks,alj,alf];first|omega|exact x5 _ qqO|exact hza'|exact hL _ hnm))
     ·simp only[jh,alV,mgc,ea]at hq
      refine⟨a+1,[],⟨⟨qqO,λr h1 h2=>?_⟩,qqO⟩,?_⟩
      ·by_cases er:r=a
       ·subst er;exact decide_eq_true hq
       ·exact haz r h1 qqO
      ·refine wk1 ?_
       all_goals exact λ_ _=>trivial
     ·rename_i hq1
      simp only[jh,alV,mgc]at hq1⊢;rw[show((lx.set P.length (lx.getD a 0)).set a (lx.getD P.length 0))=swl lx P.length a from rfl,<-hsw];exact⟨hp,hfb⟩
     rename_i hq1;simp only[jh,zS,alV,mgc]at hq1⊢;have g1:∀r,(swl lx P.length a).getD r 0=if r=P.length then lx.getD a 0 else if r=a then lx.getD P.length 0 else lx.getD r 0:=λr=>lT qqO qqO;have g2:(swl lx P.length a).length=m:=by simp[swl,x2]
     have g3:=Fx (n:=P.length) (a:=a) qqO qqO x3;have g4:∀b,b∈l->b∈swl lx P.length a:=λb hb=>MS qqO qqO (x4 b hb);have g5:∀r,r<m->∀j,D ((swl lx P.length a).getD r 0) j=gL S.M P.length a r j:=λr hr j=>by
      rw[g1];unfold gL;by_cases h1:r=P.length
      ·rw[if_pos h1,if_pos h1];exact x6 a ham j
      ·rw[if_neg h1,if_neg h1]
       by_cases h2:r=a
       ·rw[if_pos h2,if_pos h2];exact x6 _ hnm j
       ·rw[if_neg h2,if_neg h2];exact x6 r hr j
     have g6:∀r,r<m->∀j,j<w->InP p (gL S.M P.length a r j):=λr hr j hj=>by
      unfold gL;by_cases h1:r=P.length
      ·rw[if_pos h1];exact hG a ham j hj
      ·rw[if_neg h1]
       by_cases h2:r=a
       ·rw[if_pos h2];exact hG _ hnm j hj
       ·rw[if_neg h2];exact hG r hr j hj
     have hfz:(Fp p).z (S.M a c)=false:=decide_eq_false (by rw[<-ea];exact hq1)
     have hfind:findAt (Fp p) S.M c S.piv.length m=a:=by
      rw[<-hPn];exact wS ham qqO hfz (λr h1 h2=>haz r qqO h2)
     rw[show((lx.set P.length (lx.getD a 0)).set a (lx.getD P.length 0))=swl lx P.length a from rfl];generalize swl lx P.length a=L at*
     generalize hM1:gL S.M P.length a=M1 at*
     have hs:D (L.getD P.length 0) c=M1 P.length c:=g5 _ hnm c;rw[hs];have hbn:=hL _ hnm;generalize hbd:L.getD P.length 0=bn at*
     have e1:∀j,D bn j=M1 P.length j:=λj=>by rw[<-hbd];exact g5 _ hnm j
     have hlw:=fE w (D bn);generalize hsv:M1 P.length c=sv at*
     obtain⟨iv,hiv⟩:∃iv,iv=(iI sv p).1:=⟨_,rfl⟩;have giv:InP p iv:=by rw[hiv];exact afp hp _
     rw[<-hiv];conv=>whnf
     refine aR (X:=Nat) (λk=>k≤w) (λk=>[(30,.any),(80,.any),(94,.int .i64 k)]) (λk=>[(0,.mat l L (fnI w (λb j=>if b=bn/\j<k then D b j*iv % p else D b j)))]) (λk=>w-k) 0 ⟨aH,mixed,ak,kR,aN⟩ qqR qqO ?_ ?_
     ·refine wk1 ?_
      ·intro b hb
       refine jL λj hj=>?_;rw[if_neg qqO]
     ·intro k hk
      by_cases hkw:k<w
      ·have e2:=e1 k
       have e3:=g6 _ hnm k hkw;have mgk:∀f:Nat->Int,(cO w f).getD k 0=f k:=λf=>qI f hkw;have e4:InP p (D bn k):=by rw[e2];exact e3
       repeat'((conv=>whnf);first|(intro hq;(try simp only[vw]at hq);try exact aV hq)|apply aI|exact aD|apply nM|apply fM)
       all_goals((try apply vM);(try simp only[vq]at*);try omega)
       all_goals(try first|rfl|(simp only[GV,jh,zS,alV,alO,alg,anG,alZ,g2,hbd,fE,amL,chunks,alj,alf];first|omega|exact hL _ qqO|assumption))
       ·simp only[jh,alV,hbd,mgk]
        rw[if_neg (λh=>absurd h.2 (apI _))];exact⟨hp,e4,giv⟩
       ·refine⟨k+1,[],⟨qqO,qqO⟩,?_⟩
        simp only[jh,alV,hbd,mgk];refine wk1 ?_;intro b hb;unfold bA;by_cases eb:b=bn
        ·subst eb
         rw[if_pos rfl];rw[qJ];refine jL λj hj=>?_;by_cases ej:j=k
         ·subst ej
          simp only[true_and,apI,and_false,if_false,if_true,apJ]
         ·have hx:(j<k+1)=(j<k):=propext ⟨λh=>qqO,λh=>qqO⟩
          simp only[if_neg ej,true_and,hx]
        ·rw[if_neg eb]
         refine jL λj hj=>?_;rw[if_neg (λh=>eb h.1),if_neg (λh=>eb h.1)]
      ·have hkk:k=w:=qqO
       subst hkk;obtain⟨D2,hD2⟩:∃D2:bL Int,D2=λb j=>if b=bn/\j<k then D b j*iv % p else D b j:=⟨_,rfl⟩;have d1:∀r,r<m->∀j,D2 (L.getD r 0) j=dS (Fp p) k M1 P.length iv r j:=λr hr j=>by
        rw[hD2];unfold dS;by_cases er:r=P.length
        ·subst er
         rw[if_pos rfl];simp only[hbd,true_and];by_cases ej:j<k
         ·rw[if_pos ej,if_pos ej,e1 j];rfl
         ·rw[if_neg ej,if_neg ej,e1 j]
        ·have:L.getD r 0≠bn:=λh=>er ((kD.1 g3) r P.length qqO qqO (h.trans hbd.symm))
         simp only;rw[if_neg (λh=>this h.1),if_neg er];exact g5 r hr j
       have d2:∀r,r<m->∀j,j<k->InP p (dS (Fp p) k M1 P.length iv r j):=λr hr j hj=>by
        unfold dS;by_cases er:r=P.length
        ·subst er
         rw[if_pos rfl,if_pos hj];exact nK hp _
        ·rw[if_neg er]
         exact g6 r hr j hj
       generalize hM2:dS (Fp p) k M1 P.length iv=M2 at*
       rw[show(fnI k λb j=>if b=bn/\j<k then D b j*iv % p else D b j)=fnI k D2 by rw[hD2]]
       clear hD2;refine wk1 λhq=>?_;conv=>whnf
       refine aR (X:=RXi) (RIi p k m M2 P.length c L) (λx=>[(117,.int .i64 x.i)]) (λx=>[(0,.mat l L (fnI k x.D))]) (λx=>m-x.i) ⟨0,D2⟩ ⟨aH,mixed,ak,kR,aN⟩ qqR ⟨aml _,λr hr j=>by show _=if r<0 then _ else _;rw[if_neg qqO];exact d1 r hr j⟩ ?_ ?_
       ·refine wk1 ?_
        all_goals exact λ_ _=>trivial
       ·rintro⟨i,D3⟩ ⟨i1,i2⟩
        simp only at i1 i2;by_cases him:i<m
        ·have hiw:D3 (L.getD i 0) c=M2 i c:=by rw[i2 i him c,if_neg qqO]
         have hbi:=hL _ him;have ti:=d2 i him c qqO;have f1:∀j,D3 (L.getD i 0) j=M2 i j:=λj=>by rw[i2 i him j,if_neg qqO]
         have f2:∀j,D3 bn j=M2 P.length j:=λj=>by
          rw[<-hbd,i2 _ hnm j];split
          ·unfold dG;rw[if_pos (.inl rfl)]
          ·rfl
         have tok:InP p (D3 (L.getD i 0) c):=by rw[hiw];exact ti
         refine wk8 (λhq=>?_) (λhq=>?_) (λhq=>?_) (λhq=>?_) (λhq hq hq=>?_) (λhq hq hq=>?_) (λhq hq hq=>?_) λhq hq=>?_;all_goals(try first|rfl|(simp only[GV,jh,zS,alV,alO,alg,anG,alZ,g2,hbd,mgc,fE];first|omega|exact hL _ qqO|exact tok))
         ·have hz:=hq
          simp only[jh,alV,mgc,hiw]at hz;refine⟨⟨i+1,D3⟩,[],⟨⟨by(show i+1≤m);omega,λr hr j=>?_⟩,by(show m-(i+1)<m-i);omega⟩,?_⟩
          ·show D3 (L.getD r 0) j=if r<i+1 then dG (Fp p) k M2 P.length c r j else M2 r j
           rw[i2 r hr j];by_cases e5:r<i
           ·rw[if_pos e5,if_pos qqO]
           ·rw[if_neg e5]
            by_cases e6:r=i
            ·subst e6
             rw[if_pos qqO];unfold dG;rw[if_pos (.inr (decide_eq_true hz))]
            ·rw[if_neg qqO]
          ·all_goals exact uH
         ·have hz:=hq
          simp only[jh,zS,alV,mgc,hiw]at hz⊢;have hni:i≠P.length:=qqO;have hne:L.getD i 0≠bn:=λh=>by
           have:=(kD.1 g3) i P.length qqO qqO (h.trans hbd.symm);omega
          generalize hbi2:L.getD i 0=bi at*
          have hlw2:=fE k (D3 bi);generalize htv:M2 i c=tv at*
          conv=>whnf
          refine aR (X:=Nat) (λq=>q≤k) (λq=>[(132,.any),(141,.int .i64 q)]) (λq=>[(0,.mat l L (fnI k (λb j=>if b=bi/\j<q then(D3 b j-tv*M2 P.length j % p+p) % p else D3 b j)))]) (λq=>k-q) 0 ⟨aH,mixed,ak,kR,aN⟩ qqR qqO ?_ ?_
          ·repeat'((conv=>whnf);first|intro _|apply aI|exact aD|apply nM|apply fM)
           all_goals((try apply vM);(try simp only[vq]at*);try omega)
           ·intro b hb
            refine jL λj hj=>?_;rw[if_neg qqO]
          ·intro q hqk
           by_cases hqw:q<k
           ·have u1:=f1 q
            have u2:=f2 q;have u3:=d2 _ hnm q hqw;have u4:=d2 _ him q hqw;have mgq:∀f:Nat->Int,(cO k f).getD q 0=f q:=λf=>qI f hqw;have u6:InP p (tv*M2 P.length q % p):=nK hp _
            repeat'((conv=>whnf);first|(intro hq;(try simp only[vw]at hq);try exact aV hq)|apply aI|exact aD|apply nM|apply fM)
            all_goals((try apply vM);(try simp only[vq]at*);try omega)
            all_goals(try first|rfl|(simp only[GV,jh,zS,alV,alO,alg,anG,alZ,g2,hbd,hbi2,mgq,fE];first|omega|exact hL _ qqO|assumption))
            ·simp only[jh,alV,hbd,mgq]
             rw[if_neg (λh=>hne h.1.symm),u2];exact⟨hp,ti,u3⟩
            ·simp only[jh,alV,hbd,hbi2,mgq]
             rw[if_neg (λh=>absurd h.2 (apI _)),if_neg (λh=>hne h.1.symm),u1,u2];exact⟨hp,u4,u6⟩
            ·refine⟨q+1,[],⟨qqO,qqO⟩,?_⟩
             simp only[jh,alV,hbd,hbi2,mgq]
             repeat'((conv=>whnf);first|intro _|apply aI|exact aD|apply nM|apply fM)
             all_goals((try apply vM);(try simp only[vq]at*);try omega)
             intro b hb;unfold bA;by_cases eb:b=bi
             ·subst eb
              rw[if_pos rfl];rw[qJ];refine jL λj hj=>?_;by_cases ej:j=q
              ·subst ej
               simp only[true_and,apI,and_false,if_false,if_true,apJ,u2]
              ·have hx:(j<q+1)=(j<q):=propext ⟨λh=>qqO,λh=>qqO⟩
               simp only[if_neg ej,true_and,hx]
             ·rw[if_neg eb]
              refine jL λj hj=>?_;rw[if_neg (λh=>eb h.1),if_neg (λh=>eb h.1)]
           ·have hqq:q=k:=qqO
            subst hqq
            repeat'((conv=>whnf);first|(intro hq;(try simp only[vw]at hq);try exact aV hq)|apply aI|exact aD|apply nM|apply fM)
            all_goals((try apply vM);(try simp only[vq]at*);try omega)
            refine⟨⟨i+1,λb j=>if b=bi/\j<q then(D3 b j-tv*M2 P.length j % p+p) % p else D3 b j⟩,[],⟨⟨by(show i+1≤m);omega,λr hr j=>?_⟩,by(show m-(i+1)<m-i);omega⟩,?_⟩
            ·show(if L.getD r 0=bi/\j<q then(D3 (L.getD r 0) j-tv*M2 P.length j % p+p) % p else D3 (L.getD r 0) j)=if r<i+1 then dG (Fp p) q M2 P.length c r j else M2 r j
             by_cases er:r=i
             ·subst er
              rw[if_pos (apJ r),hbi2];have hcl:dG (Fp p) q M2 P.length c r j=if j<q then(M2 r j-tv*M2 P.length j % p+p) % p else M2 r j:=by
               unfold dG;rw[htv,if_neg (λh=>h.elim hni (λh2=>hz (of_decide_eq_true h2)))];rfl
              rw[hcl,f1 j];by_cases ej:j<q
              ·rw[if_pos ⟨rfl,ej⟩,if_pos ej]
              ·rw[if_neg (λh=>ej h.2),if_neg ej]
             ·have:L.getD r 0≠bi:=λh=>er (kD.1 g3 r i qqO qqO (h.trans hbi2.symm))
              rw[if_neg (λh=>this h.1),i2 r hr j];by_cases e5:r<i
              ·rw[if_pos e5,if_pos qqO]
              ·rw[if_neg e5,if_neg qqO]
            ·all_goals exact uH
         ·have hin:i=P.length:=qqO
          refine⟨⟨i+1,D3⟩,[],⟨⟨by(show i+1≤m);omega,λr hr j=>?_⟩,by(show m-(i+1)<m-i);omega⟩,?_⟩
          ·show D3 (L.getD r 0) j=if r<i+1 then dG (Fp p) k M2 P.length c r j else M2 r j
           rw[i2 r hr j];by_cases e5:r<i
           ·rw[if_pos e5,if_pos qqO]
           ·rw[if_neg e5]
            by_cases e6:r=i
            ·rw[if_pos qqO]
             unfold dG;rw[if_pos (.inl qqO)]
            ·rw[if_neg qqO]
          ·refine wk1 ?_
           all_goals exact λ_ _=>trivial
        ·have hii:i=m:=qqO
         have hstep:jg (Fp p) k m S c=⟨dG (Fp p) k M2 P.length c,S.piv++[c],S.heads++[sv],S.odd !=decide (P.length≠a)⟩:=by
          have hi2:(Fp p).inv sv=iv:=hiv.symm;unfold jg;rw[hfind,if_neg qqO,<-hPn,hM1,hsv,hi2,hM2]
         have hpv:pvI (S.piv++[c])=P++[(c:Int)]:=by rw[<-hP];simp[pvI]
         have hhd:S.heads++[sv]=H++[sv]:=by rw[hH]
         have hl1:(S.piv++[c]).length=S.piv.length+1:=qqS;have hl2:(S.heads++[sv]).length=S.heads.length+1:=qqS;refine wk2 (λhq=>?_) λhq=>?_
         ·rw[amL,alj,alf];omega
         ·refine⟨⟨c+1,L,D3⟩,[],⟨⟨by(show c+1≤cols);omega,g2,g3,g4,hL,λr hr j=>?_⟩,by(show cols-(c+1)<cols-c);omega⟩,?_⟩
          ·show D3 (L.getD r 0) j=(aO (Fp p) k m M0 (c+1)).M r j
           rw[hsucc,hstep,i2 r hr j,if_pos qqO]
          ·simp only[hsucc,hstep,hpv,hhd,hl1,hl2,hO]
           refine wk3 ?_ ?_ ?_;all_goals first
            |exact λ_ _=>trivial
            |(rw[amL];rfl)
            |(have hd:decide ((P.length:Int)≠(a:Int))=decide (P.length≠a):=decide_eq_decide.2 ⟨λh=>qqO,λh=>qqO⟩
              rw[hd];rfl)
    ·have hstep:jg (Fp p) w m S c=S:=by
      unfold jg;rw[rF (λr h1 h2=>haz r qqO qqO),if_pos rfl]
     refine wk1 λhq hq=>?_;refine⟨⟨c+1,lx,D⟩,[],⟨⟨by(show c+1≤cols);omega,x2,x3,x4,x5,λr hr j=>?_⟩,by(show cols-(c+1)<cols-c);omega⟩,?_⟩
     ·show D (lx.getD r 0) j=(aO (Fp p) w m M0 (c+1)).M r j
      rw[hsucc,hstep];exact x6 r hr j
     ·simp only[hsucc,hstep,hP,hH,hO]
      refine wk1 ?_;all_goals exact λ_ _=>trivial
  ·have hcc:c=cols:=qqO
   subst hcc;have hPn:(pvI (aO (Fp p) w m M0 c).piv).length=(aO (Fp p) w m M0 c).piv.length:=by simp[pvI]
   refine wk2 (λhq=>?_) λhq=>?_;conv=>whnf
   repeat'((conv=>whnf);first|intro _|apply aI|exact aD|apply nM|apply fM)
   all_goals((try apply vM);(try simp only[vq]at*);try omega)
   all_goals first
    |exact x4 _ qqA
    |omega
    |(refine jL λj hj=>?_;exact x6 _ qqA j)
end Go.Eng.YtmkagljofpddpaaGreatDoor
namespace Go.Eng.ElG
set_option linter.unusedSimpArgs false
set_option linter.unusedVariables false
variable {α β:Type}
theorem xK (F:Fld α) (w m:Nat) (M:bL α):∀c x,x∈(aO F w m M c).piv->x<c:=by
 intro c;induction c with
 |zero=>intro x h;cases h
 |succ c ih=>
  intro x h;rw[show aO F w m M (c+1)=jg F w m (aO F w m M c) c from rfl]at h;unfold jg at h;split at h
  ·have:=ih x h;omega
  ·simp only[alD,apz]at h
   rcases h with h|h
   ·have:=ih x h;omega
   ·omega
def bM (piv:List Nat) (w:Nat):List Nat:=(alA w).filter λc=>decide (c∉piv)
theorem C8 (piv:List Nat):bM piv 0=[]:=rfl
theorem vo {piv:List Nat} {c:Nat} (h:c∈piv):bM piv (c+1)=bM piv c:=by
 unfold bM;rw[aoQ,apK];simp[h]
theorem l7 {piv:List Nat} {c:Nat} (h:c∉piv):bM piv (c+1)=bM piv c++[c]:=by
 unfold bM;rw[aoQ,apK];simp[h]
theorem V3 {piv:List Nat} {c:Nat}:∀{w:Nat},c≤w->∀{r:Nat},r<(bM piv c).length->(bM piv w).getD r 0=(bM piv c).getD r 0:=by
 intro w;induction w with
 |zero=>intro h r hr;rw[show c=0 by omega]
 |succ w ih=>
  intro h r hr;by_cases e:c=w+1
  ·rw[e]
  ·have h1:=ih qqO hr
   by_cases hp:w∈piv
   ·rw[vo hp];exact h1
   ·have h2:r<(bM piv w).length:=by
     clear h1;have:∀w,c≤w->(bM piv c).length≤(bM piv w).length:=λw=>by
      induction w with
      |zero=>intro h;rw[show c=0 by omega];exact alo _
      |succ w ih=>
       intro h;by_cases e:c=w+1
       ·rw[e];exact alo _
       ·have:=ih qqO
        by_cases hp:w∈piv
        ·rw[vo hp];exact this
        ·rw[l7 hp];simp;omega
     have:=this w qqO;omega
    rw[l7 hp,alC,List.getElem?_append_left h2,<-alC];exact h1
theorem C9 {piv:List Nat} {c w:Nat} (hp:c∉piv) (h:c<w):(bM piv w).getD (bM piv c).length 0=c:=by
 have:=V3 (piv:=piv) (c:=c+1) (w:=w) qqO (r:=(bM piv c).length) (by rw[l7 hp];simp)
 rw[this,l7 hp];simp[alC]
theorem kF (piv:List Nat) (w:Nat):(bM piv w).length≤w:=by
 unfold bM;have:=List.length_filter_le (λc=>decide (c∉piv)) (alA w);simpa using this
theorem q9 {piv:List Nat} {w c:Nat}:c∈bM piv w↔c<w/\c∉piv:=by simp[bM]
def fO (F:Fld α) (z o:α) (S:ES α) (c:Nat):Nat->Nat->α
 |0=>λj=>if j=c then o else z
 |t+1=>λj=>if j=S.piv.getD t 0 then F.sub z (S.M t c)else fO F z o S c t j
def kW (F:Fld α) (z o:α) (S:ES α) (w:Nat):bL α:=λr=>fO F z o S ((bM S.piv w).getD r 0) S.piv.length
def gZ (F:Fld α) (z o:α) (w m:Nat) (M:bL α):ES α:=
 aO F w (bM (aO F w m M w).piv w).length (kW F z o (aO F w m M w) w) w
end Go.Eng.ElG
namespace Go.Eng.YtmkagljofpddpaaGreatDoor
open Go.Proofs Go.Eng.Dig
set_option linter.unusedSimpArgs false
set_option linter.unusedVariables false
set_option maxHeartbeats 0
set_option maxRecDepth 100000
noncomputable def akP:CPT:=ay 189 (aJ rY) noC
theorem afq:aZ Tryz.prog akP:=aj (aA uN) aC
theorem V4 (x y:Int) (hx:0≤x/\x<18446744073709551616) (hy:0≤y/\y<18446744073709551616):aB Tryz.prog 219 [.int .u64 x,.int .u64 y] (.tup [.int .u64 (x*y / 18446744073709551616),.int .u64 (x*y % 18446744073709551616)]):=by
 refine au (md:=1) (rf:=[]) mixed ak afq Tryz.func219 qqR qqR qqR ?_;refine wk1 ?_;all_goals first|exact⟨hx.1,hx.2,hy.1,hy.2⟩|exact Sup.of rfl
def RV:PSp:=λxs K=>match xs with
 | [.int .u64 x,.int .u64 y]=>VC (0≤x/\x<18446744073709551616/\0≤y/\y<18446744073709551616)/\K (.tup [.int .u64 (x*y / 18446744073709551616),.int .u64 (x*y % 18446744073709551616)])
 |_=>False
theorem afr:POK Tryz.prog 219 RV:=by
 intro xs K hk;unfold RV at hk;split at hk
 ·obtain⟨h1,h2,h3,h4⟩:=hk.1.get
  exact⟨_,hk.2,V4 _ _ ⟨h1,h2⟩ ⟨h3,h4⟩⟩
 ·exact hk.elim
def rpL {α:Type} (v z:α) (n j:Nat):List α:=alL j v++alL (n-j) z
theorem yU {α:Type} (v z:α) {n j:Nat} (h:j≤n):(rpL v z n j).length=n:=by simp[rpL];omega
theorem Kl {α:Type} (v z:α) {n j q:Nat} (h:j+q≤n) (hq:q≤j):(rpL v z n j).take j++(((rpL v z n j).drop 0).take q++(rpL v z n j).drop (j+q))=rpL v z n (j+q):=by
 have e0:=yU v z (show j≤n by omega)
 have e1:=yU v z h;have hg:∀j i,(rpL v z n j)[i]? =if i<j then some v else if i<j+(n-j)then some z else none:=λj i=>by
  unfold rpL;rw[amA,apL,amI,amI];by_cases a:i<j
  ·simp[a]
  ·rw[if_neg a,if_neg a]
   by_cases b:i<j+(n-j)
   ·rw[if_pos b,if_pos qqO]
   ·rw[if_neg b,if_neg qqO]
 refine List.ext_getElem? λi=>?_;rw[amA,amA,amh,amh,amJ,e0];simp only[ami,List.getElem?_drop,hg,alO,ao6];rw[amd (show j≤n by omega),amd (show q≤n by omega)]
 (repeat' split)<;>first|rfl|omega
theorem Oe {α:Type} (v z:α) {n:Nat} (h:1≤n):(alL n z).take 0++(([v].drop 0).take 1++(alL n z).drop (0+1))=rpL v z n 1:=by
 simp[rpL]
theorem Og {α:Type} (v z:α) (n:Nat):rpL v z n n=alL n v:=by simp[rpL]
noncomputable def akQ:CPT:=ay 219 (aJ RV) noC
theorem yV:aZ Tryz.prog akQ:=aj (aA afr) aC
theorem V5 (v:Int) (n:Nat) (hn:1≤n/\n≤1000000):dN Tryz.prog 216 [.isl (.ints .i64 [v]) .none,.int .i64 n] [] [.rsl 0 0 n] [.cells (.ints .i64 (alL n v)) false]:=by
 have h2:((1:Nat):Int)*(n:Int) / 18446744073709551616=0:=qqO;have h3:((1:Nat):Int)*(n:Int) % 18446744073709551616=n:=qqO;have h4:(((1:Nat):Int)*(n:Int) % 18446744073709551616).toNat=n:=by rw[h3];omega
 have h5:min 1 n=1:=qqO;refine eB (md:=1) (rf:=[]) mixed ak yV 0 [(4,0)] Tryz.func216 qqR qqR qqR ?_;refine wk3 (λhq hq hq=>?_) (λhq hq hq=>?_) λhq hq hq=>?_;all_goals(try simp only[h3,h4,h5,apL])
 ·exact .inl trivial
 ·omega
 conv=>whnf
 simp only[h3,h4,anG,h5];rw[Oe v 0 hn.1];refine aR (X:=Nat) (λj=>1≤j/\j≤n) (λj=>[(8,.int .i64 j)]) (λj=>[(4,.cells (.ints .i64 (rpL v 0 n j)) false)]) (λj=>n-j) 1 ⟨aH,mixed,ak,yV,aN⟩ qqR ⟨qqO,qqO⟩ ?_ ?_
 ·exact wk0
  all_goals trace_state
 intro j hj;have hl:=yU v 0 hj.2;by_cases hlt:j<n
 ·have hq':min j (n-j)≤j:=qqO
  have hs:=Kl v 0 (n:=n) (j:=j) (q:=min j (n-j)) qqO qqO;refine wk1 λhq=>?_;all_goals first
   |omega
   |(refine⟨j+min j (n-j),[],⟨qqO,qqO⟩,?_⟩
     simp only[ao6,hs];exact wk0;all_goals first|omega|rfl)
 ·have:j=n:=qqO
  subst this;rw[Og];exact wk0;all_goals(conv=>whnf)
  all_goals(try repeat'((conv=>whnf);first|(intro hq;(try simp only[vw]at hq);try exact aV hq)|apply aI|exact aD|apply nM|apply fM))
  all_goals(try all_goals((try apply vM);(try simp only[vq]at*);try omega))
  all_goals first|omega|exact Sup.of rfl
def ixI (l:List Int) (c:Int):Int:=if c∈l then(l.idxOf c:Nat)else-1
theorem ah2 {l:List Int} {c:Int} {i:Nat} (hi:i<l.length) (h:∀j,j<i->l.getD j 0≠c) (e:l.getD i 0=c):ixI l c=i:=by
 have hm:c∈l:=by
  rw[<-e,alC,alH hi];exact apG _
 unfold ixI;rw[if_pos hm];have h1:=List.idxOf_lt_length_of_mem hm;have h2:l.getD (l.idxOf c) 0=c:=by rw[alC,alH h1];exact List.getElem_idxOf h1
 have h3:¬l.idxOf c<i:=λg=>h _ g h2;have h4:¬i<l.idxOf c:=λg=>by
  have:=List.not_of_lt_findIdx g;rw[alC,alH hi]at e;simp at this e;exact this e
 omega
theorem ah3 {l:List Int} {c:Int} (h:∀j,j<l.length->l.getD j 0≠c):ixI l c= -1:=by
 unfold ixI;rw[if_neg];intro hm;obtain⟨i,hi,e⟩:=alG hm;refine h i hi ?_;rw[alC,alH hi];exact e
theorem V6 (l:List Int) (c:Int):decide (0≤ixI l c)=decide (c∈l):=by
 rw[decide_eq_decide];unfold ixI;split<;>simp[*]
theorem index_spec (l:List Int) (c:Int) (hl:l.length≤1000000000):aB Tryz.prog 245 [.isl (.ints .i64 l) .none,.int .i64 c] (.int .i64 (ixI l c)):=by
 refine au (md:=1) (rf:=[]) mixed ak aC Tryz.func245 qqR qqR qqR ?_;refine wk1 ?_;conv=>whnf
 refine aR (X:=Nat) (λi=>i≤l.length/\∀j,j<i->l.getD j 0≠c) (λi=>[(8,.int .i64 i),(5,.any)]) (λ_=>[]) (λi=>l.length-i) 0 ⟨aH,mixed,ak,aC,aN⟩ qqR ⟨qqO,λj h=>qqO⟩ ?_ ?_
 ·exact wk0
  all_goals skip
 intro i hi;obtain⟨h1,h2⟩:=hi;have h2':∀_:Unit,∀j,j<i->l.getD j 0≠c:=λ_=>h2;clear h2;by_cases hlt:i<l.length
 ·by_cases he:l.getD i 0=c
  ·have:=ah2 hlt (h2' ()) he
   refine wk1 λhq hq=>?_;all_goals first|omega|(rw[this];exact Sup.of rfl)|(exfalso;simp_all;done)
  ·refine wk1 λhq hq=>?_
   all_goals first
    |omega
    |(refine⟨i+1,[],⟨⟨qqO,λj hj=>by
       by_cases e:j=i
       ·subst e;exact he
       ·exact h2' () j qqO⟩,qqO⟩,?_⟩
      exact wk0;all_goals skip)
    |(exfalso;simp_all;done)
 ·have:i=l.length:=qqO
  subst this;have:=ah3 (h2' ());refine wk1 λhq=>?_;all_goals first|omega|(rw[this];exact Sup.of rfl)
def Km:PSp:=λxs K=>match xs with
 | [.isl (.ints .i64 l) .none,.int .i64 c]=>VC (l.length≤1000000000)/\K (.int .i64 (ixI l c))
 |_=>False
theorem Zl:POK Tryz.prog 245 Km:=by
 intro xs K hk;unfold Km at hk;split at hk
 ·exact⟨_,hk.2,index_spec _ _ hk.1.get⟩
 ·exact hk.elim
noncomputable def akR:CPT:=ay 245 (aJ Km) noC
theorem afs:aZ Tryz.prog akR:=aj (aA Zl) aC
theorem V7 (l:List Int) (c:Int) (hl:l.length≤1000000000):aB Tryz.prog 215 [.isl (.ints .i64 l) .none,.int .i64 c] (.bp (decide (c∈l))):=by
 refine au (md:=1) (rf:=[]) mixed ak afs Tryz.func215 qqR qqR qqR ?_;refine wk1 ?_;all_goals first|omega|(rw[V6];exact Sup.of rfl)|(rw[<-V6];exact Sup.of rfl)
def GX:PSp:=λxs K=>match xs with
 | [.isl (.ints .i64 l) .none,.int .i64 c]=>VC (l.length≤1000000000)/\K (.bp (decide (c∈l)))
 |_=>False
theorem Oh:POK Tryz.prog 215 GX:=by
 intro xs K hk;unfold GX at hk;split at hk
 ·exact⟨_,hk.2,V7 _ _ hk.1.get⟩
 ·exact hk.elim
end Go.Eng.YtmkagljofpddpaaGreatDoor
namespace Go.Eng.YtmkagljofpddpaaGreatDoor
open Go.Proofs Go.Eng.ElG
set_option linter.unusedSimpArgs false
set_option linter.unusedVariables false
set_option maxHeartbeats 0
set_option maxRecDepth 100000
def lJ (args:List PV) (objs:List AO) (vs:List PV) (objs':List AO):LSp:=λys os K=>VC (ys=args/\os=objs)/\K vs objs'
theorem dF {g:FuncId} {args vs:List PV} {objs objs':List AO} (h:dN Tryz.prog g args objs vs objs'):LOK Tryz.prog g (lJ args objs vs objs'):=by
 intro xs os K hk;unfold lJ at hk;obtain⟨rfl,rfl⟩:=hk.1.get;exact⟨_,_,hk.2,h⟩
def ls3 (A B C:LSp):LSp:=λys os K=>match os with
 | [.pmat _ _]=>A ys os K
 | [.qmat _ _ _]=>B ys os K
 | []=>C ys os K
 |_=>False
theorem V8 {g:FuncId} {A B C:LSp} (h1:LOK Tryz.prog g A) (h2:LOK Tryz.prog g B) (h3:LOK Tryz.prog g C):LOK Tryz.prog g (ls3 A B C):=by
 intro xs os K hk;unfold ls3 at hk;split at hk
 ·exact h1 _ _ _ hk
 ·exact h2 _ _ _ hk
 ·exact h3 _ _ _ hk
 ·exact hk.elim
theorem V9 (p:Int) (cols:Nat) (hcol:cols≤1000):dN Tryz.prog 150 [rsV p,.nils,.int .i64 (cols:Int)] [] [.agg [.nils,.any,.any,.any]] []:=by
 refine eB (md:=0) (rf:=[]) mixed ak kR 0 [] Tryz.func150 qqR qqR qqR ?_;conv=>whnf
 refine aR (X:=Nat) (λc=>c≤cols) (λc=>[(17,.int .i64 c)]) (λc=>[]) (λc=>cols-c) 0 ⟨aH,mixed,ak,kR,aN⟩ qqR qqO ?_ ?_
 ·exact wk0
  all_goals skip
 intro c hc;by_cases hlt:c<cols
 ·refine wk1 λhq=>?_
  conv=>whnf
  refine aR (X:=Unit) (λ_=>True) (λ_=>[(10,.int .i64 0)]) (λ_=>[]) (λ_=>0) () ⟨aH,mixed,ak,kR,aN⟩ qqR True.intro ?_ ?_
  ·exact wk0
   all_goals skip
  intro _ _;refine wk1 λhq hq=>?_;all_goals first
   |(refine⟨c+1,[],⟨qqO,qqO⟩,?_⟩
     exact wk0;all_goals skip)
 ·have:c=cols:=qqO
  subst this;exact wk0;all_goals exact apM 0
def Da (id n:Nat):PV:=match n with
 |0=>.nils
 |j+1=>.rsl id 0 (j+1)
def RY (id n:Nat) (c:Nat->CL):List (Nat × AO):=match n with
 |0=>[]
 |j+1=>[(id,.qmat (j+1) (λ_=>2) c)]
theorem Zm {p:Int} (hp:PrI p) {S:ES Int} {m w:Nat} (hS:∀r,r<m->∀j,j<w->InP p (S.M r j)) {c:Nat} (hc:c<w):∀t,t≤m->∀j,InP p (fO (Fp p) 0 1 S c t j):=by
 intro t;induction t with
 |zero=>
  intro _ j;have:=hp.lo;show InP p (if j=c then 1 else 0);unfold InP;split<;>omega
 |succ t ih=>
  intro ht j;show InP p (if j=S.piv.getD t 0 then(0-S.M t c+p) % p else fO (Fp p) 0 1 S c t j);split
  ·exact nK hp _
  ·exact ih qqO j
theorem Wd (w:Nat):alL w (0:Int)=cO w λ_=>0:=by
 apply anz
 ·simp[cO]
 ·intro j h1 h2;simp[cO]
theorem sQ {l:List Nat} {c:Nat}:((c:Int)∈pvI l)↔c∈l:=by
 unfold pvI;rw[apE];constructor
 ·rintro⟨x,h,e⟩
  have:x=c:=Int.ofNat.inj e;rw[<-this];exact h
 ·exact λh=>⟨c,h,rfl⟩
theorem Wh {p:Int} {m w cols:Nat} {M0:bL Int} (hp:PrI p) (hm:1≤m/\m≤256) (hw:w≤1000) (hcw:cols≤w) (h0:∀r,r<m->∀j,j<w->InP p (M0 r j)):
 dN Tryz.prog 150 [rsV p,.rsl 0 0 m,.int .i64 (cols:Int)] [.qmat m (λ_=>2) λi=>.ints .i64 (cO w (M0 i))]
  [.agg [.rsl 0 0 (aO (Fp p) w m M0 cols).piv.length,.isl (.ints .i64 (pvI (aO (Fp p) w m M0 cols).piv)) .none,.isl (.ints .i64 (aO (Fp p) w m M0 cols).heads) .none,.bp (aO (Fp p) w m M0 cols).odd]] [.pmat m (fnI w (aO (Fp p) w m M0 cols).M)]:=
 qx (pre:=[]) (post:=[]) (fnI w M0) (λi hi=>⟨rfl,gW.rfl' _⟩) (Kk hp hm hw hcw h0)
noncomputable def akS (A B C:LSp) (w:Nat):CPT:=ay 150 (dX [] (ls3 A B C)) (ay 214 (aJ (Ao (λp a=>PrI p/\ -999999999≤a/\a≤999999999) λp a=>.int .i64 (a % p))) (ay 215 (aJ GX) (ay 216 (dX [] (lJ [.isl (.ints .i64 [0]) .none,.int .i64 (w:Int)] [] [.rsl 0 0 w] [.cells (.ints .i64 (alL w 0)) false])) (ay 334 (aJ (Kj (λp a b=>PrI p/\InP p a/\InP p b) λp a b=>.int .i64 ((a-b+p) % p))) noC))))
theorem aft {A B C:LSp} {w:Nat} (hA:LOK Tryz.prog 150 A) (hB:LOK Tryz.prog 150 B) (hC:LOK Tryz.prog 150 C) (hw:1≤w/\w≤1000000):aZ Tryz.prog (akS A B C w):=
 aj (bX [] (V8 hA hB hC)) (aj (aA (sP λp a h=>Am p a h.1 h.2)) (aj (aA Oh) (aj (bX [] (dF (V5 0 w hw))) (aj (aA (EB λp a b h=>Ki p a b h.1 h.2.1 h.2.2)) aC))))
theorem Wi {p:Int} {m w:Nat} {M0:bL Int} (hp:PrI p) (hm:1≤m/\m≤256) (hw:1≤w/\w≤256) (h0:∀r,r<m->∀j,j<w->InP p (M0 r j)) {k:Nat} (hk:(bM (aO (Fp p) w m M0 w).piv w).length=k+1):
 dN Tryz.prog 152 [rsV p,.rsl 0 0 m,.int .i64 (w:Int)] [.pmat m (fnI w M0)] [.rsl 1 0 (gZ (Fp p) 0 1 w m M0).piv.length] [.pmat m (fnI w (aO (Fp p) w m M0 w).M),.pmat (k+1) (fnI w (gZ (Fp p) 0 1 w m M0).M)]:=by
 obtain⟨S,hS⟩:∃S,S=aO (Fp p) w m M0 w:=⟨_,rfl⟩;have hA:=Kk hp hm (show w≤1000 by omega) (alo w) h0
 obtain⟨l1,l2,l3⟩:=fU (Fp p) w m M0 w;have hpv:=xK (Fp p) w m M0 w;have hhom:=jq (abJ hp) (M':=M0) (λr hr j hj=>⟨h0 r hr j hj,rfl⟩) w (alo w);have hIn:∀r,r<m->∀j,j<w->InP p (S.M r j):=λr hr j hj=>by rw[hS];exact(hhom.1 r hr j hj).1
 clear hhom;have hfl:=kF S.piv w;rw[<-hS]at hk hA l1 l2 hpv⊢;have hKin:∀r,r<k+1->∀j,j<w->InP p (kW (Fp p) 0 1 S w r j):=λr hr j hj=>Zm hp hIn (by
  have:(bM S.piv w).getD r 0∈bM S.piv w:=by
   rw[alC,alH qqO];exact apG _
  exact(q9.1 this).1) _ qqO j
 have hB:=Wh (m:=k+1) (M0:=kW (Fp p) 0 1 S w) hp qqO (show w≤1000 by omega) (alo w) hKin
 have hE:aO (Fp p) w (k+1) (kW (Fp p) 0 1 S w) w=gZ (Fp p) 0 1 w m M0:=by unfold gZ;rw[<-hS,hk]
 rw[hE]at hB;generalize gZ (Fp p) 0 1 w m M0=S2 at*
 have h0p:(0:Int) % p=0:=Int.zero_emod p;have hp1:(1:Int) % p=1:=Int.emod_eq_of_lt qqO (by have:=hp.lo;omega)
 have hc:=aft (dF hA) (dF hB) (dF (V9 p w qqO)) (w:=w) qqO;refine eB (md:=0) (rf:=[4065,66]) mixed ak hc 1 [(7,1)] Tryz.func152 qqR qqR qqR ?_;refine wk1 ?_;conv=>whnf
 refine I5 0 qqR λl g hl hnd hg=>?_;conv=>whnf
 refine aR (X:=Nat) (λc=>c≤w) (λc=>[(18,.int .i64 c),(9,.any),(10,.any),(11,.any),(12,.any),(8,Da 7 (bM S.piv c).length)]) (λc=>RY 7 (bM S.piv c).length λi=>.ints .i64 (cO w (kW (Fp p) 0 1 S w i))) (λc=>w-c) 0 ⟨aH,mixed,ak,hc,aN⟩ qqR qqO ?_ ?_
 ·rw[C8]
  refine wk1 ?_;all_goals exact λ_ _=>trivial
 intro c hcw;obtain⟨n,hn⟩:∃n,(bM S.piv c).length=n:=⟨_,rfl⟩;rw[hn];have hP:(pvI S.piv).length=S.piv.length:=by simp[pvI]
 by_cases hlt:c<w
 ·by_cases hin:c∈S.piv
  ·have hin':=sQ.2 hin
   have hn':(bM S.piv (c+1)).length=n:=by rw[vo hin];exact hn
   cases n with
   |zero=>
    refine wk6 (λhq hq=>?_) (λhq hq=>?_) (λhq hq=>?_) (λhq hq=>?_) (λhq hq=>?_) λhq hq=>?_;all_goals first
     |(refine⟨c+1,[],⟨qqO,qqO⟩,?_⟩
       rw[hn'];refine wk1 ?_;all_goals exact λ_ _=>trivial)
     |(rw[hP];omega)
     |contradiction
   |succ n=>
    refine wk6 (λhq hq=>?_) (λhq hq=>?_) (λhq hq=>?_) (λhq hq=>?_) (λhq hq=>?_) λhq hq=>?_;all_goals first
     |(refine⟨c+1,[],⟨qqO,qqO⟩,?_⟩
       rw[hn'];refine wk2 ?_ ?_;all_goals first|exact λ_ _=>trivial|exact⟨λ_ _=>trivial,λ_ _ _=>trivial⟩)
     |(rw[hP];omega)
     |contradiction
  ·have hin':¬(c:Int)∈pvI S.piv:=λh=>hin (sQ.1 h)
   have hn':(bM S.piv (c+1)).length=n+1:=by rw[l7 hin,amL,hn];rfl
   have hlast:(bM S.piv w).getD n 0=c:=by rw[<-hn];exact C9 hin hlt
   have hz:(alL w (0:Int)).set c (1 % p)=cO w (fO (Fp p) 0 1 S c 0):=by rw[hp1,Wd,qJ];rfl
   cases n with
   |zero=>
    repeat'((conv=>whnf);first|(intro hq;(try simp only[vw]at hq);try exact aV hq)|apply aI|exact aD|apply nM|apply fM)
    all_goals((try apply vM);(try simp only[vq]at*);try omega)
    all_goals first
     |(rw[hP];omega)
     |contradiction
     |exact⟨hp,qqD,qqD⟩
     |(simp only[h0p];done)
     |(rw[apL];exact hlt)
     |skip
    conv=>whnf
    simp only[anG,hz];refine aR (X:=Nat) (λt=>t≤S.piv.length) (λt=>[(40,.int .i64 t),(11,.any),(12,.any),(26,.any),(34,.any)]) (λt=>[(12,.cells (.ints .i64 (cO w (fO (Fp p) 0 1 S c t))) false)]) (λt=>S.piv.length-t) 0 ⟨aH,mixed,ak,hc,aN⟩ qqR qqO ?_ ?_
    ·all_goals exact uI
    intro t ht;by_cases htl:t<S.piv.length
    ·have hgt:=hg t qqO
     have ht1:(pvI S.piv).getD t 0=((S.piv.getD t 0:Nat):Int):=by simp[pvI,alC,htl]
     have ht2:S.piv.getD t 0<w:=hpv _ (by rw[alC,alH htl];exact apG _)
     have hM:(cO w (S.M t)).getD c 0=S.M t c:=qI _ hlt;have iIn:=hIn t qqO c hlt;have hset:(cO w (fO (Fp p) 0 1 S c t)).set (S.piv.getD t 0) ((0-S.M t c+p) % p)=cO w (fO (Fp p) 0 1 S c (t+1)):=by rw[qJ];rfl
     have hlm:l.getD t 0∈l:=by rw[alC,alH qqO];exact apG _
     repeat'((conv=>whnf);first|(intro hq;(try simp only[vw]at hq);try exact aV hq)|apply aI|exact aD|apply nM|apply fM)
     all_goals((try apply vM);(try simp only[vq]at*);try omega)
     all_goals(try simp only[jh,alV,hgt,hM,h0p,ht1,anG,fE])
     all_goals first
      |omega
      |exact hlm
      |exact⟨hp,qqD,qqD⟩
      |exact⟨hp,⟨qqO,by have:=hp.lo;omega⟩,iIn⟩
      |(rw[hset]
        refine⟨t+1,[],⟨qqO,qqO⟩,?_⟩;all_goals exact uI)
    ·have:t=S.piv.length:=qqO
     subst this;have hb:=kF S.piv (c+1);rw[hn']at hb;all_goals exact Fa
   |succ n=>
    repeat'((conv=>whnf);first|(intro hq;(try simp only[vw]at hq);try exact aV hq)|apply aI|exact aD|apply nM|apply fM)
    all_goals((try apply vM);(try simp only[vq]at*);try omega)
    all_goals first
     |(rw[hP];omega)
     |contradiction
     |exact⟨hp,qqD,qqD⟩
     |(simp only[h0p];done)
     |(rw[apL];exact hlt)
     |skip
    conv=>whnf
    simp only[anG,hz];refine aR (X:=Nat) (λt=>t≤S.piv.length) (λt=>[(40,.int .i64 t),(11,.any),(12,.any),(26,.any),(34,.any)]) (λt=>[(12,.cells (.ints .i64 (cO w (fO (Fp p) 0 1 S c t))) false)]) (λt=>S.piv.length-t) 0 ⟨aH,mixed,ak,hc,aN⟩ qqR qqO ?_ ?_
    ·all_goals exact uI
    intro t ht;by_cases htl:t<S.piv.length
    ·have hgt:=hg t qqO
     have ht1:(pvI S.piv).getD t 0=((S.piv.getD t 0:Nat):Int):=by simp[pvI,alC,htl]
     have ht2:S.piv.getD t 0<w:=hpv _ (by rw[alC,alH htl];exact apG _)
     have hM:(cO w (S.M t)).getD c 0=S.M t c:=qI _ hlt;have iIn:=hIn t qqO c hlt;have hset:(cO w (fO (Fp p) 0 1 S c t)).set (S.piv.getD t 0) ((0-S.M t c+p) % p)=cO w (fO (Fp p) 0 1 S c (t+1)):=by rw[qJ];rfl
     have hlm:l.getD t 0∈l:=by rw[alC,alH qqO];exact apG _
     repeat'((conv=>whnf);first|(intro hq;(try simp only[vw]at hq);try exact aV hq)|apply aI|exact aD|apply nM|apply fM)
     all_goals((try apply vM);(try simp only[vq]at*);try omega)
     all_goals(try simp only[jh,alV,hgt,hM,h0p,ht1,anG,fE])
     all_goals first
      |omega
      |exact hlm
      |exact⟨hp,qqD,qqD⟩
      |exact⟨hp,⟨qqO,by have:=hp.lo;omega⟩,iIn⟩
      |(rw[hset]
        refine⟨t+1,[],⟨qqO,qqO⟩,?_⟩;all_goals exact uI)
    ·have:t=S.piv.length:=qqO
     subst this;have hb:=kF S.piv (c+1);rw[hn']at hb;all_goals exact Fa
 ·have hc0:c=w:=qqO
  subst hc0;rw[hk]at hn;subst hn;refine wk2 (λhq=>?_) λhq=>?_;all_goals first|exact⟨hl,hnd,λ_ h=>h⟩|exact λ_ _=>trivial
end Go.Eng.YtmkagljofpddpaaGreatDoor
namespace Go.Eng.YtmkagljofpddpaaGreatDoor
open Go.Proofs Go.Eng.Dig
set_option linter.unusedSimpArgs false
set_option linter.unusedVariables false
set_option maxHeartbeats 0
set_option maxRecDepth 100000
theorem LX {m:Nat}:∀{rs:List (List PV)},(∀r,r∈rs->(alI r.length m&&jN r)=true)->oZ m rs:=by
 intro rs;induction rs with
 |nil=>intro _;trivial
 |cons r rs ih=>intro h;exact⟨h r qqS,ih λx hx=>h x (by simp[hx])⟩
theorem LY:∀{rs:List (List PV)},(∀r,r∈rs->iL.inlF r=true)->fJ rs:=by
 intro rs;induction rs with
 |nil=>intro _;trivial
 |cons r rs ih=>intro h;exact⟨h r qqS,ih λx hx=>h x (by simp[hx])⟩
theorem Oi {α:Type} {v z:α} {n j:Nat} {r:α} (h:r∈rpL v z n j):r=v∨r=z:=by
 unfold rpL at h;rw[alD,apN,apN]at h;rcases h with h|h<;>simp[h.2]
theorem afu:qR.bytes=64:=qqR
theorem Oj:qR.size=4:=qqR
def Ap:List PV:=[.int .i64 0,.nils,.int .i64 0,.nils]
theorem FM (f:List PV) (n:Nat) (hn:1≤n/\n≤1000000) (h1:(alI f.length 4&&jN f)=true) (hi:iL.inlF f=true):dN Tryz.prog 170 [.isl (.recs 4 [f]) .none,.int .i64 n] [] [.rsc 0 4 n] [.rowo (.recs 4 (alL n f))]:=by
 have h2:((1:Nat):Int)*(n:Int) / 18446744073709551616=0:=qqO;have h3:((1:Nat):Int)*(n:Int) % 18446744073709551616=n:=qqO;have h4:(((1:Nat):Int)*(n:Int) % 18446744073709551616).toNat=n:=by rw[h3];omega
 have h5:min 1 n=1:=qqO;have hin:∀j,fJ (rpL f Ap n j):=λj=>LY λr hr=>by
  rcases Oi hr with rfl|rfl
  ·exact hi
  ·rfl
 have hall:∀j,oZ 4 (rpL f Ap n j):=λj=>LX λr hr=>by
  rcases Oi hr with rfl|rfl
  ·exact h1
  ·rfl
 refine eB (md:=1) (rf:=[6030]) mixed ak yV 0 [(4,0)] Tryz.func170 qqR qqR qqR ?_;refine wk8 (λhq hq hq=>?_) (λhq hq hq=>?_) (λhq hq hq=>?_) (λhq hq hq=>?_) (λhq hq hq=>?_) (λhq hq hq=>?_) (λhq hq hq=>?_) λhq hq hq=>?_;all_goals(try simp only[h3,h4,h5,afu,Oj,apL])
 ·omega
 ·exact .inl trivial
 conv=>whnf
 repeat'((conv=>whnf);first|(intro hq;(try simp only[vw]at hq);try exact aV hq)|apply aI|exact aD|apply nM|apply fM)
 all_goals((try apply vM);(try simp only[vq]at*);try omega)
 ·show 0 / 4+min 1 n≤n
  omega
 conv=>whnf
 simp only[h3,h4,anG,h5,apO];have e1:=Oe f Ap hn.1;simp only[alO]at e1⊢;rw[show([PV.int .i64 0,PV.nils,PV.int .i64 0,PV.nils]:List PV)=Ap from rfl,e1];refine aR (X:=Nat) (λj=>1≤j/\j≤n) (λj=>[(8,.int .i64 j)]) (λj=>[(4,.cells (.recs 4 (rpL f Ap n j)) false)]) (λj=>n-j) 1 ⟨aH,mixed,ak,yV,aN⟩ qqR ⟨qqO,qqO⟩ ?_ ?_
 ·refine wk1 ?_
  all_goals exact hin 1
 intro j hj;have hl:=yU f Ap hj.2;have hI:=hin j;have hA:=hall j;by_cases hlt:j<n
 ·have hq':min j (n-j)≤j:=qqO
  have hs:=Kl f Ap (n:=n) (j:=j) (q:=min j (n-j)) qqO qqO;have hI2:=hin (j+min j (n-j));refine wk3 (λhq=>?_) (λhq=>?_) λhq=>?_;all_goals(try simp only[Oj,amo,apO,Nat.mul_div_cancel _ (show 0<4 by decide),Nat.mul_mod_left,ao6,hl])
  all_goals first
   |exact hI
   |exact hA
   |omega
   |(rw[hs]
     refine⟨j+min j (n-j),[],⟨qqO,qqO⟩,?_⟩;exact wk0;all_goals first|exact⟨rfl,hI2⟩|exact hI2)
 ·have:j=n:=qqO
  subst this;rw[Og]at hI⊢;refine wk1 λhq=>?_;all_goals first|exact⟨rfl,hI⟩|exact hI
end Go.Eng.YtmkagljofpddpaaGreatDoor
namespace Go.Eng.YtmkagljofpddpaaGreatDoor
open Go.Proofs Go.Eng.ElG
set_option linter.unusedSimpArgs false
set_option linter.unusedVariables false
set_option maxHeartbeats 0
set_option maxRecDepth 100000
def rfL (w:Nat) (f:Nat->Fr):List (List PV):=(alA w).map λj=>frC (f j)
theorem iT (w:Nat) (f:Nat->Fr):(rfL w f).length=w:=by simp[rfL]
theorem yX {w:Nat} (f:Nat->Fr) (k:Nat) (v:Fr):(rfL w f).set k (frC v)=rfL w (λj=>if j=k then v else f j):=by
 apply anz
 ·simp[rfL]
 ·intro j h1 h2
  rw[anD];simp only[rfL,anE,anF];by_cases e:k=j
  ·subst e;simp
  ·rw[if_neg e,if_neg (λh=>e h.symm)]
theorem lK (w:Nat) (f:Nat->Fr):gW (.recs 4 (rfL w f)) (.genr 4 w λj=>frC (f j)):=by
 refine⟨by simp[CL.cnt,rfL],rfl,λj hj=>?_⟩
 have hj:j<(rfL w f).length*4:=hj;rw[iT]at hj;simp only[CL.get];have h1:j / 4<w:=qqO;simp[rfL,alC,h1]
theorem Db (cols:Nat) (hcol:cols≤1000):dN Tryz.prog 131 [.agg [],.nils,.int .i64 (cols:Int)] [] [.agg [.nils,.any,.any,.any]] []:=by
 refine eB (md:=0) (rf:=[]) mixed ak kQ 0 [] Tryz.func131 qqR qqR qqR ?_;conv=>whnf
 refine aR (X:=Nat) (λc=>c≤cols) (λc=>[(17,.int .i64 c)]) (λc=>[]) (λc=>cols-c) 0 ⟨aH,mixed,ak,kQ,aN⟩ qqR qqO ?_ ?_
 ·exact wk0
  all_goals skip
 intro c hc;by_cases hlt:c<cols
 ·refine wk1 λhq=>?_
  conv=>whnf
  refine aR (X:=Unit) (λ_=>True) (λ_=>[(10,.int .i64 0)]) (λ_=>[]) (λ_=>0) () ⟨aH,mixed,ak,kQ,aN⟩ qqR True.intro ?_ ?_
  ·exact wk0
   all_goals skip
  intro _ _;refine wk1 λhq hq=>?_;all_goals first
   |(refine⟨c+1,[],⟨qqO,qqO⟩,?_⟩
     exact wk0;all_goals skip)
 ·have:c=cols:=qqO
  subst this;exact wk0;all_goals exact apM 0
theorem vv {m w cols b:Nat} {M0:bL Fr} (hm:1≤m/\m≤256) (hw:w≤1000) (hcw:cols≤w) (h0:∀r,r<m->∀j,j<w->GL b 0 (M0 r j)) (hB:Bd b m≤1000000000):
 dN Tryz.prog 131 [.agg [],.rsl 0 0 m,.int .i64 (cols:Int)] [.qmat m (λ_=>2) λi=>.recs 4 (rfL w (M0 i))]
  [.agg [.rsl 0 0 (aO Ff w m M0 cols).piv.length,.isl (.ints .i64 (pvI (aO Ff w m M0 cols).piv)) .none,.isl (.recs 4 ((aO Ff w m M0 cols).heads.map frC)) .none,.bp (aO Ff w m M0 cols).odd]] [.pmat m (fnM w (aO Ff w m M0 cols).M)]:=
 qx (pre:=[]) (post:=[]) (fnM w M0) (λi hi=>⟨rfl,lK _ _⟩) (Al hm hw hcw h0 hB)
abbrev zFr:Fr:=⟨⟨0,[]⟩,gD⟩
abbrev oFr:Fr:=⟨⟨1,[]⟩,gD⟩
def Zn:PSp:=λxs K=>match xs with
 | [.agg [],.int .i64 n]=>K (frV ⟨⟨n,[]⟩,gD⟩)
 |_=>False
theorem ah4:POK Tryz.prog 329 Zn:=by
 intro xs K hk;unfold Zn at hk;split at hk
 ·exact⟨_,hk,Zh _⟩
 ·exact hk.elim
noncomputable def akT (A B C:LSp) (w:Nat):CPT:=ay 131 (dX [] (ls3 A B C)) (ay 329 (aJ Zn) (ay 215 (aJ GX) (ay 170 (dX [] (lJ [.isl (.recs 4 [frC zFr]) .none,.int .i64 (w:Int)] [] [.rsc 0 4 w] [.rowo (.recs 4 (alL w (frC zFr)))])) (ay 330 (aU (Ke (λa b=>FB a/\FB b) λa b=>frV (iP a b))) noC))))
theorem Ol {A B C:LSp} {w:Nat} (hA:LOK Tryz.prog 131 A) (hB:LOK Tryz.prog 131 B) (hC:LOK Tryz.prog 131 C) (hw:1≤w/\w≤1000000):aZ Tryz.prog (akT A B C w):=
 aj (bX [] (V8 hA hB hC)) (aj (aA ah4) (aj (aA Oh) (aj (bX [] (dF (FM (frC zFr) w hw qqR qqR))) (aj (aF (EA λa b h=>Kg a b h)) aC))))
theorem RZ {m w b:Nat} {M0:bL Fr} (hm:1≤m/\m≤256) (hw:1≤w/\w≤256) (h0:∀r,r<m->∀j,j<w->GL b 0 (M0 r j)) (hB:Bd b m≤1000000000) (hk:(bM (aO Ff w m M0 w).piv w).length=0):
 dN Tryz.prog 159 [PV.agg [],.rsl 0 0 m,.int .i64 (w:Int)] [.pmat m (fnM w M0)] [.nils] [.pmat m (fnM w (aO Ff w m M0 w).M)]:=by
 obtain⟨S,hS⟩:∃S,S=aO Ff w m M0 w:=⟨_,rfl⟩;have hA:=Al hm (show w≤1000 by omega) (alo w) h0 hB
 obtain⟨l1,l2,l3⟩:=fU Ff w m M0 w;rw[<-hS]at hk hA l1 l2⊢;have hall:∀c,c<w->c∈S.piv:=λc hc=>by
  apply apP;intro h;have h1:c∈bM S.piv w:=q9.2 ⟨hc,h⟩;rw[List.eq_nil_of_length_eq_zero hk]at h1;cases h1
 have hBB:LOK Tryz.prog 131 λ_ _ _=>False:=λ_ _ _ h=>h.elim;have hc:=Ol (dF hA) hBB (dF (Db w qqO)) (w:=w) qqO;refine eB (md:=0) (rf:=[4065,66]) mixed ak hc 1 [] Tryz.func159 qqR qqR qqR ?_;refine wk1 ?_;conv=>whnf
 refine aR (X:=Nat) (λc=>c≤w) (λc=>[(18,.int .i64 c),(9,.any),(10,.any),(11,.any),(12,.any),(8,.nils)]) (λc=>[]) (λc=>w-c) 0 ⟨aH,mixed,ak,hc,aN⟩ qqR qqO ?_ ?_
 ·refine wk1 ?_
  all_goals first|exact λ_ _=>trivial
 intro c hcw;have hP:(pvI S.piv).length=S.piv.length:=by simp[pvI]
 by_cases hlt:c<w
 ·have hin':=sQ.2 (hall c hlt)
  refine wk5 (λhq hq=>?_) (λhq hq=>?_) (λhq hq=>?_) (λhq hq=>?_) λhq hq=>?_;all_goals first
   |(refine⟨c+1,[],⟨qqO,qqO⟩,?_⟩
     refine wk1 ?_;all_goals first|exact λ_ _=>trivial)
   |(rw[hP];omega)
   |contradiction
 ·have hc0:c=w:=qqO
  subst hc0;refine wk1 λhq=>?_;all_goals first|exact λ_ _=>trivial|exact Sup.of rfl
def kB (b m:Nat):Nat:=zFr.L+oFr.L+1+Bd b m
theorem yY:zFr=can 0:=rfl
theorem sS:oFr=can 1:=rfl
theorem xL:zFr.OK:=by rw[yY];exact eY _
theorem Wj:oFr.OK:=by rw[sS];exact eY _
theorem fbz:FB zFr:=by rw[yY];exact JG qqV
theorem Om {S:ES Fr} {m w b:Nat} (hS:∀r,r<m->∀j,j<w->GL b m (S.M r j)) {c:Nat} (hc:c<w):∀t,t≤m->∀j,GL (kB b m) 0 (fO Ff zFr oFr S c t j):=by
 intro t;induction t with
 |zero=>
  intro _ j;show GL (kB b m) 0 (if j=c then oFr else zFr);split
  ·exact⟨Wj,by show _≤kB b m;unfold kB;omega⟩
  ·exact⟨xL,by show _≤kB b m;unfold kB;omega⟩
 |succ t ih=>
  intro ht j;show GL (kB b m) 0 (if j=S.piv.getD t 0 then iP zFr (S.M t c)else fO Ff zFr oFr S c t j);split
  ·have h:=hS t qqO c hc
   have h1:=abA xL h.ok;have h2:=h.le;exact⟨Nt xL h.ok,by show _≤kB b m;unfold kB;omega⟩
  ·exact ih qqO j
theorem Aq (w:Nat):alL w (frC zFr)=rfL w λ_=>zFr:=by
 apply anz
 ·simp[rfL]
 ·intro j h1 h2;simp[rfL]
theorem iU (w:Nat) (f:Nat->Fr):fJ (rfL w f):=rO _ _ λi=>rfl
theorem Wm {m w b:Nat} {M0:bL Fr} (hm:1≤m/\m≤256) (hw:1≤w/\w≤256) (h0:∀r,r<m->∀j,j<w->GL b 0 (M0 r j)) (hB1:Bd b m≤1000000000) {k:Nat} (hk:(bM (aO Ff w m M0 w).piv w).length=k+1) (hB2:Bd (kB b m) (k+1)≤1000000000):
 dN Tryz.prog 159 [PV.agg [],.rsl 0 0 m,.int .i64 (w:Int)] [.pmat m (fnM w M0)] [.rsl 1 0 (gZ Ff zFr oFr w m M0).piv.length] [.pmat m (fnM w (aO Ff w m M0 w).M),.pmat (k+1) (fnM w (gZ Ff zFr oFr w m M0).M)]:=by
 obtain⟨S,hS⟩:∃S,S=aO Ff w m M0 w:=⟨_,rfl⟩;have hA:=Al hm (show w≤1000 by omega) (alo w) h0 hB1
 obtain⟨l1,l2,l3⟩:=fU Ff w m M0 w;have hpv:=xK Ff w m M0 w;have hhom:=jq (yK b) (M':=λi j=>(M0 i j).val) (λr hr j hj=>⟨h0 r hr j hj,rfl⟩) w (alo w);have hIn:∀r,r<m->∀j,j<w->GL b m (S.M r j):=λr hr j hj=>by
  rw[hS];have:=(hhom.1 r hr j hj).1;exact⟨this.ok,als this.le (lY b (fU Ff w m M0 w).1)⟩
 clear hhom;have hfl:=kF S.piv w;rw[<-hS]at hk hA l1 l2 hpv⊢;have hKin:∀r,r<k+1->∀j,j<w->GL (kB b m) 0 (kW Ff zFr oFr S w r j):=λr hr j hj=>Om hIn (by
  have:(bM S.piv w).getD r 0∈bM S.piv w:=by
   rw[alC,alH qqO];exact apG _
  exact(q9.1 this).1) _ qqO j
 have hB:=vv (m:=k+1) (M0:=kW Ff zFr oFr S w) qqO (show w≤1000 by omega) (alo w) hKin hB2
 have hE:aO Ff w (k+1) (kW Ff zFr oFr S w) w=gZ Ff zFr oFr w m M0:=by unfold gZ;rw[<-hS,hk]
 rw[hE]at hB;generalize gZ Ff zFr oFr w m M0=S2 at*
 have hc:=Ol (dF hA) (dF hB) (dF (Db w qqO)) (w:=w) qqO;refine eB (md:=0) (rf:=[4065,66]) mixed ak hc 1 [(7,1)] Tryz.func159 qqR qqR qqR ?_;refine wk1 ?_;conv=>whnf
 refine Ch 0 qqR λl g hl hnd hg=>?_;conv=>whnf
 refine aR (X:=Nat) (λc=>c≤w) (λc=>[(18,.int .i64 c),(9,.any),(10,.any),(11,.any),(12,.any),(8,Da 7 (bM S.piv c).length)]) (λc=>RY 7 (bM S.piv c).length λi=>.recs 4 (rfL w (kW Ff zFr oFr S w i))) (λc=>w-c) 0 ⟨aH,mixed,ak,hc,aN⟩ qqR qqO ?_ ?_
 ·rw[C8]
  refine wk1 ?_;all_goals exact λ_ _=>trivial
 intro c hcw;obtain⟨n,hn⟩:∃n,(bM S.piv c).length=n:=⟨_,rfl⟩;rw[hn];have hP:(pvI S.piv).length=S.piv.length:=by simp[pvI]
 by_cases hlt:c<w
 ·by_cases hin:c∈S.piv
  ·have hin':=sQ.2 hin
   have hn':(bM S.piv (c+1)).length=n:=by rw[vo hin];exact hn
   cases n with
   |zero=>
    refine wk5 (λhq hq=>?_) (λhq hq=>?_) (λhq hq=>?_) (λhq hq=>?_) λhq hq=>?_;all_goals first
     |(refine⟨c+1,[],⟨qqO,qqO⟩,?_⟩
       rw[hn'];refine wk1 ?_;all_goals exact λ_ _=>trivial)
     |(rw[hP];omega)
     |contradiction
   |succ n=>
    refine wk5 (λhq hq=>?_) (λhq hq=>?_) (λhq hq=>?_) (λhq hq=>?_) λhq hq=>?_;all_goals first
     |(refine⟨c+1,[],⟨qqO,qqO⟩,?_⟩
       rw[hn'];refine wk2 ?_ ?_;all_goals first|exact⟨rfl,iU _ _⟩|exact iU _ _|exact λ_ _=>trivial|exact⟨λ_ _=>trivial,λ_ _ _=>trivial⟩)
     |(rw[hP];omega)
     |contradiction
  ·have hin':¬(c:Int)∈pvI S.piv:=λh=>hin (sQ.1 h)
   have hn':(bM S.piv (c+1)).length=n+1:=by rw[l7 hin,amL,hn];rfl
   have hlast:(bM S.piv w).getD n 0=c:=by rw[<-hn];exact C9 hin hlt
   have hz:(alL w (frC zFr)).set c (frC oFr)=rfL w (fO Ff zFr oFr S c 0):=by rw[Aq,yX];rfl
   cases n with
   |zero=>
    repeat'((conv=>whnf);first|(intro hq;(try simp only[vw]at hq);try exact aV hq)|apply aI|exact aD|apply nM|apply fM)
    all_goals((try apply vM);(try simp only[vq]at*);try omega)
    all_goals first
     |(rw[hP];omega)
     |contradiction
     |(rw[apL];exact hlt)
     |skip
    ·exact rfl
    ·exact rfl
    conv=>whnf
    simp only[anG,hz];refine aR (X:=Nat) (λt=>t≤S.piv.length) (λt=>[(40,.int .i64 t),(11,.any),(12,.any),(26,.any),(34,.any)]) (λt=>[(12,.cells (.recs 4 (rfL w (fO Ff zFr oFr S c t))) false)]) (λt=>S.piv.length-t) 0 ⟨aH,mixed,ak,hc,aN⟩ qqR qqO ?_ ?_
    ·all_goals exact Fb
    intro t ht;by_cases htl:t<S.piv.length
    ·have hgt:=hg t qqO
     have ht1:(pvI S.piv).getD t 0=((S.piv.getD t 0:Nat):Int):=by simp[pvI,alC,htl]
     have ht2:S.piv.getD t 0<w:=hpv _ (by rw[alC,alH htl];exact apG _)
     have hM:=trivial;have iIn:=hIn t qqO c hlt;have hset:(rfL w (fO Ff zFr oFr S c t)).set (S.piv.getD t 0) (frC (iP zFr (S.M t c)))=rfL w (fO Ff zFr oFr S c (t+1)):=by rw[yX];rfl
     have hlm:l.getD t 0∈l:=by rw[alC,alH qqO];exact apG _
     repeat'((conv=>whnf);first|(intro hq;(try simp only[vw]at hq);try exact aV hq)|apply aI|exact aD|apply nM|apply fM)
     all_goals((try apply vM);(try simp only[vq]at*);try omega)
     all_goals(try simp only[fA,alV,hgt,ht1,anG,iT,cu])
     all_goals first
      |omega
      |exact hlm
      |exact rfl
      |skip
     repeat'((conv=>whnf);first|(intro hq;(try simp only[vw]at hq);try exact aV hq)|apply aI|exact aD|apply nM|apply fM)
     all_goals((try apply vM);(try simp only[vq]at*);try omega)
     all_goals(try simp only[fA,alV,hgt,ht1,anG,iT,cu])
     all_goals first
      |omega
      |exact hlm
      |exact rfl
      |exact⟨fbz,iIn.fb qqO⟩
      |(rw[hset]
        refine⟨t+1,[],⟨qqO,qqO⟩,?_⟩;all_goals exact Fe)
    ·have:t=S.piv.length:=qqO
     subst this;have hb:=kF S.piv (c+1);rw[hn']at hb;all_goals exact Fg
   |succ n=>
    repeat'((conv=>whnf);first|(intro hq;(try simp only[vw]at hq);try exact aV hq)|apply aI|exact aD|apply nM|apply fM)
    all_goals((try apply vM);(try simp only[vq]at*);try omega)
    all_goals first
     |(rw[hP];omega)
     |contradiction
     |(rw[apL];exact hlt)
     |skip
    ·exact rfl
    ·exact rfl
    conv=>whnf
    simp only[anG,hz];refine aR (X:=Nat) (λt=>t≤S.piv.length) (λt=>[(40,.int .i64 t),(11,.any),(12,.any),(26,.any),(34,.any)]) (λt=>[(12,.cells (.recs 4 (rfL w (fO Ff zFr oFr S c t))) false)]) (λt=>S.piv.length-t) 0 ⟨aH,mixed,ak,hc,aN⟩ qqR qqO ?_ ?_
    ·all_goals exact Fb
    intro t ht;by_cases htl:t<S.piv.length
    ·have hgt:=hg t qqO
     have ht1:(pvI S.piv).getD t 0=((S.piv.getD t 0:Nat):Int):=by simp[pvI,alC,htl]
     have ht2:S.piv.getD t 0<w:=hpv _ (by rw[alC,alH htl];exact apG _)
     have hM:=trivial;have iIn:=hIn t qqO c hlt;have hset:(rfL w (fO Ff zFr oFr S c t)).set (S.piv.getD t 0) (frC (iP zFr (S.M t c)))=rfL w (fO Ff zFr oFr S c (t+1)):=by rw[yX];rfl
     have hlm:l.getD t 0∈l:=by rw[alC,alH qqO];exact apG _
     repeat'((conv=>whnf);first|(intro hq;(try simp only[vw]at hq);try exact aV hq)|apply aI|exact aD|apply nM|apply fM)
     all_goals((try apply vM);(try simp only[vq]at*);try omega)
     all_goals(try simp only[fA,alV,hgt,ht1,anG,iT,cu])
     all_goals first
      |omega
      |exact hlm
      |exact rfl
      |skip
     repeat'((conv=>whnf);first|(intro hq;(try simp only[vw]at hq);try exact aV hq)|apply aI|exact aD|apply nM|apply fM)
     all_goals((try apply vM);(try simp only[vq]at*);try omega)
     all_goals(try simp only[fA,alV,hgt,ht1,anG,iT,cu])
     all_goals first
      |omega
      |exact hlm
      |exact rfl
      |exact⟨fbz,iIn.fb qqO⟩
      |(rw[hset]
        refine⟨t+1,[],⟨qqO,qqO⟩,?_⟩;all_goals exact Fe)
    ·have:t=S.piv.length:=qqO
     subst this;have hb:=kF S.piv (c+1);rw[hn']at hb;all_goals exact Fg
 ·have hc0:c=w:=qqO
  subst hc0;rw[hk]at hn;subst hn;refine wk2 (λhq=>?_) λhq=>?_;all_goals first|exact⟨hl,hnd,λ_ h=>h⟩|exact λ_ _=>trivial
end Go.Eng.YtmkagljofpddpaaGreatDoor
namespace Go.Eng.YtmkagljofpddpaaGreatDoor
open Go.Proofs Go.Eng.Dig Go.Eng.Dec Go.Eng.Pm Go.Eng.ElG
set_option linter.unusedSimpArgs false
set_option linter.unusedVariables false
set_option maxHeartbeats 0
set_option maxRecDepth 100000
abbrev fmV (r w:Nat) (D:bL Fr):PV:=.isl (.gen r λi=>frL w (D i)) .none
def mtT (w:Nat) (D:bL Fr) (i:Nat):List PV:=(alA i).map λr=>stV (txL w (D r))
theorem EC (w:Nat) (D:bL Fr) (i:Nat):(mtT w D i).length=i:=by simp[mtT]
theorem Kn (w:Nat) (D:bL Fr) (i:Nat):mtT w D i++[stV (txL w (D i))]=mtT w D (i+1):=by simp[mtT,aoQ]
theorem Zo {f:Nat->PV}:∀{l:List Nat} {i:Nat} (h:i<l.length),aG (l.map f) i=f l[i]:=by
 intro l;induction l with
 |nil=>intro i h;cases h
 |cons x l ih=>
  intro i h;cases i with
  |zero=>rfl
  |succ i=>exact ih (by simpa using h)
theorem ah5 (w:Nat) (D:bL Fr) {r i:Nat} (h:i<r):aG (mtT w D r) i=stV (txL w (D i)):=by
 unfold mtT;rw[Zo (by simpa using h)]
 simp
structure Ky where
 n:Nat
def rwP (w:Nat) (D:bL Fr):PSp:=λys K=>∃i:Ky,VC (ys=[frL w (D i.n)]/\∀j,j<w->FT (D i.n j))/\(kP w (D i.n)=true->K (.tup [stV [],.int .i64 4]))/\(kP w (D i.n)=false->K (.tup [stV (txL w (D i.n)),.int .i64 0]))
theorem ah6 {w:Nat} {D:bL Fr} (hw:w≤1000000):POK Tryz.prog 171 (rwP w D):=by
 rintro ys K ⟨⟨i⟩,⟨⟨rfl,hf⟩⟩,h1,h2⟩
 have h:=J8 w (D i) hw hf;unfold rwR at h;cases hl:kP w (D i)
 ·rw[hl,if_neg qqS]at h;exact⟨_,h2 hl,h⟩
 ·rw[hl,if_pos rfl]at h;exact⟨_,h1 hl,h⟩
noncomputable def akU (w:Nat) (D:bL Fr):CPT:=ay 171 (aJ (rwP w D)) noC
theorem Oo {w:Nat} {D:bL Fr} (hw:w≤1000000):aZ Tryz.prog (akU w D):=aj (aA (ah6 hw)) aC
theorem Zp (r w:Nat) (D:bL Fr) (hr:r≤1000000) (hw:w≤1000000) (hf:∀i,i<r->∀j,j<w->FT (D i j)) (hl:∀i,i<r->kP w (D i)=false):
 aB Tryz.prog 158 [fmV r w D] (.tup [tmV r λi=>txL w (D i),.int .i64 0]):=by
 have hc:=Oo (D:=D) hw;refine au (md:=1) (rf:=[]) mixed ak hc Tryz.func158 qqR qqR qqR ?_;refine wk1 ?_;conv=>whnf
 refine aR (X:=Nat) (λi=>i≤r) (λi=>[(11,.int .i64 i),(5,.any),(6,.any),(7,.any),(8,.any),(15,.any),(4,.isl (.pv (mtT w D i)) (.own 5))]) (λi=>[(5,.tok 1 i)]) (λi=>r-i) 0 ⟨aH,mixed,ak,hc,aN⟩ qqR qqO ?_ ?_
 ·exact wk0
  all_goals first|rfl|exact λ_ _=>trivial|skip
 intro i hi;obtain⟨ky,rfl⟩:∃ky:Ky,i=ky.n:=⟨⟨i⟩,rfl⟩;have e0:=EC w D ky.n;by_cases hlt:ky.n<r
 ·have e1:=hf ky.n hlt
  have e2:=hl ky.n hlt;have e3:=Kn w D ky.n
  repeat'((conv=>whnf);first|refine Exists.intro (ky) ?_|(intro hq;(try simp only[vw]at hq);try exact aV hq)|apply aI|exact aD|apply nM|apply fM)
  all_goals((try apply vM);(try simp only[vq]at*);try omega)
  all_goals first
   |exact⟨rfl,e1⟩
   |exact e1
   |omega
   |(simp only[amL,alj,alf];omega)
   |(exfalso;simp_all;done)
   |(refine⟨ky.n+1,[],⟨qqO,qqO⟩,?_⟩
     refine wk1 ?_;all_goals first|exact congrArg CL.pv e3|exact e3|skip)
 ·have:ky.n=r:=qqO
  rw[this]at*;refine wk1 λhq=>?_;all_goals first|exact vg (CX (EC _ _ _) λj hj=>ah5 w D hj) _ _
theorem afv (r w:Nat) (D:bL Fr) (hr:r≤1000000) (hw:w≤1000000) (hf:∀i,i<r->∀j,j<w->FT (D i j)) (hl:∃i,i<r/\kP w (D i)=true):
 aB Tryz.prog 158 [fmV r w D] (.tup [.nils,.int .i64 4]):=by
 have hc:=Oo (D:=D) hw;refine au (md:=1) (rf:=[]) mixed ak hc Tryz.func158 qqR qqR qqR ?_;refine wk1 ?_;conv=>whnf
 refine aR (X:=Nat) (λi=>i≤r/\∀j,j<i->kP w (D j)=false) (λi=>[(11,.int .i64 i),(5,.any),(6,.any),(7,.any),(8,.any),(15,.any),(4,.isl (.pv (mtT w D i)) (.own 5))]) (λi=>[(5,.tok 1 i)]) (λi=>r-i) 0 ⟨aH,mixed,ak,hc,aN⟩ qqR ⟨qqO,λj hj=>qqO⟩ ?_ ?_
 ·exact wk0
  all_goals first|rfl|exact λ_ _=>trivial|skip
 intro i ⟨hi,hok⟩;obtain⟨ky,rfl⟩:∃ky:Ky,i=ky.n:=⟨⟨i⟩,rfl⟩;have e0:=EC w D ky.n;by_cases hlt:ky.n<r
 ·have e1:=hf ky.n hlt
  have e3:=Kn w D ky.n
  repeat'((conv=>whnf);first|refine Exists.intro (ky) ?_|(intro hq;(try simp only[vw]at hq);try exact aV hq)|apply aI|exact aD|apply nM|apply fM)
  all_goals((try apply vM);(try simp only[vq]at*);try omega)
  all_goals first
   |exact⟨rfl,e1⟩
   |exact e1
   |omega
   |(simp only[amL,alj,alf];omega)
   |exact Sup.of rfl
   |(refine⟨ky.n+1,[],⟨⟨qqO,λj hj=>?_⟩,qqO⟩,?_⟩
     ·by_cases e:j=ky.n
      ·subst e;assumption
      ·exact hok j qqO
     refine wk1 ?_;all_goals first|exact congrArg CL.pv e3|exact e3|skip)
 ·obtain⟨k,hk,hk2⟩:=hl
  rw[hok k qqO]at hk2;cases hk2
theorem Wn:aB Tryz.prog 158 [.isl (.gen 0 λ_=>.nils) .none] (.tup [.nils,.int .i64 0]):=by
 refine au (md:=1) (rf:=[]) mixed ak aC Tryz.func158 qqR qqR qqR ?_;refine wk1 ?_;conv=>whnf
 refine aR (X:=Unit) (λ_=>True) (λ_=>[(11,.int .i64 0),(4,.nils)]) (λ_=>[]) (λ_=>0) () ⟨aH,mixed,ak,aC,aN⟩ qqR True.intro ?_ ?_
 ·exact wk0
  all_goals skip
 intro _ _;refine wk1 λhq=>?_;all_goals first|exact Sup.of rfl
def vC (w:Nat) (q:Nat->Rat):Bool:=(alA w).any λj=>lgQ (q j)
def GY (r w:Nat) (Q:Nat->Nat->Rat):Bool:=(alA r).any λi=>vC w (Q i)
theorem Ar {w:Nat} {f:Nat->Fr} {q:Nat->Rat} (h:∀j,j<w->(f j).val=q j):kP w f=vC w q:=by
 unfold kP vC;rw[Bool.eq_iff_iff,apF,apF];exact exists_congr λj=>and_congr_right λhj=>by rw[h j (anj.1 hj)]
theorem Wo {w:Nat} {f:Nat->Fr} {q:Nat->Rat} (h:∀j,j<w->(f j).val=q j):txL w f=qsL w q:=by
 unfold txL qsL;exact anC λj hj=>by rw[h j (anj.1 hj)]
theorem Zq {n:Nat} {f g:Nat->PV} (h:∀i,i<n->f i=g i):gW (.gen n f) (.gen n g):=⟨rfl,rfl,λj hj=>by simp only[CL.ncell]at hj;simp only[CL.get];exact(h j hj).symm⟩
def mtN (r w:Nat) (Q:Nat->Nat->Rat):Nat:=if GY r w Q=true then 0 else r
def mtE (r w:Nat) (Q:Nat->Nat->Rat):Int:=if GY r w Q=true then 4 else 0
def mtR (r w:Nat) (Q:Nat->Nat->Rat):PV:=.tup [tmV (mtN r w Q) (qmL w Q),.int .i64 (mtE r w Q)]
theorem afw (r w:Nat) (D:bL Fr) (Q:Nat->Nat->Rat) (hr:r≤1000000) (hw:w≤1000000) (hf:∀i,i<r->∀j,j<w->FT (D i j)) (hv:∀i,i<r->∀j,j<w->(D i j).val=Q i j):
 aB Tryz.prog 158 [fmV r w D] (mtR r w Q):=by
 unfold mtR mtN mtE;cases hl:GY r w Q
 ·have hl':∀i,i<r->kP w (D i)=false:=λi hi=>by
   rw[Ar (hv i hi)];cases e:vC w (Q i)
   ·rfl
   ·have:GY r w Q=true:=apF.2 ⟨i,anj.2 hi,e⟩
    rw[hl]at this;cases this
  simp only[amn,if_false];exact ku (Zp r w D hr hw hf hl') (vg (Zq λi hi=>congrArg stV (Wo (hv i hi))) _ _)
 ·obtain⟨i,hi,e⟩:=apF.1 hl
  have hi:=anj.1 hi;simp only[if_true];exact ku (afv r w D hr hw hf ⟨i,hi,by rw[Ar (hv i hi)];exact e⟩) (Ah rfl _)
abbrev qmF (m w:Nat) (D:bL Fr):AO:=.qmat m (λ_=>2) λi=>.recs 4 (rfL w (D i))
theorem Au (m w:Nat) (D:bL Fr) (hm:1≤m/\m≤256):dN Tryz.prog 157 [.rsl 0 0 m] [qmF m w D] [.int .i64 (w:Int)] [qmF m w D]:=by
 refine eB (md:=1) (rf:=[]) mixed ak aC 1 [] Tryz.func157 qqR qqR qqR ?_;refine wk4 (λhq=>?_) (λhq=>?_) (λhq hq=>?_) λhq hq=>?_;all_goals first|exact .inr trivial|exact⟨λ_ _=>trivial,λ_ _ _=>trivial⟩|(simp only[iT])|(show 0*_<m;rw[amo];omega)
end Go.Eng.YtmkagljofpddpaaGreatDoor
namespace Go.Eng.YtmkagljofpddpaaGreatDoor
open Go.Proofs Go.Eng.Dig Go.Eng.Dec Go.Eng.Pm
set_option linter.unusedSimpArgs false
set_option linter.unusedVariables false
set_option maxHeartbeats 0
set_option maxRecDepth 100000
noncomputable def akV:CPT:=ay 141 (aJ GJ) noC
theorem afx:aZ Tryz.prog akV:=aj (aA NJ) aC
theorem Zr (n:Int):aB Tryz.prog 212 [.int .i64 n] (.bp (!smQ n)):=by
 refine au (md:=1) (rf:=[]) mixed ak afx Tryz.func212 qqR qqR qqR ?_;refine wk1 ?_;all_goals first|exact Sup.of rfl
def Zt:PSp:=λxs K=>match xs with
 | [.int .i64 n]=>VC (True)/\K (.bp (!smQ n))
 |_=>False
theorem ah7:POK Tryz.prog 212 Zt:=by
 intro xs K h;unfold Zt at h;split at h
 ·exact⟨_,h.2,Zr _⟩
 ·exact h.elim
noncomputable def akW:CPT:=ay 212 (aJ Zt) noC
theorem Oq:aZ Tryz.prog akW:=aj (aA ah7) aC
theorem Wp (l:List Int) (hw:l.length≤1000000):aB Tryz.prog 244 [.isl (.ints .i64 l) .none,.fn (.func 212) [] []] (.int .i64 (ixF (λi=>!smQ (l.getD i 0)) l.length)):=by
 obtain⟨g,hg⟩:∃g:Nat->Bool,(λi=>!smQ (l.getD i 0))=g:=⟨_,rfl⟩;have hgi:∀i,(!smQ (l.getD i 0))=g i:=λi=>congrFun hg i;rw[hg];refine au (md:=1) (rf:=[]) mixed ak Oq Tryz.func244 qqR qqR qqR ?_;refine wk1 ?_;conv=>whnf
 refine aR (X:=Nat) (λi=>i≤l.length/\∀j,j<i->g j=false) (λi=>[(8,.int .i64 i),(5,.any)]) (λ_=>[]) (λi=>l.length-i) 0 ⟨aH,mixed,ak,Oq,aN⟩ qqR ⟨qqO,λj hj=>qqO⟩ ?_ ?_
 ·exact wk0
  all_goals skip
 intro i ⟨hi,hok⟩;by_cases hlt:i<l.length
 ·have e1:=hgi i
  repeat'((conv=>whnf);first|(intro hq;(try simp only[vw]at hq);try exact aV hq)|apply aI|exact aD|apply nM|apply fM)
  all_goals(try simp only[e1,anG]at*)
  all_goals((try apply vM);(try simp only[vq]at*);try omega)
  all_goals first
   |omega
   |rfl
   |(rw[J5 hlt qqA hok];exact Sup.of rfl)
   |(refine⟨i+1,[],⟨⟨qqO,λj hj=>?_⟩,qqO⟩,?_⟩
     ·by_cases e:j=i
      ·subst e;assumption
      ·exact hok j qqO
     exact wk0;all_goals skip)
 ·have:i=l.length:=qqO
  subst this;rw[J4 hok];refine wk1 λhq=>?_;all_goals first|exact Sup.of rfl
def Zu (l:List Int):Bool:=(alA l.length).any λi=>!smQ (l.getD i 0)
theorem Wq (l:List Int) (hw:l.length≤1000000):aB Tryz.prog 211 [.isl (.ints .i64 l) .none,.fn (.func 212) [] []] (.bp (Zu l)):=by
 have hc:=bB (Wp l hw) aC;unfold Zu;rw[<-VU];refine au (md:=1) (rf:=[]) mixed ak hc Tryz.func211 qqR qqR qqR ?_;refine wk1 ?_;all_goals first|rfl|exact Sup.of rfl
def ED (l:List Int):Int:=if Zu l=true then 3 else 0
theorem Ws (l:List Int) (hw:l.length≤1000000):aB Tryz.prog 210 [.isl (.ints .i64 l) .none] (.int .i64 (ED l)):=by
 have hc:=bB (Wq l hw) (aj (aA jJ) aC);unfold ED;refine au (md:=1) (rf:=[]) mixed ak hc Tryz.func210 qqR qqR qqR ?_;refine wk1 ?_;all_goals first|rfl|exact Sup.of rfl
def R6:PSp:=λxs K=>match xs with
 | [.isl (.ints .i64 l) .none]=>VC (l.length≤1000000)/\K (.int .i64 (ED l))
 |_=>False
theorem afy:POK Tryz.prog 210 R6:=by
 intro xs K h;unfold R6 at h;split at h
 ·exact⟨_,h.2,Ws _ h.1.get⟩
 ·exact h.elim
def tmI (m:Nat) (f:Nat->List Int):PV:=.isl (.gen m λi=>.isl (.ints .i64 (f i)) .none) .none
def mrI (f:Nat->List Int) (i:Nat):Int:=if 256<(f i).length then 5 else if(f i).length≠(f 0).length then 2 else ED (f i)
def Dc (m:Nat) (f:Nat->List Int):Int:=if 256<m then 5 else jl (mrI f) m
structure R7 (m:Nat) (f:Nat->List Int):Prop where
 len:m≤1000000
 row:∀i,i<m->(f i).length≤1000000
noncomputable def akX:CPT:=ay 210 (aJ R6) (ay 113 (aJ rJ) (ay 114 (aJ lu) noC))
theorem EF:aZ Tryz.prog akX:=aj (aA afy) (aj (aA jr) (aj (aA jJ) aC))
theorem LZ (m:Nat) (f:Nat->List Int) (h:R7 m f):aB Tryz.prog 213 [tmI m f,.fn (.func 210) [] []] (.int .i64 (Dc m f)):=by
 have hm:=h.len;have hrl:=h.row;unfold Dc;by_cases h256:256<m
 ·rw[if_pos h256]
  refine au (md:=1) (rf:=[]) mixed ak EF Tryz.func213 qqR qqR qqR ?_;refine wk1 λhq=>?_;all_goals first|omega|exact Sup.of rfl
 rw[if_neg h256];refine au (md:=1) (rf:=[]) mixed ak EF Tryz.func213 qqR qqR qqR ?_;refine wk1 λhq=>?_;conv=>whnf
 refine aR (X:=Nat) (λi=>i≤m/\∀j,j<i->mrI f j=0) (λi=>[(14,.int .i64 i),(6,.any),(7,.any),(8,.any)]) (λ_=>[]) (λi=>m-i) 0 ⟨aH,mixed,ak,EF,aN⟩ qqR ⟨qqO,λj hj=>qqO⟩ ?_ ?_
 ·exact wk0
  all_goals skip
 intro i ⟨hi,hok⟩;by_cases hlt:i<m
 ·have e1:mrI f i=if 256<(f i).length then 5 else if(f i).length≠(f 0).length then 2 else ED (f i):=rfl
  have e3:=hrl i hlt;have e4:=hrl 0 qqO;have fin:mrI f i≠0->jl (mrI f) m=mrI f i:=λa1=>nX hlt a1 hok;have nxt:mrI f i=0->∀j,j<i+1->mrI f j=0:=λa j hj=>by
   by_cases e:j=i
   ·subst e;exact a
   ·exact hok j qqO
  generalize mrI f i=E at*
  refine wk3 (λhq hq=>?_) (λhq hq hq=>?_) λhq hq hq=>?_;all_goals(try simp only[Ag]at*)
  all_goals first
   |(generalize hA:(if(if 256<((f i).length:Int)then(5:Int)else 0)=0 then if((f i).length:Int)≠((f (an8 0)).length:Int)then(2:Int)else 0 else if 256<((f i).length:Int)then(5:Int)else 0)=A at*
     have hE:E=A:=by
      rw[e1,<-hA,show an8 0=0 from rfl];rw[<-hA,show an8 0=0 from rfl]at hq
      (repeat' split)<;>first|rfl|omega|(exfalso;split at hq<;>omega)
     rw[fin (by rw[hE];exact hq),hE];exact Sup.of rfl)
   |(have hE:E=ED (f i):=by
      rw[e1];rw[show an8 0=0 from rfl]at hq
      (repeat' split)<;>first|rfl|omega|(exfalso;(repeat' split at hq)<;>omega)
     first
      |(rw[fin (by rw[hE];assumption),hE];exact Sup.of rfl)
      |(refine⟨i+1,[],⟨⟨qqO,nxt (by rw[hE];exact Decidable.not_not.1 qqA)⟩,qqO⟩,?_⟩
        exact wk0;all_goals skip))
 ·have:i=m:=qqO
  subst this;rw[nW hok];refine wk1 λhq=>?_;all_goals first|exact Sup.of rfl
end Go.Eng.YtmkagljofpddpaaGreatDoor
namespace Go.Eng.YtmkagljofpddpaaGreatDoor
open Go.Proofs Go.Eng.ElG
set_option linter.unusedSimpArgs false
set_option linter.unusedVariables false
set_option maxHeartbeats 0
set_option maxRecDepth 100000
def abK (p:Int):Int:=if p<2∨999999999<p∨kV p=false then 15 else 0
def Zv (m:Nat) (f:Nat->List Int) (p:Int):Int:=dZ [Dc m f,abK p]
theorem FN (t:Nat) (g:Nat->Int):cO t g++[g t]=cO (t+1) g:=by
 unfold cO;rw[aoQ,aoL];rfl
noncomputable def akY (m:Nat) (f:Nat->List Int):CPT:=iJ 213 [tmI m f,.fn (.func 210) [] []] (.int .i64 (Dc m f)) (ay 113 (aJ rJ) (ay 114 (aJ lu) (ay 144 (aJ prP) (ay 214 (aJ (Ao (λp a=>PrI p/\ -999999999≤a/\a≤999999999) λp a=>.int .i64 (a % p))) noC))))
theorem afz {m:Nat} {f:Nat->List Int} (h:R7 m f):aZ Tryz.prog (akY m f):=bB (LZ m f h) (aj (aA jr) (aj (aA jJ) (aj (aA abC) (aj (aA (sP λp a h=>Am p a h.1 h.2)) aC))))
def rsM (p:Int) (f:Nat->List Int):bL Int:=λi j=>(f i).getD j 0 % p
theorem Zw (m w:Nat) (f:Nat->List Int) (p:Int) (hm:1≤m/\m≤256) (hw:1≤w/\w≤256) (h:R7 m f) (hE:Zv m f p=0) (hp:PrI p) (hl:∀i,i<m->(f i).length=w) (hs:∀i,i<m->∀j,j<w-> -999999999≤(f i).getD j 0/\(f i).getD j 0≤999999999):
 dN Tryz.prog 149 [tmI m f,.int .i64 p] [] [.rsl 0 0 m,.agg [.int .i64 p],.int .i64 0] [.qmat m (λ_=>2) λi=>.ints .i64 (cO w (rsM p f i))]:=by
 have hc:=afz h;have p1:=hp.lo;have p2:=hp.hi;have e2:dZ [Dc m f,if(!kV p)=true then 15 else 0]=0:=by
  refine Eq.trans ?_ hE;unfold Zv abK;cases kV p<;>simp[show¬p<2 by omega,show¬999999999<p by omega]
 refine eB (md:=1) (rf:=[56,4060,61]) mixed ak hc 0 [(5,0)] Tryz.func149 qqR qqR qqR ?_;refine wk1 λhq hq hq=>?_;all_goals(try contradiction)
 conv=>whnf
 refine aR (X:=Nat) (λi=>i≤m) (λi=>[(41,.int .i64 i),(12,.any),(13,.any),(15,.any),(10,Da 5 i)]) (λi=>RY 5 i λi=>.ints .i64 (cO w (rsM p f i))) (λi=>m-i) 0 ⟨aH,mixed,ak,hc,aN⟩ qqR qqO ?_ ?_
 ·exact wk0
  all_goals skip
 intro i hi;cases i with
 |zero=>
  have hlen:=hl (0) qqO;have hsm:=hs (0) qqO;refine wk1 λhq=>?_;conv=>whnf
  refine aR (X:=Nat) (λt=>t≤w) (λt=>[(47,.int .i64 t),(15,.any),(13,Da 6 t)]) (λt=>match t with|0=>[]|s+1=>[(6,.cells (.ints .i64 (cO (s+1) (rsM p f (0)))) false)]) (λt=>w-t) 0 ⟨aH,mixed,ak,hc,aN⟩ qqR qqO ?_ ?_
  ·exact wk0
   all_goals first|exact⟨λ_ _=>trivial,λ_ _ _=>trivial⟩
  intro t ht;cases t with
  |zero=>
   have hst:=hsm 0 qqO;refine wk2 (λhq=>?_) λhq=>?_;all_goals first
    |exact⟨hp,hst⟩
    |(exfalso;omega)
    |(refine⟨1,[(24,6)],⟨qqO,qqO⟩,?_⟩
      exact wk0;all_goals first|rfl|exact⟨λ_ _=>trivial,λ_ _ _=>trivial⟩)
  |succ t=>
   by_cases htw:t+1<w
   ·have hst:=hsm (t+1) htw
    have hml:aoz (t+1-0) (aoA 0 (cO (t+1) (rsM p f (0))))++[(f (0)).getD (t+1) 0 % p]=cO (t+1+1) (rsM p f (0)):=by
     rw[aoR,ao6,anB (by rw[fE];omega)]
     exact FN (t+1) (rsM p f (0))
    refine wk3 (λhq=>?_) (λhq=>?_) λhq=>?_;all_goals first
     |exact⟨hp,hst⟩
     |(rw[fE];omega)
     |(refine⟨t+2,[(24,6)],⟨qqO,qqO⟩,?_⟩
       exact wk0;all_goals first|exact hml|exact⟨λ_ _=>trivial,λ_ _ _=>trivial⟩)
   ·have:w=t+1:=qqO
    subst this;refine wk2 (λhq=>?_) λhq=>?_;all_goals first
     |exact fE _ _
     |exact .inr trivial
     |(refine⟨1,[(26,5)],⟨qqO,qqO⟩,?_⟩
       refine wk1 ?_;all_goals first
        |exact⟨λ_ _=>trivial,λk hk _=>by rw[show k=0 by omega]⟩
        |exact⟨λk _=>by split<;>rfl,λk hk _=>by
         split
         ·rfl
         ·rw[show k=0 by omega]⟩
        )
     |(show _≤_;omega)
 |succ i=>
  by_cases hlt:i+1<m
  ·skip
   have hlen:=hl (i+1) qqO;have hsm:=hs (i+1) qqO;refine wk1 λhq=>?_;conv=>whnf
   refine aR (X:=Nat) (λt=>t≤w) (λt=>[(47,.int .i64 t),(15,.any),(13,Da 6 t)]) (λt=>match t with|0=>[]|s+1=>[(6,.cells (.ints .i64 (cO (s+1) (rsM p f (i+1)))) false)]) (λt=>w-t) 0 ⟨aH,mixed,ak,hc,aN⟩ qqR qqO ?_ ?_
   ·refine wk1 ?_
    all_goals first|exact⟨λ_ _=>trivial,λ_ _ _=>trivial⟩
   intro t ht;cases t with
   |zero=>
    have hst:=hsm 0 qqO;refine wk2 (λhq=>?_) λhq=>?_;all_goals first
     |exact⟨hp,hst⟩
     |(exfalso;omega)
     |(refine⟨1,[(24,6)],⟨qqO,qqO⟩,?_⟩
       refine wk1 ?_;all_goals first|rfl|exact⟨λ_ _=>trivial,λ_ _ _=>trivial⟩)
   |succ t=>
    by_cases htw:t+1<w
    ·have hst:=hsm (t+1) htw
     have hml:aoz (t+1-0) (aoA 0 (cO (t+1) (rsM p f (i+1))))++[(f (i+1)).getD (t+1) 0 % p]=cO (t+1+1) (rsM p f (i+1)):=by
      rw[aoR,ao6,anB (by rw[fE];omega)]
      exact FN (t+1) (rsM p f (i+1))
     refine wk3 (λhq=>?_) (λhq=>?_) λhq=>?_;all_goals first
      |exact⟨hp,hst⟩
      |(rw[fE];omega)
      |(refine⟨t+2,[(24,6)],⟨qqO,qqO⟩,?_⟩
        refine wk1 ?_;all_goals first|exact hml|exact⟨λ_ _=>trivial,λ_ _ _=>trivial⟩)
    ·have:w=t+1:=qqO
     subst this;refine wk3 (λhq=>?_) (λhq hq hq=>?_) λhq=>?_;all_goals first
      |exact fE _ _
      |exact .inr trivial
      |(refine⟨i+2,[(26,5)],⟨qqO,qqO⟩,?_⟩
        refine wk1 ?_;all_goals first
         |exact⟨λ_ _=>trivial,λk hk _=>by rw[show k=0 by omega]⟩
         |exact⟨λk _=>by split<;>rfl,λk hk _=>by
          split
          ·rfl
          ·rw[show k=i+1 by omega]⟩
         )
      |(show _≤_;omega)
  ·have:m=i+1:=qqO
   subst this;refine wk1 λhq=>?_;all_goals first|exact⟨λ_ _=>trivial,λ_ _ _=>trivial⟩|exact Sup.of rfl
abbrev qmI (m w:Nat) (D:bL Int):AO:=.qmat m (λ_=>2) λi=>.ints .i64 (cO w (D i))
theorem Zx (m w:Nat) (D:bL Int) (hm:1≤m/\m≤256):dN Tryz.prog 151 [.rsl 0 0 m] [qmI m w D] [.int .i64 (w:Int)] [qmI m w D]:=by
 refine eB (md:=1) (rf:=[]) mixed ak aC 1 [] Tryz.func151 qqR qqR qqR ?_;refine wk4 (λhq=>?_) (λhq=>?_) (λhq hq=>?_) λhq hq=>?_;all_goals first|exact .inr trivial|exact⟨λ_ _=>trivial,λ_ _ _=>trivial⟩|(simp only[fE])|(show 0*_<m;rw[amo];omega)
theorem afA {p:Int} (hp:PrI p) (f:Nat->List Int) (i j:Nat):InP p (rsM p f i j):=nK hp _
structure Zy (m w:Nat) (f:Nat->List Int) (p:Int):Prop where
 hm:1≤m/\m≤256
 hw:1≤w/\w≤256
 ok:R7 m f
 e0:Zv m f p=0
 hp:PrI p
 hl:∀i,i<m->(f i).length=w
 hs:∀i,i<m->∀j,j<w-> -999999999≤(f i).getD j 0/\(f i).getD j 0≤999999999
abbrev elM (m w:Nat) (f:Nat->List Int) (p:Int):ES Int:=aO (Fp p) w m (rsM p f) w
noncomputable def akZ (m w:Nat) (f:Nat->List Int) (p:Int) (A B:LSp):CPT:=ay 149 (dX [] (lJ [tmI m f,.int .i64 p] [] [.rsl 0 0 m,.agg [.int .i64 p],.int .i64 0] [qmI m w (rsM p f)])) (ay 151 (dX [] (lJ [.rsl 0 0 m] [qmI m w (rsM p f)] [.int .i64 (w:Int)] [qmI m w (rsM p f)])) (ay 150 (dX [] A) (ay 152 (dX [] B) noC)))
theorem afB {m w:Nat} {f:Nat->List Int} {p:Int} (h:Zy m w f p) {A B:LSp} (hA:LOK Tryz.prog 150 A) (hB:LOK Tryz.prog 152 B):aZ Tryz.prog (akZ m w f p A B):=
 aj (bX [] (dF (Zw m w f p h.hm h.hw h.ok h.e0 h.hp h.hl h.hs))) (aj (bX [] (dF (Zx m w _ h.hm))) (aj (bX [] hA) (aj (bX [] hB) aC)))
theorem Ko {g:FuncId}:LOK Tryz.prog g λ_ _ _=>False:=λ_ _ _ h=>h.elim
theorem Zz (m w:Nat) (f:Nat->List Int) (p:Int) (h:Zy m w f p) {k:Nat} (hk:(bM (elM m w f p).piv w).length=k+1):
 dN Tryz.prog 57 [tmI m f,.int .i64 p] [] [.rsl 0 0 (gZ (Fp p) 0 1 w m (rsM p f)).piv.length,.int .i64 0] [.pmat (k+1) (fnI w (gZ (Fp p) 0 1 w m (rsM p f)).M)]:=by
 have hB:=qx (pre:=[]) (post:=[]) (f:=λ_=>2) (c:=λi=>.ints .i64 (cO w (rsM p f i))) (fnI w (rsM p f)) (λi hi=>⟨rfl,gW.rfl' _⟩) (Wi h.hp h.hm h.hw (λr _ j _=>afA h.hp f r j) hk);have hc:=afB h Ko (dF hB);generalize gZ (Fp p) 0 1 w m (rsM p f)=S2 at*
 refine eB (md:=1) (rf:=[]) mixed ak hc 0 [(9,0)] Tryz.func57 qqR qqR qqR ?_;refine wk3 ?_ (λhq=>?_) λhq=>?_;all_goals first|rfl|exact λ_ _=>trivial
end Go.Eng.YtmkagljofpddpaaGreatDoor
namespace Go.Eng.YtmkagljofpddpaaGreatDoor
open Go.Proofs Go.Eng.Dig Go.Eng.Dec Go.Eng.Pm Go.Eng.ElG
set_option linter.unusedSimpArgs false
set_option linter.unusedVariables false
set_option maxHeartbeats 0
set_option maxRecDepth 100000
abbrev cM (q:Nat->Nat->Rat):bL Fr:=λi j=>can (q i j)
theorem Kq (m w:Nat) (q:Nat->Nat->Rat):fqM m w q=qmF m w (cM q):=by
 unfold fqM;simp only[VY];rfl
structure jM (m w b:Nat) (q:Nat->Nat->Rat):Prop where
 hm:1≤m/\m≤256
 hw:w≤256
 hz:uf m (qmL w q)=0
 hs:∀i,i<m->∀j,j<w->(txQ (q i j)).size≤1000000000
 hL:∀i,i<m->∀j,j<w->RL (q i j)≤b
 hB:Bd b m≤400000000
theorem jM.gl {m w b:Nat} {q:Nat->Nat->Rat} (h:jM m w b q):∀r,r<m->∀j,j<w->GL b 0 (cM q r j):=λr hr j hj=>⟨eY _,by rw[mO];exact h.hL r hr j hj⟩
abbrev elQ (m w:Nat) (q:Nat->Nat->Rat):ES Rat:=aO Fq w m q w
theorem jM.hom {m w b:Nat} {q:Nat->Nat->Rat} (h:jM m w b q):
 (∀r,r<m->∀j,j<w->GL b m ((aO Ff w m (cM q) w).M r j)/\((aO Ff w m (cM q) w).M r j).val=(elQ m w q).M r j)/\(elQ m w q).piv=(aO Ff w m (cM q) w).piv/\(elQ m w q).odd=(aO Ff w m (cM q) w).odd/\(elQ m w q).heads=(aO Ff w m (cM q) w).heads.map Fr.val:=by
 obtain⟨h1,h2,h3,h4,_⟩:=jq (yK b) (M:=cM q) (M':=q) (λr hr j hj=>⟨h.gl r hr j hj,d9 _⟩) w (alo w);refine⟨λr hr j hj=>⟨⟨(h1 r hr j hj).1.ok,als (h1 r hr j hj).1.le (lY b (fU Ff w m (cM q) w).1)⟩,(h1 r hr j hj).2⟩,h2,h3,h4⟩
theorem GL.ft {b k:Nat} {x:Fr} (h:GL b k x) (hb:Bd b k≤400000000):FT x:=⟨h.ok,als h.le qqO⟩
noncomputable def ak0 (m w:Nat) (q:Nat->Nat->Rat) (A B:LSp) (C:PSp):CPT:=ay 129 (dX [] (lJ [tmV m (qmL w q)] [] [.rsl 0 0 m,.int .i64 0] [qmF m w (cM q)])) (ay 157 (dX [] (lJ [.rsl 0 0 m] [qmF m w (cM q)] [.int .i64 (w:Int)] [qmF m w (cM q)])) (ay 131 (dX [] A) (ay 159 (dX [] B) (ay 158 (I6 C) noC))))
theorem Ot {m w b:Nat} {q:Nat->Nat->Rat} (h:jM m w b q) {A B:LSp} {C:PSp} (hA:LOK Tryz.prog 131 A) (hB:LOK Tryz.prog 159 B) (hC:POK Tryz.prog 158 C):aZ Tryz.prog (ak0 m w q A B C):=
 aj (bX [] (dF (by rw[<-Kq];exact xJ m w q h.hm h.hw h.hs h.hz))) (aj (bX [] (dF (Au m w _ h.hm))) (aj (bX [] hA) (aj (bX [] hB) (aj (TJ hC) aC))))
theorem ZA {S:ES Fr} {Sq:ES Rat} (hp:Sq.piv=S.piv) {m w:Nat} (hM:∀r,r<m->∀j,j<w->(S.M r j).OK/\(S.M r j).val=Sq.M r j) {c:Nat} (hc:c<w):∀t,t≤m->∀j,(fO Ff zFr oFr S c t j).val=fO Fq 0 1 Sq c t j:=by
 have hz:zFr.val=0:=by rw[yY,d9]
 have ho:oFr.val=1:=by rw[sS,d9]
 intro t;induction t with
 |zero=>
  intro _ j;show(if j=c then oFr else zFr).val=if j=c then(1:Rat)else 0;split
  ·exact ho
  ·exact hz
 |succ t ih=>
  intro ht j;show(if j=S.piv.getD t 0 then iP zFr (S.M t c)else fO Ff zFr oFr S c t j).val=if j=Sq.piv.getD t 0 then 0-Sq.M t c else fO Fq 0 1 Sq c t j;rw[hp];obtain⟨h1,h2⟩:=hM t qqO c hc;split
  ·rw[Aa xL h1,hz,h2]
  ·exact ih qqO j
abbrev keQ (m w:Nat) (q:Nat->Nat->Rat):ES Rat:=gZ Fq 0 1 w m q
def ah8 (m w b:Nat):Prop:=Bd (kB b m) w≤400000000
theorem ZB {m w b:Nat} {q:Nat->Nat->Rat} (h:jM m w b q) (hw1:1≤w) (hK:ah8 m w b):aB Tryz.prog 70 [tmV m (qmL w q)] (mtR (keQ m w q).piv.length w (keQ m w q).M):=by
 obtain⟨h1,h2,h3,h4⟩:=h.hom;have hlen:=fU Ff w m (cM q) w;have hwB:=h.hw;have hBm:Bd b m≤1000000000:=als h.hB qqD;have hfl:=kF (aO Ff w m (cM q) w).piv w;cases hk:(bM (aO Ff w m (cM q) w).piv w).length with
 |zero=>
  have hR:mtR (keQ m w q).piv.length w (keQ m w q).M=.tup [tmV 0 (qmL w (keQ m w q).M),.int .i64 0]:=by
   have:(keQ m w q).piv.length=0:=by
    unfold keQ gZ;rw[h2,hk];exact Nat.le_zero.1 (fU _ _ _ _ _).1
   rw[this];rfl
  rw[hR];have hB:=qx (pre:=[]) (post:=[]) (f:=λ_=>2) (c:=λi=>.recs 4 (rfL w (cM q i))) (fnM w (cM q)) (λi hi=>⟨rfl,lK _ _⟩) (RZ h.hm ⟨hw1,hwB⟩ h.gl hBm hk);have hc:=Ot h Ko (dF hB) (yT Wn);refine au (md:=1) (rf:=[]) mixed ak hc Tryz.func70 qqR qqR qqR ?_;refine wk3 ?_ (λhq=>?_) λhq=>?_;all_goals first|rfl|exact Ah rfl _|exact Sup.of rfl
 |succ k=>
  have hkB:Bd (kB b m) (k+1)≤400000000:=als (lY _ qqO) hK;have hB:=qx (pre:=[]) (post:=[]) (f:=λ_=>2) (c:=λi=>.recs 4 (rfL w (cM q i))) (fnM w (cM q)) (λi hi=>⟨rfl,lK _ _⟩) (Wm h.hm ⟨hw1,hwB⟩ h.gl hBm hk (als hkB qqD));have hIn:∀r,r<m->∀j,j<w->((aO Ff w m (cM q) w).M r j).OK/\((aO Ff w m (cM q) w).M r j).val=(elQ m w q).M r j:=λr hr j hj=>⟨(h1 r hr j hj).1.ok,(h1 r hr j hj).2⟩;have hfm:∀r,r<k+1->(bM (aO Ff w m (cM q) w).piv w).getD r 0<w:=λr hr=>by
   have:(bM (aO Ff w m (cM q) w).piv w).getD r 0∈bM (aO Ff w m (cM q) w).piv w:=by
    rw[alC,alH qqO];exact apG _
   exact(q9.1 this).1
  have hKin:∀r,r<k+1->∀j,j<w->GL (kB b m) 0 (kW Ff zFr oFr (aO Ff w m (cM q) w) w r j)/\(kW Ff zFr oFr (aO Ff w m (cM q) w) w r j).val=kW Fq 0 1 (elQ m w q) w r j:=λr hr j hj=>by
   refine⟨Om (λr hr j hj=>(h1 r hr j hj).1) (hfm r hr) _ qqO j,?_⟩;unfold kW;rw[h2];exact ZA h2 hIn (hfm r hr) _ qqO j
  obtain⟨g1,g2,g3,g4,_⟩:=jq (yK (kB b m)) hKin w (alo w);have hE:aO Ff w (k+1) (kW Ff zFr oFr (aO Ff w m (cM q) w) w) w=gZ Ff zFr oFr w m (cM q):=by unfold gZ;rw[hk]
  have hEq:aO Fq w (k+1) (kW Fq 0 1 (elQ m w q) w) w=keQ m w q:=by unfold keQ gZ;rw[h2,hk]
  have hl2:=fU Ff w (k+1) (kW Ff zFr oFr (aO Ff w m (cM q) w) w) w;rw[hE,hEq]at g1 g2;rw[hE]at hl2;have hM:=afw (gZ Ff zFr oFr w m (cM q)).piv.length w (gZ Ff zFr oFr w m (cM q)).M (keQ m w q).M qqO qqO (λi hi j hj=>(GL.mk (g1 i qqO j hj).1.ok (als (g1 i qqO j hj).1.le (lY _ hl2.1)):GL (kB b m) (k+1) _).ft hkB) (λi hi j hj=>(g1 i qqO j hj).2);have hc:=Ot h Ko (dF hB) (yT hM);have hle:=hl2.1;rw[g2];generalize(keQ m w q).M=Q at*
  clear h1 h2 h3 h4 g1 g2 g3 g4 hKin hIn hE hEq hM hB;generalize gZ Ff zFr oFr w m (cM q)=S2 at*
  refine au (md:=1) (rf:=[]) mixed ak hc Tryz.func70 qqR qqR qqR ?_;refine wk3 ?_ (λhq=>?_) λhq=>?_;all_goals first|rfl|omega|exact Sup.of rfl
theorem Df (w:Nat) (q:Nat->Rat) (hw:w≤1000000) (hq:∀i,i<w->(txQ (q i)).size≤1000000000):aB Tryz.prog 172 [stV (qsL w q)] (frL w λi=>can (q i)):=
 ku (F9 (FL w q hw hq) (by simp[fqL]) (Kc _ _)) (Y6 (lK w λi=>can (q i)) _)
def pdF (f g:Nat->Fr):Nat->Fr
 |0=>zFr
 |t+1=>kU (pdF f g t) (can ((f t).val*(g t).val))
def pdV (f g:Nat->Rat):Nat->Rat
 |0=>0
 |t+1=>pdV f g t+f t*g t
theorem Av:zFr=can 0:=rfl
theorem abL:zFr.L=RL 0:=by rw[Av,mO]
theorem EG:RL 0=1:=qqV
theorem Kr {n:Nat} {f g:Nat->Fr}:∀t,t≤n->(pdF f g t).OK/\(pdF f g t).val=pdV (λi=>(f i).val) (λi=>(g i).val) t:=by
 intro t;induction t with
 |zero=>exact λ_=>⟨by show zFr.OK;rw[Av];exact eY _,by show zFr.val=0;rw[Av,d9]⟩
 |succ t ih=>
  intro ht;obtain⟨h1,h2⟩:=ih qqO;have h3:=eY ((f t).val*(g t).val);refine⟨Ns h1 h3,?_⟩;show(kU _ _).val=_+_;rw[z8 h1 h3,d9,h2]
theorem abM {n B:Nat} {f g:Nat->Fr} (h:∀i,i<n->(f i).L+(g i).L+1≤B):∀t,t≤n->(pdF f g t).L≤1+t*B:=by
 intro t;induction t with
 |zero=>intro _;show zFr.L≤_;rw[abL,EG];omega
 |succ t ih=>
  intro ht;obtain⟨h1,h2⟩:=Kr (n:=n) (f:=f) (g:=g) t qqO;have h3:=eY ((f t).val*(g t).val);have h4:=ih qqO;have h5:=qY (f t) (g t);have h6:=h t qqO;show(kU _ _).L≤_;unfold Fr.L;rw[z8 h1 h3];have h7:=UO (pdF f g t).val (can ((f t).val*(g t).val)).val;unfold Fr.L at h4 h5 h6;rw[aln];omega
noncomputable def ak1:CPT:=ay 132 (aU ffP) (ay 133 (aU CJ) (ay 181 (aU QZ) noC))
theorem Ou:aZ Tryz.prog ak1:=aj (aF CG) (aj (aF yJ) (aj (aF Ny) aC))
theorem Wt (n:Nat) (f g:Nat->Fr) (hn:n≤1000000) {B:Nat} (hf:∀i,i<n->FB (f i)/\FB (g i)/\(f i).L+(g i).L+1≤B) (hB:1+n*B≤10000000000):aB Tryz.prog 173 [frL n f,frL n g] (frV (pdF f g n)):=by
 have hok:=λt ht=>(Kr (n:=n) (f:=f) (g:=g) t ht).1;have hL:=abM (n:=n) (f:=f) (g:=g) λi hi=>(hf i hi).2.2;have hFB:∀t,t≤n->FB (pdF f g t):=λt ht=>⟨hok t ht,by
  have h1:=hL t ht;have h2:t*B≤n*B:=al2 _ ht;omega⟩
 have hm:∀i,i<n->FB (can ((f i).val*(g i).val)):=λi hi=>⟨eY _,by
  have h1:=(hf i hi).2.2;have h2:=qY (f i) (g i);have h3:1*B≤n*B:=al2 _ qqO;omega⟩
 refine au (md:=1) (rf:=[]) mixed ak Ou Tryz.func173 qqR qqR qqR ?_;refine wk1 ?_;conv=>whnf
 refine aR (X:=Nat) (λi=>i≤n) (λi=>[(10,.int .i64 i),(6,.any)]) (λi=>[(5,.cells (.pv (frC (pdF f g i))) false)]) (λi=>n-i) 0 ⟨aH,mixed,ak,Ou,aN⟩ qqR qqO ?_ ?_
 ·exact wk0
  all_goals first|rfl
 intro i hi;by_cases hlt:i<n
 ·have e1:=hf i hlt
  have e2:=hFB i hi;have e3:=hm i hlt;have e4:pdF f g (i+1)=kU (pdF f g i) (can ((f i).val*(g i).val)):=rfl;generalize pdF f g i=a at*
  refine wk5 (λhq=>?_) (λhq=>?_) (λhq=>?_) (λhq=>?_) λhq=>?_;all_goals(try simp only[cu])
  all_goals first
   |omega
   |exact⟨e1.1,e1.2.1⟩
   |exact⟨e2,e3⟩
   |rfl
   |(refine⟨i+1,[],⟨qqO,qqO⟩,?_⟩
     rw[e4];exact wk0;all_goals first|rfl)
 ·have:i=n:=qqO
  subst this;refine wk1 λhq=>?_;all_goals first|omega|exact Sup.of rfl
def auM (w:Nat) (D:bL Fr) (v:Nat->Fr):bL Fr:=λi j=>if j=w then v i else D i j
def auQ (w:Nat) (q:Nat->Nat->Rat) (v:Nat->Rat):Nat->Nat->Rat:=λi j=>if j=w then v i else q i j
theorem afC (w:Nat) (f:Nat->Fr) (x:Fr):rfL w f++[frC x]=rfL (w+1) (λj=>if j=w then x else f j):=by
 unfold rfL;rw[aoQ,aoL];refine congr (congrArg _ (anC λj hj=>?_)) ?_
 ·have:=anj.1 hj
  show frC (f j)=frC (if j=w then x else f j);rw[if_neg qqO]
 ·simp
structure mP (m b:Nat) (v:Nat->Rat):Prop where
 hz:Aj (qsL m v)=0
 hs:∀i,i<m->(txQ (v i)).size≤1000000000
 hL:∀i,i<m->RL (v i)≤b
theorem mP.rw {m b:Nat} {v:Nat->Rat} (hm:m≤256) (h:mP m b v):RJ (qsL m v):=⟨by rw[gU];omega,λi hi=>by rw[gU]at hi;rw[sM _ hi];exact h.hs i hi⟩
noncomputable def ah9 (m w:Nat) (q:Nat->Nat->Rat) (v:Nat->Rat):CPT:=ay 129 (dX [] (lJ [tmV m (qmL w q)] [] [.rsl 0 0 m,.int .i64 0] [qmF m w (cM q)])) (ay 113 (aJ rJ) (ay 114 (aJ lu) (iJ 161 [stV (qsL m v)] (.int .i64 0) (iJ 172 [stV (qsL m v)] (frL m λi=>can (v i)) noC))))
theorem afD {m w b:Nat} {q:Nat->Nat->Rat} {v:Nat->Rat} (h:jM m w b q) (hv:mP m b v):aZ Tryz.prog (ah9 m w q v):=
 aj (bX [] (dF (by rw[<-Kq];exact xJ m w q h.hm h.hw h.hs h.hz))) (aj (aA jr) (aj (aA jJ) (bB (by have:=xI _ (hv.rw h.hm.2);rw[hv.hz]at this;exact this) (bB (Df m v (by have:=h.hm;omega) hv.hs) aC))))
def auT (w:Nat) (D:bL Fr) (v:Nat->Fr) (t:Nat) (i:Nat):CL:=.recs 4 (if i<t then rfL (w+1) (auM w D v i)else rfL w (D i))
theorem Kt {m w b:Nat} {q:Nat->Nat->Rat} {v:Nat->Rat} (h:jM m w b q) (hv:mP m b v):
 dN Tryz.prog 169 [tmV m (qmL w q),stV (qsL m v)] [] [.rsl 0 0 m,.int .i64 0] [qmF m (w+1) (auM w (cM q) λi=>can (v i))]:=by
 have hc:=afD h hv;have hmB:=h.hm;have hwB:=h.hw;have hlen:=gU m v;unfold ah9 at hc;generalize qsL m v=l at*
 obtain⟨V,hV⟩:∃V:Nat->Fr,(λi=>can (v i))=V:=⟨_,rfl⟩;have hcV:(frL m λi=>can (v i))=frL m V:=by rw[<-hV]
 rw[hV];rw[hcV]at hc;generalize cM q=D at*
 refine eB (md:=1) (rf:=[5046]) mixed ak hc 0 [(0,0)] Tryz.func169 qqR qqR qqR ?_;refine wk3 ?_ (λhq=>?_) λhq hq=>?_;all_goals first|rfl|omega|exact Sup.of rfl|(exfalso;simp_all[dZ];done)|(exfalso;simp_all[dZ];omega)|skip
 conv=>whnf
 refine aR (X:=Nat) (λi=>i≤m) (λi=>[(36,.int .i64 i),(9,.any),(10,.any)]) (λi=>[(0,.qmat m (λ_=>2) (auT w D V i))]) (λi=>m-i) 0 ⟨aH,mixed,ak,hc,aN⟩ qqR qqO ?_ ?_
 ·refine wk1 ?_
  all_goals first|exact⟨λ_ _=>trivial,λ_ _ _=>rfl⟩|rfl
 intro i hi;by_cases hlt:i<m
 ·have e1:auT w D V i i=.recs 4 (rfL w (D i)):=by unfold auT;rw[if_neg qqO]
  have e2:rfL w (D i)++[frC (V i)]=rfL (w+1) (auM w D V i):=by rw[afC];rfl
  have e3:∀k,k<m->k≠i->auT w D V (i+1) k=auT w D V i k:=λk hk hne=>by
   unfold auT;by_cases h1:k<i
   ·rw[if_pos h1,if_pos qqO]
   ·rw[if_neg h1,if_neg qqO]
  have e4:auT w D V (i+1) i=.recs 4 (rfL (w+1) (auM w D V i)):=by unfold auT;rw[if_pos qqO]
  have e5:(rfL w (D i)).length=w:=iT _ _;have e6:chunks qR.size 1 (frC (V i))=[frC (V i)]:=rfl
  repeat'((conv=>whnf);first|(intro hq;(try simp only[vw]at hq);try exact aV hq)|apply aI|exact aD|apply nM|apply fM)
  all_goals((try apply vM);(try simp only[vq]at*);try omega)
  all_goals(try simp only[fA,alV,apI,if_false,e5,e6,amL,alj,alf])
  all_goals first
   |omega
   |rfl
   |exact .inr trivial
   |(simp only[fA,alV]at hq;unfold bA at hq;rw[if_pos rfl]at hq;omega)
   |(refine⟨i+1,[],⟨qqO,qqO⟩,?_⟩
     refine wk1 ?_;all_goals(try simp only[fA,alV,apI,if_false,e6])
     all_goals first
      |exact⟨λk _=>by unfold bA;(repeat' split)<;>rfl,λk hk _=>by
       by_cases h1:k=i
       ·subst h1
        rw[e4,<-e2];unfold bA;rw[if_pos rfl]
       ·rw[e3 k hk h1]
        unfold bA;rw[if_neg h1]⟩
      |rfl
      )
 ·have:i=m:=qqO
  subst this;refine wk1 λhq=>?_;all_goals first
   |omega
   |exact⟨λ_ _=>trivial,λk hk _=>by unfold auT;rw[if_pos hk]⟩
def dtF (H:List Fr):Nat->Fr
 |0=>oFr
 |t+1=>can ((dtF H t).val*(H.getD t zFr).val)
def dtV (H:List Rat):Nat->Rat
 |0=>1
 |t+1=>dtV H t*H.getD t 0
theorem aia (H:List Fr):∀t,(dtF H t).OK
 |0=>Wj
 |t+1=>eY _
theorem EH:zFr.val=0:=by rw[yY,d9]
theorem Ov:oFr.val=1:=by rw[sS,d9]
theorem afE (H:List Fr) (t:Nat):(dtF H t).val=dtV (H.map Fr.val) t:=by
 induction t with
 |zero=>exact Ov
 |succ t ih=>
  show(can ((dtF H t).val*(H.getD t zFr).val)).val=dtV (H.map Fr.val) t*(H.map Fr.val).getD t 0;rw[d9,ih];congr 1;rw[alC,alC,amE];cases H[t]? with
  |none=>exact EH
  |some x=>rfl
theorem ajp {H:List Fr} {B:Nat} (h:∀x,x∈H->x.L≤B):∀t,t≤H.length->(dtF H t).L≤1+t*B:=by
 intro t;induction t with
 |zero=>intro _;show oFr.L≤1+0*B;have:oFr.L=1:=by rw[sS,mO];decide+kernel
        omega
 |succ t ih=>
  intro ht;have h1:=ih qqO;have h2:=qY (dtF H t) (H.getD t zFr);have h3:(H.getD t zFr).L≤B:=h _ (by rw[alC,alH qqO];exact apG _)
  show(can _).L≤_;rw[aln];omega
theorem Ku {m w:Nat} {q:Nat->Nat->Rat} (hm:1≤m):wdt m (qmL w q)=w:=by
 unfold wdt;rw[if_neg qqO];exact gU _ _
noncomputable def ak2 (m w:Nat) (q:Nat->Nat->Rat) (A:LSp):CPT:=ay 129 (dX [] (lJ [tmV m (qmL w q)] [] [.rsl 0 0 m,.int .i64 0] [qmF m w (cM q)])) (ay 131 (dX [] A) (iJ 130 [tmV m (qmL w q)] (.int .i64 (w:Nat)) (ay 113 (aJ rJ) (ay 114 (aJ lu) (ay 132 (aU ffP) (ay 133 (aU CJ) (ay 134 (aU QX) (ay 111 (aU GR) noC))))))))
theorem EI {m w b:Nat} {q:Nat->Nat->Rat} (h:jM m w b q):RP m (qmL w q):=⟨by have:=h.hm;omega,λi hi=>⟨by unfold qmL;rw[gU];have:=h.hw;omega,λj hj=>by unfold qmL at hj⊢;rw[gU]at hj;rw[sM _ hj];exact h.hs i hi j hj⟩⟩
theorem afF {m w b:Nat} {q:Nat->Nat->Rat} (h:jM m w b q) {A:LSp} (hA:LOK Tryz.prog 131 A):aZ Tryz.prog (ak2 m w q A):=
 aj (bX [] (dF (by rw[<-Kq];exact xJ m w q h.hm h.hw h.hs h.hz))) (aj (bX [] hA) (bB (by have:=vk m (qmL w q) (EI h);rw[Ku h.hm.1]at this;exact this) (aj (aA jr) (aj (aA jJ) (aj (aF CG) (aj (aF yJ) (aj (aF Nv) (aj (aF Ev) aC))))))))
def deQ (m:Nat) (q:Nat->Nat->Rat):Rat:=if(elQ m m q).piv.length<m then 0 else if(elQ m m q).odd=true then-dtV (elQ m m q).heads m else dtV (elQ m m q).heads m
theorem ZC {m b:Nat} {q:Nat->Nat->Rat} (h:jM m m b q) (hB:m*Bd b m≤400000000):aB Tryz.prog 33 [tmV m (qmL m q)] (.tup [.str (rsS (deQ m q)),.int .i64 (rsE (deQ m q))]):=by
 have hA:=vv (m:=m) (w:=m) (cols:=m) (M0:=cM q) h.hm (by have:=h.hw;omega) (alo m) h.gl (als h.hB qqD)
 obtain⟨h1,h2,h3,h4,h5⟩:=jq (yK b) (M:=cM q) (M':=q) (λr hr j hj=>⟨h.gl r hr j hj,d9 _⟩) m (alo m);obtain⟨l1,l2,l3⟩:=fU Ff m m (cM q) m;have hc:=afF h (dF hA);unfold deQ;rw[show(elQ m m q).piv=(aO Ff m m (cM q) m).piv from h2,show(elQ m m q).odd=(aO Ff m m (cM q) m).odd from h3,show(elQ m m q).heads=(aO Ff m m (cM q) m).heads.map Fr.val from h4];have hH:∀x,x∈(aO Ff m m (cM q) m).heads->x.OK/\x.L≤Bd b m:=λx hx=>by
  obtain⟨k,hk,hg,_⟩:=h5 x hx;exact⟨hg.ok,als hg.le (lY b qqO)⟩
 clear h1 h2 h3 h4 h5;generalize aO Ff m m (cM q) m=S at*
 have hP:(pvI S.piv).length=S.piv.length:=by simp[pvI]
 have hmB:=h.hm;have hd0:rsS 0=⟨#[48]⟩/\rsE 0=0:=by constructor<;>decide+kernel
 generalize hp:pvI S.piv=P at*
 by_cases hlt:S.piv.length<m
 ·rw[if_pos hlt,hd0.1,hd0.2]
  refine au (md:=1) (rf:=[]) mixed ak hc Tryz.func33 qqR qqR qqR ?_;refine wk3 ?_ (λhq=>?_) λhq hq=>?_;all_goals first|rfl|omega|exact Sup.of rfl|(exfalso;simp_all[dZ];done)|(exfalso;simp_all[dZ];omega)
 ·rw[if_neg hlt]
  have hPm:P.length=m:=qqO;have hHm:S.heads.length=m:=qqO;obtain⟨SM,Sp,H,odd⟩:=S;simp only at*;have hLm:(H.map frC).length=m:=by rw[apH,hHm]
  have hg:∀t,t<m->(CL.recs 4 (H.map frC)).rcd t=frC (H.getD t zFr):=λt ht=>by
   show(H.map frC).getD t []=_;rw[alC,alC,amE,alH qqO];rfl
  have hx:∀t,t<m->FB (H.getD t zFr):=λt ht=>by
   have:=hH (H.getD t zFr) (by rw[alC,alH qqO];exact apG _)
   have h2:=h.hB;exact⟨this.1,qqO⟩
  have hdL:∀t,t≤m->(dtF H t).OK/\(dtF H t).L≤400000001:=λt ht=>⟨aia H t,by
   have h1:=ajp (B:=Bd b m) (λx hx=>(hH x hx).2) t qqO;have h2:t*Bd b m≤m*Bd b m:=al2 _ ht;omega⟩
  have hfb:∀t,t≤m->FB (dtF H t):=λt ht=>⟨(hdL t ht).1,by have:=(hdL t ht).2;omega⟩
  have hft:FT (dtF H m):=⟨(hdL m qqO).1,by have:=(hdL m qqO).2;omega⟩
  have hng:(dtF H m).OK/\(dtF H m).L≤100000000000:=⟨hft.1,by have:=(hdL m qqO).2;omega⟩
  have hft2:FT (can (-(dtF H m).val)):=⟨eY _,by rw[mO,JA];have:=(hdL m qqO).2;unfold Fr.L at this;omega⟩
  rw[<-afE];generalize hL:H.map frC=L at*
  clear hH hL;cases odd
  all_goals(
   simp only[amn,if_false,if_true];refine au (md:=1) (rf:=[]) mixed ak hc Tryz.func33 qqR qqR qqR ?_;refine wk3 ?_ (λhq=>?_) λhq hq=>?_;all_goals first|rfl|omega|exact Sup.of rfl|(exfalso;simp_all[dZ];done)|(exfalso;simp_all[dZ];omega)|skip
   conv=>whnf
   refine aR (X:=Nat) (λt=>t≤m) (λt=>[(42,.int .i64 t),(9,.any)]) (λt=>[(26,.cells (.pv (frC (dtF H t))) false)]) (λt=>m-t) 0 ⟨aH,mixed,ak,hc,aN⟩ qqR qqO ?_ ?_
   ·refine wk1 ?_
    all_goals first|exact λ_ _=>trivial|rfl
   intro t ht;have hfbt:=hfb t ht;by_cases hlt2:t<m
   ·have e4:dtF H (t+1)=can ((dtF H t).val*(H.getD t zFr).val):=rfl
    have hgt:=hg t hlt2;have hxt:=hx t hlt2;generalize dtF H t=a at*
    refine wk2 (λhq=>?_) λhq=>?_;all_goals first
     |omega
     |(rw[hgt];rfl)
     |skip
    conv=>whnf
    simp only[anG];rw[hgt];refine wk2 ?_ ?_;all_goals(try simp only[cu])
    all_goals first
     |omega
     |rfl
     |exact⟨hfbt,hxt⟩
     |(refine⟨t+1,[],⟨qqO,qqO⟩,?_⟩
       rw[e4];refine wk1 ?_;all_goals first|exact λ_ _=>trivial|rfl)
   ·have:t=m:=qqO
    subst this;refine wk1 λhq hq=>?_;all_goals(try simp only[cu,d9]at*)
    all_goals first
     |omega
     |exact hft
     |exact hft2
     |exact hng
     |exact Sup.of rfl
     )
def ZE (w:Nat) (q:Nat->Rat):List ByteArray:=if vC w q=true then []else qsL w q
def R8 (w:Nat) (q:Nat->Rat):Int:=if vC w q=true then 4 else 0
def Kv (w:Nat) (q:Nat->Rat):PV:=.tup [stV (ZE w q),.int .i64 (R8 w q)]
theorem afG (w:Nat) (f:Nat->Fr) (q:Nat->Rat) (hw:w≤1000000) (hf:∀i,i<w->FT (f i)) (hv:∀i,i<w->(f i).val=q i):aB Tryz.prog 171 [frL w f] (Kv w q):=by
 have h:=J8 w f hw hf;unfold rwR at h;rw[Ar hv,Wo hv]at h;unfold Kv ZE R8;cases hl:vC w q
 ·rw[hl,if_neg qqS]at h
  simpa using h
 ·rw[hl,if_pos rfl]at h
  simpa using h
theorem aib (w:Nat) (f:Nat->Fr) (q:Nat->Rat) (hw:w≤1000000) (hf:∀i,i<w->FT (f i)) (hv:∀i,i<w->(f i).val=q i):aB Tryz.prog 171 [.isl (.recs 4 (rfL w f)) .none] (Kv w q):=
 dh (ys:=[frL w f]) (λS wd vs hA=>⟨hA.1,λi hi=>by
  have:=hA.2 i hi
  match i,hi with
  |0,_=>exact jK (lK w f) this⟩) (afG w f q hw hf hv)
def svF (S:ES Fr) (w:Nat):Nat->Nat->Fr
 |0=>λ_=>zFr
 |t+1=>λj=>if j=S.piv.getD t 0 then S.M t w else svF S w t j
def svQ (S:ES Rat) (w:Nat):Nat->Nat->Rat
 |0=>λ_=>0
 |t+1=>λj=>if j=S.piv.getD t 0 then S.M t w else svQ S w t j
abbrev slQ (m w:Nat) (q:Nat->Nat->Rat) (v:Nat->Rat):ES Rat:=aO Fq (w+1) m (auQ w q v) (w+1)
theorem R9 {m w b:Nat} {q:Nat->Nat->Rat} {v:Nat->Rat} (h:jM m w b q) (hv:mP m b v):∀r,r<m->∀j,j<w+1->GL b 0 (auM w (cM q) (λi=>can (v i)) r j)/\(auM w (cM q) (λi=>can (v i)) r j).val=auQ w q v r j:=λr hr j hj=>by
 unfold auM auQ;by_cases e:j=w
 ·rw[if_pos e,if_pos e]
  exact⟨⟨eY _,by rw[mO];exact hv.hL r hr⟩,d9 _⟩
 ·rw[if_neg e,if_neg e]
  exact⟨h.gl r hr j qqO,d9 _⟩
noncomputable def aic (m w:Nat) (q:Nat->Nat->Rat) (v:Nat->Rat) (A:LSp) (C:PSp):CPT:=ay 169 (dX [] (lJ [tmV m (qmL w q),stV (qsL m v)] [] [.rsl 0 0 m,.int .i64 0] [qmF m (w+1) (auM w (cM q) λi=>can (v i))])) (iJ 130 [tmV m (qmL w q)] (.int .i64 (w:Nat)) (ay 157 (dX [] (lJ [.rsl 0 0 m] [qmF m (w+1) (auM w (cM q) λi=>can (v i))] [.int .i64 ((w+1:Nat):Int)] [qmF m (w+1) (auM w (cM q) λi=>can (v i))])) (ay 131 (dX [] A) (ay 132 (aU ffP) (ay 170 (dX [] (lJ [.isl (.recs 4 [frC zFr]) .none,.int .i64 (w:Int)] [] [.rsc 0 4 w] [.rowo (.recs 4 (alL w (frC zFr)))])) (ay 171 (TK C) noC))))))
theorem afH {m w b:Nat} {q:Nat->Nat->Rat} {v:Nat->Rat} (h:jM m w b q) (hv:mP m b v) (hw:1≤w) {A:LSp} {C:PSp} (hA:LOK Tryz.prog 131 A) (hC:POK Tryz.prog 171 C):aZ Tryz.prog (aic m w q v A C):=
 aj (bX [] (dF (Kt h hv))) (bB (by have:=vk m (qmL w q) (EI h);rw[Ku h.hm.1]at this;exact this) (aj (bX [] (dF (Au m (w+1) _ h.hm))) (aj (bX [] hA) (aj (aF CG) (aj (bX [] (dF (FM (frC zFr) w ⟨hw,by have:=h.hw;omega⟩ qqR qqR))) (aj (TL hC) aC))))))
theorem afI {S:ES Fr} {Sq:ES Rat} (hp:Sq.piv=S.piv) {w m:Nat} (hM:∀r,r<m->(S.M r w).val=Sq.M r w):∀t,t≤m->∀j,(svF S w t j).val=svQ Sq w t j:=by
 intro t;induction t with
 |zero=>intro _ j;exact EH
 |succ t ih=>
  intro ht j;show(if j=S.piv.getD t 0 then S.M t w else svF S w t j).val=if j=Sq.piv.getD t 0 then Sq.M t w else svQ Sq w t j;rw[hp];split
  ·exact hM t qqO
  ·exact ih qqO j
theorem aie {S:ES Fr} {w m:Nat} (hM:∀r,r<m->FT (S.M r w)):∀t,t≤m->∀j,FT (svF S w t j):=by
 intro t;induction t with
 |zero=>intro _ j;exact⟨xL,by rw[show svF S w 0 j=zFr from rfl,abL,EG];omega⟩
 |succ t ih=>
  intro ht j;show FT (if j=S.piv.getD t 0 then S.M t w else svF S w t j);split
  ·exact hM t qqO
  ·exact ih qqO j
theorem afJ (w:Nat) (f:Nat->Fr):(CL.recs 4 (rfL w f)).sub 0 w=.recs 4 (rfL w f):=by
 have:=iT w f;simp only[CL.sub];rw[aoR,anB qqO]
theorem ZF {m w b:Nat} {q:Nat->Nat->Rat} {v:Nat->Rat} (h:jM m w b q) (hv:mP m b v) (hw:1≤w) (hin:w∉(slQ m w q v).piv):
 aB Tryz.prog 93 [tmV m (qmL w q),stV (qsL m v)] (Kv w (svQ (slQ m w q v) w (slQ m w q v).piv.length)):=by
 have hmB:=h.hm;have hwB:=h.hw;have hgl:=R9 h hv;have hA:=vv (m:=m) (w:=w+1) (cols:=w+1) (M0:=auM w (cM q) λi=>can (v i)) h.hm qqO (alo _) (λr hr j hj=>(hgl r hr j hj).1) (als h.hB qqD);obtain⟨h1,h2,h3,h4,_⟩:=jq (yK b) hgl (w+1) (alo _);obtain⟨l1,l2,l3⟩:=fU Ff (w+1) m (auM w (cM q) λi=>can (v i)) (w+1);have hpv:=xK Ff (w+1) m (auM w (cM q) λi=>can (v i)) (w+1);have hft:∀r,r<m->FT ((aO Ff (w+1) m (auM w (cM q) λi=>can (v i)) (w+1)).M r w):=λr hr=>GL.ft (b:=b) (k:=m) ⟨(h1 r hr w qqO).1.ok,als (h1 r hr w qqO).1.le (lY b l1)⟩ h.hB;have hC:=aib w (svF (aO Ff (w+1) m (auM w (cM q) λi=>can (v i)) (w+1)) w (aO Ff (w+1) m (auM w (cM q) λi=>can (v i)) (w+1)).piv.length) (svQ (slQ m w q v) w (aO Ff (w+1) m (auM w (cM q) λi=>can (v i)) (w+1)).piv.length) qqO (λj _=>aie hft _ l1 j) (λj _=>afI h2 (λr hr=>(h1 r hr w qqO).2) _ l1 j);have hc:=afH h hv hw (dF hA) (yT hC);rw[h2]at hin⊢;generalize R8 w=RX at*
 clear h1 h3 h4 hgl hft hA hC;generalize svQ (slQ m w q v) w (aO Ff (w+1) m (auM w (cM q) λi=>can (v i)) (w+1)).piv.length=xq at*
 clear h2;unfold aic at hc;generalize(auM w (cM q) λi=>can (v i))=AU at*
 generalize aO Ff (w+1) m AU (w+1)=S at*
 have hmin:min ((w:Int)+1) ((w+1:Nat):Int)=((w+1:Nat):Int):=qqO;have hP:(pvI S.piv).length=S.piv.length:=by simp[pvI]
 refine au (md:=1) (rf:=[]) mixed ak hc Tryz.func93 qqR qqR qqR ?_;refine wk4 ?_ (λhq=>?_) (λhq=>?_) λhq=>?_;all_goals first|rfl|omega|exact⟨rfl,rfl⟩|(rw[hmin];exact⟨rfl,rfl⟩)|(rw[hmin])|exact Sup.of rfl|skip
 conv=>whnf
 refine Ch 0 qqR λl g hl hnd hg=>?_;conv=>whnf
 refine ace ⟨aH,mixed,ak,hc,aN⟩ 22 qqR ?_;conv=>whnf
 refine aR (X:=Nat) (λt=>t≤S.piv.length) (λt=>[(39,.int .i64 t),(11,.any),(12,.any)]) (λt=>[(22,.cells (.recs 4 (rfL w (svF S w t))) false)]) (λt=>S.piv.length-t) 0 ⟨aH,mixed,ak,hc,aN⟩ qqR qqO ?_ ?_
 ·refine wk2 ?_ ?_
  all_goals first|exact⟨Aq w,by rw[Aq];exact iU _ _⟩|exact iU _ _|exact⟨rfl,iU _ _⟩|exact λ_ _=>trivial|exact⟨λ_ _=>trivial,λ_ _ _=>trivial⟩
 intro t ht;by_cases htl:t<S.piv.length
 ·have hgt:=hg t qqO
  have ht1:(pvI S.piv).getD t 0=((S.piv.getD t 0:Nat):Int):=by simp[pvI,alC,htl]
  have ht3:S.piv.getD t 0∈S.piv:=by rw[alC,alH htl];exact apG _
  have ht2:S.piv.getD t 0<w:=by
   have h1:=hpv _ ht3;have h2:S.piv.getD t 0≠w:=λe=>hin (by rw[<-e];exact ht3)
   omega
  have hlm:l.getD t 0∈l:=by rw[alC,alH qqO];exact apG _
  have hset:(rfL w (svF S w t)).set (S.piv.getD t 0) (frC (S.M t w))=rfL w (svF S w (t+1)):=by rw[yX];rfl
  refine wk7 (λhq hq=>?_) (λhq hq=>?_) (λhq hq=>?_) (λhq hq=>?_) (λhq hq=>?_) (λhq hq=>?_) λhq hq=>?_;all_goals(try simp only[fA,alV,hgt,ht1,anG,iT,cu])
  all_goals first
   |omega
   |exact hlm
   |exact rfl
   |(rw[hset]
     refine⟨t+1,[],⟨qqO,qqO⟩,?_⟩;refine wk2 ?_ ?_;all_goals first|exact⟨rfl,iU _ _⟩|exact iU _ _|exact λ_ _=>trivial|exact⟨λ_ _=>trivial,λ_ _ _=>trivial⟩)
 ·have:t=S.piv.length:=qqO
  subst this;refine wk4 (λhq=>?_) (λhq=>?_) (λhq=>?_) λhq=>?_;all_goals first
   |omega
   |exact iU _ _
   |exact Nat.le_of_eq (iT _ _).symm
   |(rw[afJ])
   |exact Sup.of rfl
def aif (m w:Nat) (D:bL Fr) (y:Nat->Fr):PSp:=λys K=>∃c:Ky,VC (ys=[.isl (.recs 4 (rfL m λi=>D i c.n)) .none,frL m y]/\c.n≤w)/\K (frV (pdF (λi=>D i c.n) y m))
theorem afK {m w B:Nat} {D:bL Fr} {y:Nat->Fr} (hm:m≤1000000) (hf:∀c,c≤w->∀i,i<m->FB (D i c)/\FB (y i)/\(D i c).L+(y i).L+1≤B) (hB:1+m*B≤10000000000):POK Tryz.prog 173 (aif m w D y):=by
 rintro ys K ⟨⟨c⟩,⟨⟨rfl,hc⟩⟩,h1⟩
 refine⟨_,h1,dh (ys:=[frL m λi=>D i c,frL m y]) (λS wd vs hA=>⟨hA.1,λi hi=>?_⟩) (Wt m (λi=>D i c) y hm (hf c hc) hB)⟩;have:=hA.2 i hi
 match i,hi with
 |0,_=>exact jK (lK m λi=>D i c) this
 |1,_=>exact this
def crQ (m w:Nat) (q:Nat->Nat->Rat) (v y:Nat->Rat):Bool:=(alA (w+1)).all λc=>decide (pdV (λi=>auQ w q v i c) y m=if c=w then 1 else 0)
noncomputable def abN (m w:Nat) (q:Nat->Nat->Rat) (v y:Nat->Rat):CPT:=ay 169 (dX [] (lJ [tmV m (qmL w q),stV (qsL m v)] [] [.rsl 0 0 m,.int .i64 0] [qmF m (w+1) (auM w (cM q) λi=>can (v i))])) (iJ 130 [tmV m (qmL w q)] (.int .i64 (w:Nat)) (ay 157 (dX [] (lJ [.rsl 0 0 m] [qmF m (w+1) (auM w (cM q) λi=>can (v i))] [.int .i64 ((w+1:Nat):Int)] [qmF m (w+1) (auM w (cM q) λi=>can (v i))])) (ay 113 (aJ rJ) (ay 114 (aJ lu) (iJ 161 [stV (qsL m y)] (.int .i64 0) (iJ 172 [stV (qsL m y)] (frL m λi=>can (y i)) (ay 132 (aU ffP) (ay 173 (aU (aif m w (auM w (cM q) λi=>can (v i)) λi=>can (y i))) (ay 174 (aU abz) noC)))))))))
theorem Sb {q:Rat} {b:Nat} (h:RL q≤b) (hb:b≤400000000):FB (can q):=JG qqO
theorem ZG {m w b:Nat} {q:Nat->Nat->Rat} {v y:Nat->Rat} (h:jM m w b q) (hv:mP m b v) (hy:mP m b y) (hB:1+m*(b+b+1)≤10000000000) (hb:b≤400000000):aZ Tryz.prog (abN m w q v y):=
 aj (bX [] (dF (Kt h hv))) (bB (by have:=vk m (qmL w q) (EI h);rw[Ku h.hm.1]at this;exact this) (aj (bX [] (dF (Au m (w+1) _ h.hm))) (aj (aA jr) (aj (aA jJ) (bB (by have:=xI _ (hy.rw h.hm.2);rw[hy.hz]at this;exact this) (bB (Df m y (by have:=h.hm;omega) hy.hs) (aj (aF CG) (aj (aF (afK (B:=b+b+1) (by have:=h.hm;omega) (λc hc i hi=>by
  obtain⟨g1,g2⟩:=R9 h hv i hi c qqO;have h3:=hy.hL i hi;have h4:=g1.le;unfold Bd at h4;have h5:(can (y i)).L≤b:=by rw[mO];exact h3
  exact⟨⟨g1.ok,qqO⟩,Sb h3 hb,qqO⟩) hB)) (aj (aF aeC) aC)))))))))
theorem ZH (n:Nat) (f:Nat->Fr):rfL n f++[frC (f n)]=rfL (n+1) f:=by simp[rfL,aoQ]
theorem ZI {m w b:Nat} {q:Nat->Nat->Rat} {v y:Nat->Rat} (h:jM m w b q) (hv:mP m b v) (hy:mP m b y) (hB:1+m*(b+b+1)≤10000000000) (hb:b≤400000000):
 aB Tryz.prog 95 [tmV m (qmL w q),stV (qsL m v),stV (qsL m y)] (.int .i64 (if crQ m w q v y=true then 0 else 19)):=by
 have hmB:=h.hm;have hwB:=h.hw;have hc:=ZG h hv hy hB hb;unfold abN at hc;have hgl:=R9 h hv;have hpd:∀c,c≤w->FB (pdF (λi=>auM w (cM q) (λi=>can (v i)) i c) (λi=>can (y i)) m)/\(pdF (λi=>auM w (cM q) (λi=>can (v i)) i c) (λi=>can (y i)) m).val=pdV (λi=>auQ w q v i c) y m:=λc hc=>by
  have hx:=Kr (n:=m) (f:=λi=>auM w (cM q) (λi=>can (v i)) i c) (g:=λi=>can (y i)) m (alo m);have hL:=abM (n:=m) (B:=b+b+1) (f:=λi=>auM w (cM q) (λi=>can (v i)) i c) (g:=λi=>can (y i)) (λi hi=>by
   have h1:=(hgl i hi c qqO).1.le;unfold Bd at h1;have h2:=hy.hL i hi;have h5:(can (y i)).L≤b:=by rw[mO];exact h2
   show(auM w (cM q) (λi=>can (v i)) i c).L+(can (y i)).L+1≤_;omega) m (alo m)
  refine⟨⟨hx.1,qqO⟩,hx.2.trans ?_⟩;have:∀t,t≤m->pdV (λi=>(auM w (cM q) (λi=>can (v i)) i c).val) (λi=>(can (y i)).val) t=pdV (λi=>auQ w q v i c) y t:=λt=>by
   induction t with
   |zero=>intro _;rfl
   |succ t ih=>
    intro ht;show pdV _ _ t+(auM w (cM q) (λi=>can (v i)) t c).val*(can (y t)).val=pdV _ _ t+auQ w q v t c*y t;rw[ih qqO,(hgl t qqO c qqO).2,d9]
  exact this m (alo m)
 have hcr:∀c,c≤w->crQ m w q v y=true->pdV (λi=>auQ w q v i c) y m=if c=w then 1 else 0:=λc hc hq=>of_decide_eq_true (am8.1 hq c (anj.2 qqO));have hcr2:(∀c,c≤w->pdV (λi=>auQ w q v i c) y m=if c=w then 1 else 0)->crQ m w q v y=true:=λhq=>am8.2 λc hc=>decide_eq_true (hq c (by have:=anj.1 hc;omega))
 have hpd2:=λc hc=>(hpd c hc).1;have hpd3:=λc hc=>(hpd c hc).2;clear hpd hgl;generalize hPV:(λc=>pdV (λi=>auQ w q v i c) y m)=PV1 at*
 have hPV':∀c,pdV (λi=>auQ w q v i c) y m=PV1 c:=λc=>congrFun hPV c;simp only[hPV']at hcr hcr2 hpd3;generalize crQ m w q v y=R at*
 generalize(auM w (cM q) λi=>can (v i))=AU at*
 have hly:=gU m y;generalize qsL m y=ly at*
 generalize(λi=>can (y i))=Y at*
 refine au (md:=1) (rf:=[]) mixed ak hc Tryz.func95 qqR qqR qqR ?_;refine wk3 ?_ (λhq=>?_) λhq hq=>?_;all_goals first|rfl|omega|exact⟨rfl,rfl⟩|(exfalso;simp_all[dZ];done)|(exfalso;simp_all[dZ];omega)|exact Sup.of rfl|skip
 conv=>whnf
 refine aiQ ⟨aH,mixed,ak,hc,aN⟩ 0 (fnM (w+1) AU) qqR (λi hi=>⟨rfl,lK _ _⟩) ?_;conv=>whnf
 refine Qh ⟨aH,mixed,ak,hc,aN⟩ 0 qqR ?_;conv=>whnf
 refine aR (X:=Nat) (λc=>c≤w+1/\∀j,j<c->PV1 j=if j=w then 1 else 0) (λc=>[(43,.int .i64 c),(11,.any),(12,.any),(14,.any),(15,.any),(48,.any),(46,.any),(47,.any)]) (λ_=>[]) (λc=>w+1-c) 0 ⟨aH,mixed,ak,hc,aN⟩ qqR ⟨qqO,λj hj=>qqO⟩ ?_ ?_
 ·exact wk0
  all_goals first|exact λ_ _=>trivial
 intro c ⟨hcl,hok⟩;obtain⟨ky,rfl⟩:∃ky:Ky,c=ky.n:=⟨⟨c⟩,rfl⟩;by_cases hlt:ky.n<w+1
 ·have hcw:=hpd2 ky.n qqO
  have hcv:=hpd3 ky.n qqO;have hRf:PV1 ky.n≠(if ky.n=w then 1 else 0)->R=false:=λhne=>by
   cases R with
   |false=>rfl
   |true=>exact absurd (hcr ky.n qqO rfl) hne
  have nxt:PV1 ky.n=(if ky.n=w then 1 else 0)->∀j,j<ky.n+1->PV1 j=if j=w then 1 else 0:=λa j hj=>by
   by_cases e:j=ky.n
   ·rw[e];exact a
   ·exact hok j qqO
  clear hcr hcr2 hok hpd2 hpd3;have hfz:FB zFr:=Sb (b:=1) (q:=0) (by rw[EG];omega) qqO
  have hfo:FB oFr:=by rw[sS];exact Sb (b:=1) qqV qqO
  have hch:∀x:Fr,chunks qR.size 1 (frC x)=[frC x]:=λx=>rfl;have hov:Fr.val ⟨⟨1,[]⟩,⟨gD.s,gD.w⟩⟩=1:=Ov;have hzv:Fr.val ⟨⟨0,[]⟩,⟨gD.s,gD.w⟩⟩=0:=EH;have hsn:=λr=>ZH r λi=>AU i ky.n;refine wk1 λhq=>?_;all_goals first|omega|skip
  conv=>whnf
  refine aR (X:=Nat) (λr=>r≤m) (λr=>[(48,.int .i64 r),(14,.any),(12,.isl (.recs 4 (rfL r λi=>AU i ky.n)) (.own 3))]) (λr=>[(3,.tok 4 r)]) (λr=>m-r) 0 ⟨aH,mixed,ak,hc,aN⟩ qqR qqO ?_ ?_
  ·exact wk0
   all_goals first|exact λ_ _=>trivial|rfl
  intro r hr;have hl1:=iT r λi=>AU i ky.n;by_cases hrm:r<m
  ·have hs:=hsn r
   refine wk5 (λhq=>?_) (λhq=>?_) (λhq=>?_) (λhq=>?_) λhq=>?_;all_goals(try simp only[fA,alV,hch,amL,alj,alf,hl1])
   all_goals first
    |omega
    |exact rfl
    |(refine⟨r+1,[],⟨qqO,qqO⟩,?_⟩
      refine wk1 ?_;all_goals first|exact congrArg (CL.recs 4) hs|exact hs|rfl)
  ·have:r=m:=qqO
   subst this;by_cases hcw2:ky.n=w
   ·rw[if_pos hcw2]at hRf nxt
    repeat'((conv=>whnf);first|refine Exists.intro (ky) ?_|(intro hq;(try simp only[vw]at hq);try exact aV hq)|apply aI|exact aD|apply nM|apply fM)
    all_goals((try apply vM);(try simp only[vq]at*);try omega)
    all_goals(try simp only[cu,hcv]at*)
    all_goals first
     |omega
     |exact⟨rfl,qqO⟩
     |exact⟨hcw,hfo⟩
     |(have hq2:¬PV1 ky.n=1:=by rw[hov]at hq;simpa using hq
       rw[hRf hq2];exact Sup.of rfl)
     |(have hq2:PV1 ky.n=1:=by rw[hov]at hq;simpa using hq
       refine⟨ky.n+1,[],⟨⟨qqO,nxt hq2⟩,qqO⟩,?_⟩;exact wk0;all_goals first|exact λ_ _=>trivial|rfl)
   ·rw[if_neg hcw2]at hRf nxt
    repeat'((conv=>whnf);first|refine Exists.intro (ky) ?_|(intro hq;(try simp only[vw]at hq);try exact aV hq)|apply aI|exact aD|apply nM|apply fM)
    all_goals((try apply vM);(try simp only[vq]at*);try omega)
    all_goals(try simp only[cu,hcv]at*)
    all_goals first
     |omega
     |exact⟨rfl,qqO⟩
     |exact⟨hcw,hfz⟩
     |(have hq2:¬PV1 ky.n=0:=by rw[hzv]at hq;simpa using hq
       rw[hRf hq2];exact Sup.of rfl)
     |(have hq2:PV1 ky.n=0:=by rw[hzv]at hq;simpa using hq
       refine⟨ky.n+1,[],⟨⟨qqO,nxt hq2⟩,qqO⟩,?_⟩;exact wk0;all_goals first|exact λ_ _=>trivial|rfl)
 ·have:ky.n=w+1:=qqO
  have hR:R=true:=hcr2 λj hj=>hok j qqO;rw[hR];refine wk1 λhq=>?_;all_goals first
   |omega
   |(rw[if_neg qqO,if_pos trivial];exact Sup.of rfl)
   |exact Sup.of rfl
end Go.Eng.YtmkagljofpddpaaGreatDoor
